/- A part of the proof of FnExactDesk: see the text YthdljdelfgofdaaGreatDoorLawFnExactDesk for what is proved and its conditions. Conditions here: those in each line. -/
import Derived.Below
import Derived.Calls
import Derived.Great.BuildSlice
import Derived.Laws.Append
import Derived.Laws.AppendOwn
import Derived.Laws.BytesString
import Derived.Laws.Cells
import Derived.Laws.CopyRow
import Derived.Laws.Entries
import Derived.Laws.MakeOwn
import Derived.Laws.NewBlocks
import Derived.Laws.Rows
import Derived.Laws.Sem
import Derived.Laws.Slices
import Derived.Laws.Tables
import Derived.Orders
import Derived.Test.YthdljdelfgofdaaGreatDoorProg
set_option linter.unusedSimpArgs false
set_option linter.unusedVariables false
set_option linter.unusedSectionVars false
namespace Go.Proofs.YthdljdelfgofdaaGreatDoor.Ev
open Go
abbrev AV:=@List.length_cons
abbrev Bq:=@List.length_nil
abbrev B6:=@List.getElem_mem
abbrev BJ:=@List.mem_cons_self
abbrev CB:=@List.getElem?_eq_getElem
abbrev Co:=@List.mem_cons_of_mem
abbrev B4:=@Nat.le_refl
abbrev Cv:=@List.length_pos_iff
abbrev BT:=@List.mem_append
abbrev Cw:=@List.length_append
abbrev CC:=@List.mem_append_left
abbrev D5:=@List.drop_eq_getElem_cons
abbrev Ds:=@List.mem_append_right
abbrev Cj:=@List.mem_cons
abbrev D6:=@List.take_of_length_le
abbrev Df:=@List.getElem?_take
abbrev Cd:=@Nat.zero_le
abbrev Var:=@Array.getElem?_eq_getElem
abbrev C7:=@List.map_cons
abbrev Dt:=@List.getElem?_map
abbrev EV:=@List.getElem?_append_left
abbrev FD:=@List.getElem?_append_right
abbrev D7:=@List.getElem?_drop
abbrev EW:=@Option.isSome_iff_exists
abbrev Gt:=@List.eq_nil_of_length_eq_zero
abbrev Ep:=@List.mem_of_getElem?
abbrev EX:=@List.drop_eq_nil_of_le
abbrev DS:=@List.flatten_cons
abbrev D8:=@Option.map_some
abbrev Du:=@Bool.not_true
abbrev Hz:=@Array.getElem?_eq_some_iff
abbrev EC:=@List.nodup_append
abbrev FV:=@List.mem_of_mem_drop
abbrev FW:=@List.mem_of_mem_take
abbrev Dx:=@List.mem_map
abbrev HT:=@List.sublist_append_right
abbrev DT:=@List.all_cons
abbrev FE:=@List.flatMap_cons
abbrev EY:=@List.take_length
abbrev ED:=@List.nodup_cons
abbrev H0:=@List.getElem?_of_mem
abbrev FX:=@List.length_take
abbrev FY:=@Option.getD_some
abbrev GU:=@Nat.lt_of_lt_of_le
abbrev FF:=@Bool.not_false
abbrev Gu:=@List.append_nil
abbrev Gv:=@List.map_append
abbrev OP:=@Array.getD_eq_getD_getElem?
abbrev OQ:=@List.perm_append_comm_assoc
abbrev OR:=@List.getD_eq_getElem?_getD
abbrev H2:=@List.foldl_cons
abbrev HU:=@List.cons_append
abbrev HV:=@List.not_mem_nil
abbrev GV:=@Bool.true_and
abbrev L2:=@List.mem_replicate
abbrev Nf:=@Nat.mul_le_mul_right
abbrev GW:=@Nat.add_zero
abbrev GX:=@List.map_nil
abbrev GY:=@List.map_map
abbrev HW:=@Bool.false_and
abbrev JL:=@List.length_map
abbrev JM:=@List.length_set
abbrev OS:=@Bool.or_eq_false_iff
abbrev Ng:=@List.Sublist.refl
abbrev Nh:=@Int.toNat_natCast
abbrev Ni:=@Bool.not_eq_true'
abbrev L3:=@List.nil_append
abbrev OT:=@List.map_congr_left
abbrev OU:=@List.getElem_of_mem
abbrev S9:=@List.getElem?_eq_none
abbrev SA:=@List.length_filter_le
abbrev OV:=@Option.isSome_some
abbrev L4:=@List.drop_zero
abbrev JN:=@Nat.succ_mul
abbrev Nj:=@Bool.or_eq_true
abbrev OW:=@Function.comp_def
abbrev L5:=@Bool.and_true
abbrev L6:=@Bool.and_self
abbrev UF:=@Nat.add_sub_cancel_left
abbrev eM:=@Array.getElem?_setIfInBounds
abbrev Gx:=@Eq.trans
abbrev UG:=@List.drop_of_length_le
abbrev L7:=@Nat.le_trans
abbrev L9:=@Nat.lt_or_ge
abbrev UH:=@Classical.choose_spec
abbrev OX:=@List.mem_filter
abbrev eN:=@Array.getElem?_append_left
abbrev Nk:=@List.any_cons
abbrev SB:=@List.foldl_append
abbrev eP:=@List.mem_or_eq_of_mem_set
abbrev UI:=@Nat.pow_le_pow_right
abbrev LA:=@Int.le_refl
abbrev SC:=@List.perm_middle
abbrev UJ:=@List.Sublist.append
abbrev UK:=@Int.emod_lt_of_pos
abbrev UL:=@List.ext_getElem?
abbrev eQ:=@List.getElem?_toArray
abbrev eR:=@List.perm_append_comm
abbrev OY:=@Nat.zero_add
abbrev eS:=@Array.getElem?_toList
abbrev eT:=@List.take_append_drop
abbrev eU:=@List.length_replicate
abbrev UM:=@Nat.mod_eq_of_lt
abbrev eV:=@BitVec.ofInt_natCast
abbrev UN:=@List.flatten_nil
abbrev UO:=@List.flatMap_def
abbrev UP:=@List.cons.injEq
abbrev UQ:=@Int.emod_nonneg
abbrev eW:=@List.filter_append
abbrev SD:=@Nat.pow_succ
abbrev SE:=@Int.mul_comm
abbrev eX:=@BitVec.toNat_ofNat
abbrev UR:=@List.mem_range
abbrev US:=@Bool.and_false
abbrev sY:=@Classical.axiomOfChoice
abbrev sZ:=@Int.eq_ofNat_of_zero_le
abbrev s7:=@Array.getElem?_eq_none
abbrev UT:=@Bool.false_or
abbrev eY:=@Nat.le_of_not_lt
abbrev eZ:=@List.length_drop
abbrev e9:=@List.mem_flatten
abbrev fA:=@List.cons_ne_nil
abbrev fB:=@List.countP_cons
abbrev fC:=@List.getElem_map
abbrev UU:=@List.all_nil
abbrev fD:=@Option.map_none
abbrev s8:=@List.range_eq_range'
abbrev UW:=@Int.min_comm
abbrev Vdu:=@List.take_append_of_le_length
abbrev s9:=@List.drop_succ_cons
abbrev tA:=@List.getElem?_range
abbrev tB:=@List.flatMap_append
abbrev fE:=@List.foldl_nil
abbrev tC:=@List.getElem_range
abbrev tD:=@Nat.pos_of_ne_zero
abbrev tE:=@Nat.eq_zero_or_pos
abbrev tF:=@List.length_range
abbrev tG:=@Array.size_append
abbrev UX:=@Array.ext'
abbrev Vd5:=@List.pairwise_iff_getElem
abbrev tH:=@Nat.lt_of_not_le
abbrev fF:=@Nat.add_comm
abbrev fG:=@Nat.zero_mul
abbrev tI:=@List.range'_succ
abbrev Vea:=@List.getElem?_cons_succ
abbrev Veb:=@List.getElem?_replicate
abbrev Vec:=@List.Perm.append_right
abbrev Ved:=@List.sublist_cons_self
abbrev Vee:=@Array.mem_of_getElem?
abbrev Vef:=@List.countP_le_length
abbrev tJ:=@Int.mul_nonneg
abbrev tK:=@Bool.or_false
abbrev tL:=@Bool.not_not
theorem Ag {α β : Type} {a : α} {f : α -> Option β} : (some a).bind f = f a := rfl
theorem A9 {α β : Type} {x : Option α} {f : α -> Option β} {b : β} : x.bind f = some b ↔ ∃ a, x = some a /\ f a = some b := Option.bind_eq_some_iff
theorem AL {α β : Type} {x : Option α} {f : α -> β} {b : β} : x.map f = some b ↔ ∃ a, x = some a /\ f a = b := Option.map_eq_some_iff
theorem AE {α : Type} (a b : α) : (some a = some b) = (a = b) := Option.some.injEq a b
theorem Bn : (false = true) = False := Bool.false_eq_true
theorem Bg (a b : Bool) : ((a && b) = true) = (a = true /\ b = true) := Bool.and_eq_true a b
theorem CX {α : Type} {l : List α} {i : Nat} {a : α} : l[i]? = some a ↔ ∃ h : i < l.length, l[i] = a := List.getElem?_eq_some_iff
theorem Ai {c : Prop} {h : Decidable c} (hn : ¬c) {α : Type} {t e : α} : ite c t e = e := if_neg hn
theorem Ah {c : Prop} {h : Decidable c} (hn : c) {α : Type} {t e : α} : ite c t e = t := if_pos hn
theorem Cb {α : Type} {p : α -> Bool} {l : List α} : l.all p = true ↔ ∀ x, x ∈ l -> p x = true := List.all_eq_true
theorem Bj {p : Prop} [Decidable p] : (decide p = true) = p := decide_eq_true_eq
theorem A6 {α β : Type} (a : α) (b : β) (c : α) (d : β) : ((a, b) = (c, d)) = (a = c /\ b = d) := Prod.mk.injEq a b c d
abbrev Id:=Nat×Nat
inductive V where
 | undef
 | lit (v:Value)
 | agg (cs:List V)
 | AW (vs:List V)
 | ptr (id:Id) (i off:Nat)
 | rp (sh:Bool) (row:List V) (off:Nat)
 | sl (id:Id) (off len:Nat)
 | tr (rows:List (List V))
 | vw (rows:List (List V))
 | own (e:TypeId) (rows:List (List V))
 | CM (cs:List V)
 | fn (f:FuncId) (Bu:List V)
 deriving Inhabited
structure Bd where
 box:Bool
 own:Bool
 cl:Bool
 el:TypeId
 rows:List (List V)
structure St where
 env:Nat->V
 heap:Id->Option Bd
 ep:Nat
def Bi {α β:Type} [DecidableEq α] (f:α->β) (a:α) (b:β):α->β:=λx=>if x=a then b else f x
def St.put (s:St) (dst:Option Tmp) (v:V):St:=match dst with|some d=>{s with env:=Bi s.env d v}|none=>s
def St.A5 (s:St) (id:Id) (b:Bd):St:={s with heap:=Bi s.heap id (some b)}
def St.kill (s:St) (id:Id):St:={s with heap:=Bi s.heap id none}
def eval? {α:Type} (P:Program):Sem α->Option α
 | .pure a=>some a
 | .program k=>eval? P (k P)
 | _=>none
def J8:Value->Bool
 | .bool _|.int _ _|.string _|.float _ _|.pointer none|.slice none 0 0|.nilFunc|.nilIface=>true
 | _=>false
def EE:List V->Option (List Value)
 | []=>some []
 | .lit v::r=>(EE r).map (v::·)
 | _=>none
def Qi:V->Option Value
 | .lit v=>some v
 | .agg cs=>(EE cs).map λl=>.agg l.toArray
 | _=>none
def Gy:Value->Option V
 | .agg cs=>if cs.toList.all J8 then some (.agg (cs.toList.map .lit)) else none
 | v=>if J8 v then some (.lit v) else none
def St.AP (s:St):Operand->V
 | .tmp t=>s.env t
 | .const v=>(Gy v).getD .undef
 | .func f=>.fn f []
 | .global _=>.undef
def SF {α:Type}:List (Option α)->Option (List α)
 | []=>some []
 | some a::r=>(SF r).map (a::·)
 | none::_=>none
def Nl:Op->Bool
 | .binOp ..|.unOp ..|.convert ..|.index ..|.slice ..|.field ..=>true
 | .call {callee:=.builtin .len,..}|.call {callee:=.builtin .min,..}|.call {callee:=.builtin .max,..}=>true
 | _=>false
def W6 (P:Program) (v:Operand->V) (o:Oper):Option V:=
 if Nl o.op&&o.op.operands.toList.all (λx=>(Qi (v x)).isSome) then
  match eval? P (execOp (λx=>(Qi (v x)).getD undef) o) with
  | some (.value v)=>Gy v
  | _=>none
 else none
def H3 (P:Program) (t:TypeId):Bool:=match P.underlying t with|some (.struct _)|some (.array _ _)=>true|_=>false
def OZ (P:Program) (t:TypeId):Bool:=match P.underlying t with|some (.pointer _)=>true|_=>false
def Z2 (P:Program) (t:TypeId):Nat:=P.cellsOf t
def EZ (P:Program) (t:TypeId):Option (List V):=((P.info? t).bind (·.zero)).bind λz=>if z.cells.toList.all J8 then some (z.cells.toList.map .lit) else none
def Qo (P:Program) (t:TypeId):Option TypeId:=match P.underlying t with|some (.slice e)=>some e|_=>none
def tM (P:Program) (t:TypeId) (k:Nat):Option Nat:=match P.underlying t with|some (.struct fs)=>(fs[k]?).bind λf=>if P.cellsOf f.type=0 then none else some f.offset|_=>none
def EF:V->V
 | .lit (.slice none 0 0)=>.tr []
 | x=>x
def LB:V->Option (List V)
 | .agg cs=>some cs
 | .AW _|.undef|.own _ _|.CM _=>none
 | x=>some [x]
def AF:V->Bool
 | .lit _|.tr _|.vw _|.rp ..|.ptr ..|.sl ..|.fn ..=>true
 | _=>false
def St.rowsOf (s:St):V->Option (List (List V))
 | .sl id off len=>(s.heap id).bind λb=>if b.box=false/\off+len<=b.rows.length then some ((b.rows.drop off).take len) else none
 | .tr rows|.vw rows=>some rows
 | .lit (.slice none 0 0)=>some []
 | _=>none
def St.whole (s:St) (id:Id) (off len:Nat):Option (TypeId×List (List V)):=
 (s.heap id).bind λb=>if b.box=false/\b.own=true/\b.cl=true/\off+len<=b.rows.length then some (b.el,(b.rows.drop off).take len) else none
def St.sink (s:St):List V->Option (List V×Bool×St)
 | []=>some ([],true,s)
 | x::r=>
  match x with
  | .lit (.slice none 0 0)=>(s.sink r).map λy=>(.tr []::y.1,y.2)
  | .lit v=>(s.sink r).map λy=>(.lit v::y.1,y.2)
  | .tr rows|.vw rows=>(s.sink r).map λy=>(.tr rows::y.1,false,y.2.2)
  | .sl id off len=>match s.whole id off len with
   | some er=>((s.kill id).sink r).map λy=>(.tr er.2::y.1,y.2)
   | none=>match s.heap id with
    | some b=>if b.own=false then (s.rowsOf (.sl id off len)).bind λrows=>(s.sink r).map λy=>(.tr rows::y.1,false,y.2.2) else none
    | none=>none
  | _=>none
def St.Bp (s:St):List (List V)->Option (List (List V)×Bool×St)
 | []=>some ([],true,s)
 | row::r=>(s.sink row).bind λy=>(y.2.2.Bp r).map λz=>(y.1::z.1,y.2.1&&z.2.1,z.2.2)
def Dg (l:List V) (off:Nat) (vs:List V):List V:=l.take off++vs++l.drop (off+vs.length)
def JO (P:Program) (t:TypeId) (cs:List V):Option V:=
 if (P.underlying t).isSome then if H3 P t then some (.agg cs) else match cs with|[x]=>some x|_=>none else none
def fH (P:Program):Nat->TypeId->List (Option TypeId)
 | 0,_=>[]
 | n+1,t=>match P.underlying t with
  | some (.struct fs)=>fs.toList.flatMap λf=>fH P n f.type
  | some (.array k e)=>(List.replicate k (fH P n e)).flatten
  | some (.slice e)=>[some e]
  | _=>[none]
def SG (P:Program) (t:TypeId):List (Option TypeId):=match P.underlying t with|some (.pointer e)=>fH P 9 e|_=>fH P 9 t
inductive Yt where
 | rd|io|mv|Er
 deriving DecidableEq
def St.BA (s:St):V->Option V
 | .lit (.slice none 0 0)=>some (.tr [])
 | .lit v=>some (.lit v)
 | .tr rows|.vw rows=>some (.tr rows)
 | .sl id off len=>(s.rowsOf (.sl id off len)).map .tr
 | .rp _ row off=>some (.rp true row off)
 | _=>none
def St.B0 (s:St):List V->Option (List V)
 | []=>some []
 | x::r=>(s.BA x).bind λy=>(s.B0 r).map (y::·)
def St.Br (s:St):V->Option V
 | .ptr id i off=>(s.heap id).bind λb=>if b.own=true then (b.rows[i]?).bind λrow=>(s.B0 row).map λcs=>.rp true cs off else none
 | x=>s.BA x
def St.Bz (s:St):List V->Option (List V)
 | []=>some []
 | x::r=>(s.Br x).bind λy=>(s.Bz r).map (y::·)
def St.C1 (s:St):V->Option V
 | .agg cs=>(s.B0 cs).map .agg
 | .fn f Bu=>(s.Bz Bu).map (.fn f)
 | x=>s.Br x
def St.Cm (s:St) (m:Yt) (x:V):Option V:=match m with|.rd=>s.C1 x|_=>some x
def St.BL (s:St):List Yt->List V->Option (List V)
 | _,[]=>some []
 | ms,x::r=>(s.Cm (ms.headD .rd) x).bind λy=>(s.BL ms.tail r).map (y::·)
def St.AA (s:St) (t:Option TypeId):V->Option (V×St)
 | .lit (.slice none 0 0)=>t.map λe=>(.own e [],s)
 | .lit v=>some (.lit v,s)
 | .tr rows|.vw rows=>some (.tr rows,s)
 | .sl id off len=>(s.whole id off len).map λer=>(.own er.1 er.2,s.kill id)
 | _=>none
def St.AK (s:St):List (Option TypeId)->List V->Option (List V×St)
 | _,[]=>some ([],s)
 | ts,x::r=>(s.AA (ts.headD none) x).bind λy=>(y.2.AK ts.tail r).map λz=>(y.1::z.1,z.2)
def St.Ba (s:St) (ts:List (Option TypeId)):V->Option (V×St)
 | .agg cs=>(s.AK ts cs).map λy=>(.agg y.1,y.2)
 | x=>s.AA (ts.headD none) x
def BU:V->V
 | .sl _ _ 0=>.tr []
 | x=>x
def thin:V->V
 | .agg cs=>.agg (cs.map BU)
 | x=>BU x
def St.Bv (s:St) (ts:List (Option TypeId)) (id:Id):Option (List V×St):=
 (s.heap id).bind λb=>if b.box=true/\b.own=true then match b.rows with
  | [row]=>(s.kill id).AK ts row
  | _=>none else none
def St.Bh (s:St) (t:Option TypeId):V->Option (V×St)
 | .ptr id 0 0=>(s.Bv [] id).map λy=>(.CM y.1,y.2)
 | x=>s.AA t x
def St.AQ (s:St):List (Option TypeId)->List V->Option (List V×St)
 | _,[]=>some ([],s)
 | ts,x::r=>(s.Bh (ts.headD none) x).bind λy=>(y.2.AQ ts.tail r).map λz=>(y.1::z.1,z.2)
def St.Be (s:St) (ts:List (Option TypeId)) (id:Id):Option (List V×St):=
 (s.heap id).bind λb=>if b.box=true/\b.own=true then match b.rows with
  | [row]=>(s.kill id).AQ ts row
  | _=>none else none
def St.Db (s:St) (ts:List (Option TypeId)) (m:Yt) (x:V):Option (V×St):=
 match m with
 | .rd=>some (x,s)
 | .io=>match x with
  | .ptr id 0 0=>(s.Be ts id).map λy=>(.agg y.1,y.2)
  | _=>none
 | .mv=>s.Ba ts x
 | .Er=>s.Ba ts (thin x)
def St.Bs (P:Program) (s:St):List TypeId->List Yt->List V->Option (List V×St)
 | _,_,[]=>some ([],s)
 | ts,ms,x::r=>(s.Db (SG P (ts.headD 0)) (ms.headD .rd) x).bind λy=>(y.2.Bs P ts.tail ms.tail r).map λz=>(y.1::z.1,z.2)
def St.AS (s:St) (id:Id):V->Option (V×St)
 | .own e rows=>some (.sl id 0 rows.length,s.A5 id ⟨false,true,true,e,rows⟩)
 | .lit v=>some (.lit v,s)
 | .tr rows=>some (.tr rows,s)
 | _=>none
def St.AN (s:St) (e:Nat):(k:Nat)->List V->Option (List V×St)
 | _,[]=>some ([],s)
 | k,x::r=>(s.AS (e,k) x).bind λy=>(y.2.AN e (k+1) r).map λz=>(y.1::z.1,z.2)
def St.Bb (s:St) (e k:Nat):V->Option (V×St)
 | .agg cs=>if cs.length<=62 then (s.AN e k cs).map λy=>(.agg y.1,y.2) else none
 | .CM cs=>if cs.length<=62 then (s.AN e k cs).map λy=>(.ptr (e,k+63) 0 0,y.2.A5 (e,k+63) ⟨true,true,true,0,[y.1]⟩) else none
 | x=>s.AS (e,k) x
def St.Bw (s:St) (e:Nat):(k:Nat)->List V->Option (List V×St)
 | _,[]=>some ([],s)
 | k,x::r=>(s.Bb e (64*k) x).bind λy=>(y.2.Bw e (k+1) r).map λz=>(y.1::z.1,z.2)
def St.BB (s:St) (e k:Nat):V->Option (V×St)
 | .AW vs=>if vs.length<=8 then (s.Bw e k vs).map λy=>(.AW y.1,y.2) else none
 | x=>s.Bb e (64*k) x
def JP:V->Nat
 | .CM cs=>cs.length+1
 | _=>1
def wt:List V->Nat
 | []=>0
 | x::r=>JP x+wt r
def St.B1 (s:St) (e k:Nat):V->Option (V×St)
 | .CM cs=>(s.AN e (k+1) cs).map λy=>(.ptr (e,k) 0 0,y.2.A5 (e,k) ⟨true,true,true,0,[y.1]⟩)
 | x=>s.AS (e,k) x
def St.AX (s:St) (e:Nat):(k:Nat)->List V->Option (List V×St)
 | _,[]=>some ([],s)
 | k,x::r=>(s.B1 e k x).bind λy=>(y.2.AX e (k+JP x) r).map λz=>(y.1::z.1,z.2)
def St.BC (s:St) (e k:Nat) (cs:List V):Option (V×St):=
 if wt cs<=62 then (s.AX e k cs).map λy=>(.ptr (e,k+63) 0 0,y.2.A5 (e,k+63) ⟨true,true,true,0,[y.1]⟩) else none
def St.AO (s:St):List V->List V->Option St
 | [],_=>some s
 | .sl id 0 _::os,.own e rows::ns=>(s.A5 id ⟨false,true,true,e,rows⟩).AO os ns
 | _::os,_::ns=>s.AO os ns
 | _::_,[]=>none
def St.back (s:St) (m:Yt) (e k:Nat) (x o:V):Option St:=
 match m with
 | .rd|.mv=>some s
 | .io=>match x,o with
  | .ptr id 0 0,.agg cs=>if wt cs<=62 then (s.AX e (64*k) cs).map λy=>y.2.A5 id ⟨true,true,true,0,[y.1]⟩ else none
  | _,_=>none
 | .Er=>match thin x,o with
  | .agg cs,.agg ns=>s.AO cs ns
  | x,o=>s.AO [x] [o]
def St.BF (s:St) (e:Nat):List Yt->(k:Nat)->List V->List V->Option St
 | _,_,[],_=>some s
 | ms,k,x::xs,o::os=>(s.back (ms.headD .rd) e k x o).bind λs=>s.BF e ms.tail (k+1) xs os
 | _,_,_::_,[]=>none
abbrev Kf:=FuncId->List V->Option (V×List V)
def GZ (n:Nat) (rows:List (List V)):Bool:=rows.all λr=>r.length == n
def LC:V->Bool|.lit _=>true|_=>false
def Fa (rows:List (List V)):Bool:=rows.all λr=>r.all LC
def St.Cp (s:St) (all:Bool):V->Option (List (List V)×Bool×St)
 | .sl id off len=>match (if id.1=s.ep\/all=true then s.whole id off len else none) with
  | some er=>some (er.2,true,s.kill id)
  | none=>(s.rowsOf (.sl id off len)).map λrows=>(rows,Fa rows,s)
 | x=>(s.rowsOf x).map λrows=>(rows,Fa rows,s)
def LD (P:Program) (e:TypeId):Bool:=match (P.info? e).bind (·.zero) with|some z=>z.cells.size == P.cellsOf e|none=>false
def Nn (P:Program) (all:Bool) (s:St) (id:Id) (t:TypeId) (b x:V):Option (V×St):=
 (Qo P t).bind λe=>
 (s.Cp all x).bind λm=>
 if GZ (Z2 P e) m.1=true/\Z2 P e≠0/\LD P e=true then
  match b with
  | .lit (.slice none 0 0)=>if m.1.length*P.bytesOf e<=140737488355328/\m.1.length<=9223372036854775807 then some (.sl id 0 m.1.length,m.2.2.A5 id ⟨false,true,m.2.1,e,m.1⟩) else none
  | .sl i off len=>(m.2.2.heap i).bind λk=>
   if k.box=false/\k.own=true/\off+len=k.rows.length/\k.el=e/\(len+m.1.length)*P.bytesOf e<=140737488355328/\len+m.1.length<=9223372036854775807 then
    some (.sl id 0 (len+m.1.length),(m.2.2.kill i).A5 id ⟨false,true,k.cl&&m.2.1,e,k.rows.drop off++m.1⟩)
   else none
  | _=>none
 else none
def Wv:V->Option Nat
 | .lit (.int _ n)=>if 0<=n then some n.toNat else none
 | _=>none
def Np (P:Program) (s:St) (t:TypeId) (x:V) (lo hi:Option V):Option V:=
 (Qo P t).bind λe=>(s.rowsOf x).bind λrows=>
 let l:=match lo with|some v=>Wv v|none=>some 0
 let h:=match hi with|some v=>Wv v|none=>some rows.length
 l.bind λl=>h.bind λh=>if l<=h/\h<=rows.length/\GZ (Z2 P e) rows=true/\Z2 P e≠0 then
  match x with
  | .sl id off _=>some (.sl id (off+l) (h - l))
  | .tr rows=>some (.tr ((rows.drop l).take (h - l)))
  | .vw rows=>some (.vw ((rows.drop l).take (h - l)))
  | _=>none
 else none
def HX (P:Program) (place:Nat->Option (Nat×Nat)) (cells:List V):List (Nat×V)->Option (List V)
 | []=>some cells
 | (i,v)::rest=>(place i).bind λp=>(LB v).bind λcs=>
  if cs.length=p.2/\p.1+p.2<=cells.length then HX P place (Dg cells p.1 cs) rest else none
def HY (sz:Nat):Nat->List V->List (List V)
 | 0,_=>[]
 | n+1,l=>l.take sz::HY sz n (l.drop sz)
def Nq (rows:List (List V)):Option (List UInt8):=SF (rows.map λr=>match r with|[.lit (.int .u8 n)]=>some (UInt8.ofNat n.toNat)|_=>none)
def tN (P:Program) (t:TypeId):Bool:=match P.underlying t with|some (.int _)=>true|_=>false
structure X2 where
 AU:FuncId->List Yt
 mv:String->Bool
def Pa:V->Bool|.tr _=>true|_=>false
def HZ:V->Bool|.CM cs=>cs.any Pa|x=>Pa x
def H4:V->Bool|.agg cs|.CM cs=>cs.any HZ|x=>HZ x
def Pb:V->Bool|.AW vs=>vs.any H4|x=>H4 x
def Nr:V->Bool
 | .lit _|.tr _|.vw _|.rp ..=>true
 | _=>false
def plain:V->Bool
 | .agg cs|.fn _ cs=>cs.all Nr
 | x=>Nr x
def tO (m:Yt) (x:V):Bool:=match m with|.rd=>plain x|_=>true
def Ia:List Yt->List V->Bool
 | _,[]=>true
 | ms,x::r=>tO (ms.headD .rd) x&&Ia ms.tail r
def JQ (P:Program) (M:X2) (C:Kf) (s:St) (k:Nat) (g:FuncId) (args:List V):Option (V×St):=
 if args.length<=8 then
  (s.Bs P (((P.funcs[g]?).map (·.params.toList)).getD []) (M.AU g) args).bind λy=>(y.2.BL (M.AU g) y.1).bind λxs=>(C g xs).bind λr=>
   if (Pb r.1||r.2.any H4)&&!Ia (M.AU g) args then none else
   (y.2.BF s.ep (M.AU g) (16*k+8) args r.2).bind λs'=>s'.BB s.ep (16*k) r.1
 else none
def Xj (P:Program) (M:X2) (C:Kf) (v:Operand->V) (s:St) (k:Nat) (o:Oper):Option (V×St):=
 let CD (x:Option V):Option (V×St):=x.map λy=>(y,s)
 let id:Id:=(s.ep,1024*k)
 match o.op with
 | .move x|.assign x=>match v x with|.undef=>none|y=>some (y,s)
 | .pick c a b=>match v c with|.lit (.bool c)=>some (if c then v a else v b,s)|_=>none
 | .extract t i=>match v t with|.AW vs=>CD vs[i]?|_=>none
 | .nilCheck x=>match v x with|.ptr i j n=>some (.ptr i j n,s)|.rp b r n=>some (.rp b r n,s)|.fn f cs=>some (.fn f cs,s)|_=>none
 | .alloc t=>(EZ P t).map λz=>(.ptr id 0 0,s.A5 id ⟨true,true,true,t,[z]⟩)
 | .box t x=>(LB (v x)).bind λcs=>if cs.length=Z2 P t then some (.ptr id 0 0,s.A5 id ⟨true,true,true,t,[cs]⟩) else none
 | .build t parts=>(EZ P t).bind λz=>match P.underlying t with
  | some (.struct fs)=>if fs.toList.all (λf=>(P.info? f.type).isSome)=false then none else (HX P (λi=>(fs[i]?).map λf=>(f.offset,P.cellsOf f.type)) z (parts.toList.map λp=>(p.1,v p.2))).map λcs=>(.agg cs,s)
  | _=>none
 | .buildSlice t n parts=>(Qo P t).bind λe=>
  let sz:=Z2 P e
  (if n*sz=0 then some [] else EZ P e).bind λz=>
  if sz=0\/n*sz > 1048576\/LD P e=false then none else
  (HX P (λi=>some (i*sz,sz)) (List.replicate n z).flatten (parts.toList.map λp=>(p.1,v p.2))).bind λcs=>
   (s.Bp (HY sz n cs)).map λy=>(.sl id 0 n,y.2.2.A5 id ⟨false,true,y.2.1,e,y.1⟩)
 | .load t a=>match v a with
  | .ptr i j n=>(s.heap i).bind λb=>(b.rows[j]?).bind λrow=>if n+Z2 P t<=row.length then CD (JO P t ((row.drop n).take (Z2 P t))) else none
  | .rp sh row n=>if n+Z2 P t<=row.length then CD (JO P t ((row.drop n).take (Z2 P t))) else none
  | _=>none
 | .store t a x=>match v a with
  | .ptr i j n=>(s.heap i).bind λb=>(b.rows[j]?).bind λrow=>(LB (v x)).bind λcs=>
   if b.own=true/\cs.length=Z2 P t/\n+Z2 P t<=row.length/\Z2 P t≠0 then
    if b.box then some (.undef,s.A5 i {b with rows:=b.rows.set j (Dg row n cs)})
    else (s.sink cs).bind λy=>match y.2.2.heap i with
     | some b=>some (.undef,y.2.2.A5 i {b with cl:=b.cl&&y.2.1,rows:=b.rows.set j (Dg row n y.1)})
     | none=>none
   else none
  | _=>none
 | .fieldAddr t x f=>(tM P t f).bind λoff=>match v x with
  | .ptr i j n=>some (.ptr i j (n+off),s)
  | .rp b row n=>some (.rp b row (n+off),s)
  | _=>none
 | .indexAddr t x ix=>(Qo P t).bind λe=>if Z2 P e=0 then none else (Wv (v ix)).bind λn=>match v x with
  | .sl i off len=>if n < len then (s.heap i).bind λb=>(b.rows[off+n]?).bind λrow=>if row.length=Z2 P e then some (.ptr i (off+n) 0,s) else none else none
  | .tr rows=>(rows[n]?).bind λrow=>if row.length=Z2 P e then some (.rp true row 0,s) else none
  | .vw rows=>(rows[n]?).bind λrow=>if row.length=Z2 P e then some (.rp false row 0,s) else none
  | _=>none
 | .slice t x lo hi none=>match v x with
  | .sl ..|.tr _|.vw _=>CD (Np P s t (v x) (lo.map v) (hi.map v))
  | _=>CD (W6 P v o)
 | .makeSlice t l c=>(Qo P t).bind λe=>(EZ P e).bind λz=>(Wv (v l)).bind λn=>(Wv (v c)).bind λm=>
  if n=m/\n*P.bytesOf e<=70368744177664/\n<=9223372036854775807/\z.length=Z2 P e/\Z2 P e≠0 then some (.sl id 0 n,s.A5 id ⟨false,true,true,e,List.replicate n (z.map EF)⟩) else none
 | .makeFunc (.func f) first Bu=>if first.size=0 then some (.fn f (Bu.toList.map v),s) else none
 | .convert src dst x=>match v x with
  | .lit _=>CD (W6 P v o)
  | y=>match P.underlying src,P.underlying dst with
   | some (.slice e),some .string=>match P.underlying e with
    | some (.int .u8)=>(s.rowsOf y).bind λrows=>(Nq rows).map λbs=>(.lit (.string ⟨bs.toArray⟩),s)
    | _=>none
   | some (.slice _),some (.slice _)=>none
   | _,_=>none
 | .call c=>match c.callee with
  | .builtin .append=>match c.args.toList,c.argTypes.toList with
   | [b,x],[t,t']=>if t=t' then Nn P (M.mv o.pos) s id t (v b) (v x) else none
   | _,_=>none
  | .builtin .len=>match c.args.toList,c.argTypes.toList with
   | [x],[t]=>match v x with
    | .sl _ _ n=>if (Qo P t).isSome then some (.lit (.int .i64 n),s) else none
    | .tr rows|.vw rows=>if (Qo P t).isSome then some (.lit (.int .i64 rows.length),s) else none
    | _=>CD (W6 P v o)
   | _,_=>none
  | .builtin .clear=>match c.args.toList,c.argTypes.toList with
   | [x],[t]=>(Qo P t).bind λe=>(EZ P e).bind λz=>match v x with
    | .sl i off n=>(s.heap i).bind λb=>if b.own=true/\b.box=false/\off+n<=b.rows.length/\b.el=e/\z.length=Z2 P e/\Z2 P e≠0 then
      some (.AW [],s.A5 i {b with rows:=b.rows.take off++List.replicate n (z.map EF)++b.rows.drop (off+n)}) else none
    | _=>none
   | _,_=>none
  | .builtin _=>CD (W6 P v o)
  | .value f=>match v f with
   | .fn g Bu=>JQ P M C s k g (c.args.toList.map v++Bu)
   | _=>none
  | _=>none
 | .binOp op t x y _=>match v x,v y with
  | .lit _,.lit _|.agg _,_|_,.agg _=>CD (W6 P v o)
  | .ptr ..,.lit (.pointer none)=>if OZ P t then match op with
   | .eql=>some (.lit (.bool false),s)
   | .neq=>some (.lit (.bool true),s)
   | _=>none
   else none
  | a,.lit (.slice none 0 0)|.lit (.slice none 0 0),a=>if (Qo P t).isSome=false then none else match op,s.rowsOf a with
   | .eql,some (_::_)=>some (.lit (.bool false),s)
   | .neq,some (_::_)=>some (.lit (.bool true),s)
   | _,_=>none
  | _,_=>none
 | _=>CD (W6 P v o)
def Ib (P:Program) (M:X2) (C:Kf) (s:St) (k:Nat) (o:Oper):Option (V×St):=Xj P M C s.AP s k o
def wanted (s:St) (ops:Array Oper) (o:Oper):Option Bool:=
 match o.guard with
 | none=>some true
 | some (j,b)=>match ((ops[j]?).bind (·.dst)).map s.env with
  | some (.lit (.bool c))=>some (c == b)
  | some (.AW [])=>some false
  | _=>none
def FG (P:Program) (M:X2) (C:Nat->Kf) (ops:Array Oper) (s:St):(k:Nat)->List Oper->Option St
 | _,[]=>some s
 | k,o::rest=>
  (wanted s ops o).bind λg=>
  if g then (Ib P M (C k) s k o).bind λy=>FG P M C ops (y.2.put o.dst y.1) (k+1) rest
  else FG P M C ops (s.put o.dst (.AW [])) (k+1) rest
def UY:V->List Id
 | .sl id _ _|.ptr id _ _=>[id]
 | _=>[]
def ids:V->List Id
 | .agg cs|.fn _ cs=>cs.flatMap UY
 | x=>UY x
def St.deep (s:St) (id:Id):List Id:=match s.heap id with|some b=>if b.box then b.rows.flatMap (λr=>r.flatMap ids) else []|none=>[]
def St.storeT (s:St) (d:List Id):V->List Id
 | .ptr i _ _=>match s.heap i with
  | some b=>match b.box,b.rows with
   | true,[_]=>[i]
   | _,_=>d
  | none=>d
 | _=>d
def BV (s:St) (o:Oper):List Id:=
 let d:=o.op.operands.toList.flatMap λx=>ids (s.AP x)
 match o.op with
 | .store _ a _=>s.storeT d (s.AP a)
 | .load ..|.indexAddr ..|.slice ..|.convert ..|.buildSlice ..|.binOp ..=>d
 | .call {callee:=.value _,..}=>let e:=d.flatMap s.deep;d++e++e.flatMap s.deep
 | .call _=>d
 | _=>[]
def Ic (M:X2) (f:Operand->V) (o:Oper):Bool:=
 match o.op with
 | .store ..|.buildSlice ..=>true
 | .call c=>match c.callee with
  | .builtin .append|.builtin .clear=>true
  | .value x=>match f x with|.fn g _=>(M.AU g).any λm=>m != .rd|_=>true
  | _=>false
 | _=>false
structure Rec where
 pre:List Nat
 T:List Id
 w:Bool
def St.only (s:St) (T:List Id):St:={s with heap:=λid=>if T.contains id then s.heap id else none}
def Wy (e k:Nat) (id:Id):Bool:=id.1 == e&&id.2 / 1024 == k
def St.merge (s:St) (k:Nat) (T:List Id) (w:Bool) (y:St):St:={s with heap:=λid=>if Wy s.ep k id||(w&&T.contains id) then y.heap id else s.heap id}
def JR (recs:List Rec) (o:Oper):List Nat:=((o.after.toList.filter (Region.binds .any ·)).flatMap λe=>e.on::((recs[e.on]?).map (·.pre)).getD []).eraseDups
def LF (ops:Array Oper) (e:Nat) (recs:List Rec) (pr:List Nat) (k:Nat) (o:Oper) (T:List Id) (w:Bool):Bool:=
 (o.after.toList.all λa=>!Region.binds .any a||decide (a.on < k))&&T.all (λid=>!(id.1 == e&&decide (k<=id.2 / 1024)))&&
 recs.zipIdx.all λp=>pr.contains p.2||
  (match ops[p.2]? with|some q=>q.apart ops o|none=>false)&&T.all (λid=>!Wy e p.2 id)&&p.1.T.all (λid=>!Wy e k id)&&(!(p.1.w||w)||T.all (λid=>!p.1.T.contains id))
def Fb (P:Program) (M:X2) (C:Nat->Kf) (ops:Array Oper) (s:St) (recs:List Rec):(k:Nat)->List Oper->Option St
 | _,[]=>some s
 | k,o::rest=>
  let pr:=JR recs o
  (wanted s ops o).bind λg=>
  if g then
   let T:=BV s o
   let w:=Ic M s.AP o
   if LF ops s.ep recs pr k o T w then (Xj P M (C k) s.AP (s.only T) k o).bind λy=>Fb P M C ops ((s.merge k T w y.2).put o.dst y.1) (recs++[⟨pr,T,w⟩]) (k+1) rest else none
  else if LF ops s.ep recs pr k o [] false then Fb P M C ops (s.put o.dst (.AW [])) (recs++[⟨pr,[],false⟩]) (k+1) rest else none
inductive Ex where
 | normal|ret|exit (n:Nat)
 deriving DecidableEq
def Gz (P:Program) (s:St):List ResultVar->Option (List V)
 | []=>some []
 | .tmp t::r=>match s.env t with|.undef=>none|x=>(Gz P s r).map (x::·)
 | .cell a t::r=>match s.env a with
  | .ptr i j n=>(s.heap i).bind λb=>(b.rows[j]?).bind λrow=>if n+Z2 P t<=row.length then (JO P t ((row.drop n).take (Z2 P t))).bind λx=>(Gz P s r).map (x::·) else none
  | _=>none
def St.BD (s:St) (ts:List (Option TypeId)):V->Option (V×St)
 | .agg cs=>(s.AK ts cs).map λy=>(.agg y.1,y.2)
 | .ptr id 0 0=>(s.Bv ts id).map λy=>(.CM y.1,y.2)
 | x=>s.AA (ts.headD none) x
def St.liftAll (P:Program) (s:St):List TypeId->List V->Option (List V×St)
 | _,[]=>some ([],s)
 | ts,x::r=>(s.BD (SG P (ts.headD 0)) x).bind λy=>(y.2.liftAll P ts.tail r).map λz=>(y.1::z.1,z.2)
def St.enter (s:St) (p:Nat) (m:Yt) (x:V):Option St:=
 if p < 1000 then match m with
 | .rd=>some (s.put (some p) x)
 | .io=>match x with
  | .agg cs=>(s.BC 0 (64*p) cs).map λy=>y.2.put (some p) y.1
  | _=>none
 | .mv|.Er=>match x with
  | .CM _=>none
  | x=>(s.Bb 0 (64*p) x).map λy=>y.2.put (some p) y.1
 else none
def St.enters (s:St):(p:Nat)->List Yt->List V->Option St
 | _,_,[]=>some s
 | p,ms,x::r=>(s.enter p (ms.headD .rd) x).bind λs=>s.enters (p+1) ms.tail r
def St.AZ (s:St) (p:Nat):(k:Nat)->List V->Option (List V×St)
 | _,[]=>some ([],s)
 | k,.own e rows::r=>(s.whole (0,64*p+k) 0 rows.length).bind λer=>if er.1=e then ((s.kill (0,64*p+k)).AZ p (k+1) r).map λz=>(.own er.1 er.2::z.1,z.2) else none
 | k,_::r=>(s.AZ p (k+1) r).map λz=>(.undef::z.1,z.2)
def St.out (s:St) (p:Nat) (ts:List (Option TypeId)) (m:Yt) (x:V):Option (V×St):=
 match m with
 | .rd|.mv=>some (.undef,s)
 | .io=>match x with
  | .agg cs=>(s.Be ts (0,64*p+63)).bind λy=>if y.1.length=cs.length then some (.agg y.1,y.2) else none
  | _=>none
 | .Er=>match x with
  | .agg cs=>(s.AZ p 0 cs).map λy=>(.agg y.1,y.2)
  | x=>(s.AZ p 0 [x]).bind λy=>(y.1.head?).map λv=>(v,y.2)
def St.outs (P:Program) (s:St):(p:Nat)->List TypeId->List Yt->List V->Option (List V)
 | _,_,_,[]=>some []
 | p,ts,ms,x::r=>(s.out p (SG P (ts.headD 0)) (ms.headD .rd) x).bind λy=>(y.2.outs P (p+1) ts.tail ms.tail r).map (y.1::·)
def UZ:List V->V
 | [x]=>x
 | l=>.AW l
end Go.Proofs.YthdljdelfgofdaaGreatDoor.Ev
namespace Go.Proofs.YthdljdelfgofdaaGreatDoor.Ev
open Go Go.RowKit
inductive Rd (w:World) (ok:Nat->Prop):Value->V->Prop
 | lit {v:Value} (h:J8 v=true):Rd w ok v (.lit v)
 | emp {A:Option Addr} {c:Nat}:Rd w ok (.slice A 0 c) (.tr [])
 | tr {g o n c sz:Nat} {rows:List (List V)} {u:Nat->Value} (hn:rows.length=n) (hc:n<=c) (hm:c<=maxLen) (hs:∀r∈rows,r.length=sz) (hg:ok g)
   (hu:∀(k:Nat) (x:V),rows.flatten[k]?=some x->w.cell? ⟨g,o+k,none⟩=some (u k)) (hr:∀(k:Nat) (x:V),rows.flatten[k]?=some x->Rd w ok (u k) x):
   Rd w ok (.slice (some ⟨g,o,none⟩) n c) (.tr rows)
 | rp {g o off:Nat} {sh:Bool} {row:List V} {u:Nat->Value} (hg:ok g)
   (hu:∀(k:Nat) (x:V),row[k]?=some x->w.cell? ⟨g,o+k,none⟩=some (u k)) (hr:∀(k:Nat) (x:V),row[k]?=some x->Rd w ok (u k) x):
   Rd w ok (.pointer (some ⟨g,o+off,none⟩)) (.rp sh row off)
 | fn {f:FuncId} {vs:Array Value} {Bu:List V} (hl:vs.size=Bu.length) (hr:∀(k:Nat) (v:Value) (x:V),vs[k]?=some v->Bu[k]?=some x->Rd w ok v x):
   Rd w ok (.func (.func f) #[] vs) (.fn f Bu)
theorem fI {w:World} {g o:Nat} {v:Value} (h:w.cell? ⟨g,o,none⟩=some v):g < w.heap.size:=by
 unfold World.cell? at h;split at h
 .rename_i c e f hc
  exact (Hz.1 hc).1
 .cases h
theorem tP {w w':World} {g o:Nat} (h:w'.heap[g]?=w.heap[g]?):w'.cell? ⟨g,o,none⟩=w.cell? ⟨g,o,none⟩:=by
 unfold World.cell?;rw[h]
theorem Rd.frame {w w':World} {ok ok':Nat->Prop} {v:Value} {x:V} (h:Rd w ok v x) (hw:∀g,ok g->g < w.heap.size->w'.heap[g]?=w.heap[g]?) (Yg:∀g,ok g->g < w.heap.size->ok' g) (Yh:∀g,ok g->g < w.heap.size\/ok' g):Rd w' ok' v x:=by
 induction h with
 | lit h=>exact .lit h
 | emp=>exact .emp
 | @tr g o n c sz rows u hn hc hm hs hg hu hr ih=>
  refine .tr hn hc hm hs ?_ (λk x hk=>?_) ih
  .rcases Yh g hg with h1|h1
   .exact Yg g hg h1
   .exact h1
  .have:=hu k x hk
   rw[tP (hw g hg (fI this))];exact this
 | @rp g o off sh row u hg hu hr ih=>
  refine .rp ?_ (λk x hk=>?_) ih
  .rcases Yh g hg with h1|h1
   .exact Yg g hg h1
   .exact h1
  .have:=hu k x hk
   rw[tP (hw g hg (fI this))];exact this
 | fn hl hr ih=>exact .fn hl ih
theorem Rd.mono {w w':World} {ok ok':Nat->Prop} {v:Value} {x:V} (h:Rd w ok v x) (hw:∀g,ok g->g < w.heap.size->w'.heap[g]?=w.heap[g]?) (Yg:∀g,ok g->ok' g):Rd w' ok' v x:=
 h.frame hw (λg h _=>Yg g h) (λg h=>.inr (Yg g h))
mutual
inductive Ow (w:World):Value->V->List Nat->Prop
 | lit {v:Value} (h:J8 v=true):Ow w v (.lit v) []
 | emp {A:Option Addr}:Ow w (.slice A 0 0) (.tr []) []
 | tr {g o n c sz:Nat} {cur:Array Value} {e:TypeId} {rows:List (List V)} {fp:List Nat} (hb:w.heap[g]?=some (.cells cur e (0,0))) (hn:rows.length=n) (hc:n<=c) (hm:c<=maxLen) (hs:∀r∈rows,r.length=sz)
   (hz:o+c*sz=cur.size) (hl:B5 w ((cur.toList.drop o).take (n*sz)) rows.flatten fp):Ow w (.slice (some ⟨g,o,none⟩) n c) (.tr rows) (g::fp)
inductive B5 (w:World):List Value->List V->List Nat->Prop
 | nil:B5 w [] [] []
 | cons {v:Value} {x:V} {vs:List Value} {xs:List V} {f1 f2:List Nat} (h:Ow w v x f1) (hs:B5 w vs xs f2):B5 w (v::vs) (x::xs) (f1++f2)
end
theorem Ow.frame {w w':World} {v:Value} {x:V} {fp:List Nat} (h:Ow w v x fp):(∀g∈fp,w'.heap[g]?=w.heap[g]?)->Ow w' v x fp:=by
 apply Ow.rec (motive_1:=λv x fp _=>(∀g∈fp,w'.heap[g]?=w.heap[g]?)->Ow w' v x fp) (motive_2:=λvs xs fp _=>(∀g∈fp,w'.heap[g]?=w.heap[g]?)->B5 w' vs xs fp) ?_ ?_ ?_ ?_ ?_ h
 .intro v h _;exact .lit h
 .intro A _;exact .emp
 .intro g o n c sz cur e rows fp hb hn hc hm hs hz hl ih hw
  exact .tr (by rw[hw g BJ];exact hb) hn hc hm hs hz (ih λk hk=>hw k (Co _ hk))
 .intro _;exact .nil
 .intro v x vs xs f1 f2 h hs Va Vb hw
  exact .cons (Va λk hk=>hw k (CC _ hk)) (Vb λk hk=>hw k (Ds _ hk))
theorem B5.frame {w w':World} {vs:List Value} {xs:List V} {fp:List Nat} (h:B5 w vs xs fp):(∀g∈fp,w'.heap[g]?=w.heap[g]?)->B5 w' vs xs fp:=by
 induction xs generalizing vs fp with
 | nil=>intro _;cases h;exact .nil
 | cons x xs ih=>
  intro hw;cases h with
  | cons h hs=>exact .cons (h.frame λg hg=>hw g (CC _ hg)) (ih hs λg hg=>hw g (Ds _ hg))
theorem B5.get {w:World} {vs:List Value} {xs:List V} {fp:List Nat} (h:B5 w vs xs fp):∀(k:Nat) (x:V),xs[k]?=some x->∃v f,vs[k]?=some v/\Ow w v x f/\∀g∈f,g∈fp:=by
 induction xs generalizing vs fp with
 | nil=>intro k x hk;simp at hk
 | cons y ys ih=>
  intro k x hk;cases h with
  | @cons v _ vs _ f1 f2 h hs=>
   cases k with
   | zero=>
    have tQ:y=x:=by simpa using hk
    subst tQ;exact⟨v,f1,rfl,h,λg hg=>CC _ hg⟩
   | succ k=>
    obtain⟨v',f,h1,h2,h3⟩:=ih hs k x (by simpa using hk);exact⟨v',f,by simpa using h1,h2,λg hg=>Ds _ (h3 g hg)⟩
theorem B5.length {w:World} {vs:List Value} {xs:List V} {fp:List Nat} (h:B5 w vs xs fp):vs.length=xs.length:=by
 induction xs generalizing vs fp with
 | nil=>cases h;rfl
 | cons y ys ih=>cases h with|cons h hs=>simp[ih hs]
theorem Ow.rd {w:World} {ok:Nat->Prop} {v:Value} {x:V} {fp:List Nat} (h:Ow w v x fp):(∀g∈fp,ok g)->Rd w ok v x:=by
 apply Ow.rec (motive_1:=λv x fp _=>(∀g∈fp,ok g)->Rd w ok v x) (motive_2:=λvs xs fp _=>(∀g∈fp,ok g)->∀(k:Nat) (x:V),xs[k]?=some x->∃v,vs[k]?=some v/\Rd w ok v x) ?_ ?_ ?_ ?_ ?_ h
 .intro v h _;exact .lit h
 .intro A _;exact .emp
 .intro g o n c sz cur e rows fp hb hn hc hm hs hz hl ih hw
  have ih':=ih λk hk=>hw k (Co _ hk);refine .tr (u:=λk=>((cur.toList.drop o).take (n*sz)).getD k undef) hn hc hm hs (hw g BJ) (λk x hk=>?_) (λk x hk=>?_)
  .obtain⟨v,hv,_⟩:=ih' k x hk
   rw[cell_of_row w g _ cur e (0,0) hb,OR,hv];rw[Df] at hv;split at hv
   .simpa using hv
   .cases hv
  .obtain⟨v,hv,hr⟩:=ih' k x hk
   rw[OR,hv];exact hr
 .intro _ k x hk;simp at hk
 .intro v x vs xs f1 f2 h hs Va Vb hw k y hk
  cases k with
  | zero=>
   have:x=y:=by simpa using hk
   subst this;exact⟨v,rfl,Va λg hg=>hw g (CC _ hg)⟩
  | succ k=>
   obtain⟨v',h1,h2⟩:=Vb (λg hg=>hw g (Ds _ hg)) k y (by simpa using hk);exact⟨v',by simpa using h1,h2⟩
theorem B5.rd {w:World} {ok:Nat->Prop} {vs:List Value} {xs:List V} {fp:List Nat} (h:B5 w vs xs fp) (hg:∀g∈fp,ok g) {k:Nat} {x:V} (hk:xs[k]?=some x):∃v,vs[k]?=some v/\Rd w ok v x:=by
 obtain⟨v,f,h1,h2,h3⟩:=h.get k x hk;exact⟨v,h1,h2.rd λg h=>hg g (h3 g h)⟩
theorem Ow.lt {w:World} {v:Value} {x:V} {fp:List Nat} (h:Ow w v x fp):∀g∈fp,g < w.heap.size:=by
 apply Ow.rec (motive_1:=λv x fp _=>∀g∈fp,g < w.heap.size) (motive_2:=λvs xs fp _=>∀g∈fp,g < w.heap.size) ?_ ?_ ?_ ?_ ?_ h
 .intro v h g hg;simp at hg
 .intro A g hg;simp at hg
 .intro g o n c sz cur e rows fp hb hn hc hm hs hz hl ih k hk
  rcases Cj.1 hk with rfl|hk
  .exact (Hz.1 hb).1
  .exact ih k hk
 .intro g hg;simp at hg
 .intro v x vs xs f1 f2 h hs Va Vb g hg
  rcases BT.1 hg with hg|hg
  .exact Va g hg
  .exact Vb g hg
theorem B5.lt {w:World} {vs:List Value} {xs:List V} {fp:List Nat} (h:B5 w vs xs fp):∀g∈fp,g < w.heap.size:=by
 induction xs generalizing vs fp with
 | nil=>cases h;intro g hg;simp at hg
 | cons x xs ih=>
  cases h with
  | cons h hs=>
   intro g hg;rcases BT.1 hg with hg|hg
   .exact h.lt g hg
   .exact ih hs g hg
theorem B5.append {w:World} {vs us:List Value} {xs ys:List V} {f1 f2:List Nat} (h1:B5 w vs xs f1) (h2:B5 w us ys f2):B5 w (vs++us) (xs++ys) (f1++f2):=by
 induction xs generalizing vs f1 with
 | nil=>cases h1;exact h2
 | cons x xs ih=>
  cases h1 with
  | cons h hs=>rw[List.append_assoc];exact .cons h (ih hs)
theorem Ow.one {w:World} {v:Value} {x:V} {fp:List Nat} (h:Ow w v x fp):v.oneCell'=true:=by
 cases h with
 | lit h=>cases v<;>simp_all [J8,Value.oneCell']
 | emp=>rfl
 | tr=>rfl
theorem B5.one {w:World} {vs:List Value} {xs:List V} {fp:List Nat} (h:B5 w vs xs fp):∀u∈vs,u.oneCell'=true:=by
 induction xs generalizing vs fp with
 | nil=>cases h;intro u hu;simp at hu
 | cons x xs ih=>
  cases h with
  | cons h hs=>
   intro u hu;rcases Cj.1 hu with rfl|hu
   .exact h.one
   .exact ih hs u hu
theorem Rd.one {w:World} {ok:Nat->Prop} {v:Value} {x:V} (h:Rd w ok v x):v.oneCell'=true:=by
 cases h with
 | lit h=>cases v<;>simp_all [J8,Value.oneCell']
 | emp=>rfl
 | tr=>rfl
 | rp=>rfl
 | fn=>rfl
inductive G0 where
 | emp
 | Bl (g o c sz:Nat)
abbrev AY:=Id->Option G0
inductive En (w:World) (ok:Nat->Prop) (U:AY):Value->V->Prop
 | undef {v:Value}:En w ok U v .undef
 | lit {v:Value} (h:J8 v=true):En w ok U v (.lit v)
 | tr {v:Value} {rows:List (List V)} (h:Rd w ok v (.tr rows)):En w ok U v (.tr rows)
 | vw {v:Value} {rows:List (List V)} (h:Rd w ok v (.tr rows)):En w ok U v (.vw rows)
 | rp {v:Value} {sh:Bool} {row:List V} {off:Nat} (h:Rd w ok v (.rp sh row off)):En w ok U v (.rp sh row off)
 | ptr {id:Id} {g o c sz i off:Nat} (h:U id=some (.Bl g o c sz)):En w ok U (.pointer (some ⟨g,o+i*sz+off,none⟩)) (.ptr id i off)
 | sl {id:Id} {g o c sz off len:Nat} (h:U id=some (.Bl g o c sz)) (hc:off+len<=c):En w ok U (.slice (some ⟨g,o+off*sz,none⟩) len (c - off)) (.sl id off len)
 | sle {id:Id} {A:Option Addr} {off:Nat} (h:(U id).isSome=true):En w ok U (.slice A 0 0) (.sl id off 0)
 | fn {f:FuncId} {vs:Array Value} {Bu:List V} (hl:vs.size=Bu.length) (hr:∀(k:Nat) (v:Value) (x:V),vs[k]?=some v->Bu[k]?=some x->En w ok U v x):En w ok U (.func (.func f) #[] vs) (.fn f Bu)
 | agg {vs:Array Value} {cs:List V} (hl:vs.size=cs.length) (hc:∀x∈cs,AF x=true) (hr:∀(k:Nat) (v:Value) (x:V),vs[k]?=some v->cs[k]?=some x->En w ok U v x):En w ok U (.agg vs) (.agg cs)
 | AW {vs:Array Value} {cs:List V} (hl:vs.size=cs.length) (hr:∀(k:Nat) (v:Value) (x:V),vs[k]?=some v->cs[k]?=some x->En w ok U v x):En w ok U (.tuple vs) (.AW cs)
structure Ie (w w':World) (ok ok':Nat->Prop):Prop where
 heap:∀g,ok g->g < w.heap.size->w'.heap[g]?=w.heap[g]?
 Vc:∀g,ok g->g < w.heap.size->ok' g
 size:w.heap.size<=w'.heap.size
theorem Rd.C8 {w w':World} {ok ok':Nat->Prop} (hk:Ie w w' ok ok') {v:Value} {x:V} (h:Rd w (λg=>ok g/\g < w.heap.size) v x):Rd w' (λg=>ok' g/\g < w'.heap.size) v x:=
 h.mono (λg hg _=>hk.heap g hg.1 hg.2) (λg hg=>⟨hk.Vc g hg.1 hg.2,GU hg.2 hk.size⟩)
theorem En.C8 {w w':World} {ok ok':Nat->Prop} {U U':AY} (hk:Ie w w' ok ok') (hU:∀id i,U id=some i->U' id=some i) {v:Value} {x:V} (h:En w (λg=>ok g/\g < w.heap.size) U v x):
  En w' (λg=>ok' g/\g < w'.heap.size) U' v x:=by
 induction h with
 | undef=>exact .undef
 | lit h=>exact .lit h
 | tr h=>exact .tr (h.C8 hk)
 | vw h=>exact .vw (h.C8 hk)
 | rp h=>exact .rp (h.C8 hk)
 | ptr h=>exact .ptr (hU _ _ h)
 | sl h hc=>exact .sl (hU _ _ h) hc
 | sle h=>
  refine .sle ?_;obtain⟨i,hi⟩:=EW.1 h;rw[hU _ _ hi];rfl
 | fn hl hr ih=>exact .fn hl ih
 | agg hl hc hr ih=>exact .agg hl hc ih
 | AW hl hr ih=>exact .AW hl ih
def AJ (s:St) (U:AY) (g:Nat):Prop:=∃id b o c sz,s.heap id=some b/\b.own=true/\U id=some (.Bl g o c sz)
def AH (s:St) (U:AY) (w:World) (g:Nat):Prop:=¬AJ s U g/\g < w.heap.size
def Xq (P:Program) (w:World) (ok:Nat->Prop) (U:AY) (i:Option G0) (F:List Nat) (b:Bd):Prop:=
 match b.box,b.own with
 | true,_=>b.own=true/\∃g cur e row,i=some (.Bl g 0 1 row.length)/\w.heap[g]?=some (.cells cur e (0,0))/\b.rows=[row]/\cur.size=row.length/\
   (∀(k:Nat) (v:Value) (x:V),cur[k]?=some v->row[k]?=some x->En w ok U v x)/\(∀x∈row,AF x=true)/\F=[g]
 | false,true=>(i=some .emp/\b.rows=[]/\F=[])\/
   ∃g o c cur,i=some (.Bl g o c (P.cellsOf b.el))/\w.heap[g]?=some (.cells cur b.el (0,0))/\b.rows.length<=c/\c<=maxLen/\(∀r∈b.rows,r.length=P.cellsOf b.el)/\o+c*P.cellsOf b.el=cur.size/\
    ∃fp,F=g::fp/\(b.cl=true->B5 w ((cur.toList.drop o).take (b.rows.length*P.cellsOf b.el)) b.rows.flatten fp)/\
     (b.cl=false->fp=[]/\∀(k:Nat) (x:V),b.rows.flatten[k]?=some x->∃v,cur[o+k]?=some v/\Rd w ok v x)
 | false,false=>F=[]/\((i=some .emp/\b.rows=[])\/∃g o c sz,i=some (.Bl g o c sz)/\(∀r∈b.rows,r.length=sz)/\Rd w ok (.slice (some ⟨g,o,none⟩) b.rows.length c) (.tr b.rows))
theorem Xq.Ig {P:Program} {w:World} {ok:Nat->Prop} {U:AY} {i:Option G0} {F:List Nat} {b:Bd} (Xl:b.box=true) (Yv:b.own=true) {g:Nat} {cur:Array Value} {e:TypeId} {row:List V} (hi:i=some (.Bl g 0 1 row.length)) (hg:w.heap[g]?=some (.cells cur e (0,0))) (hr:b.rows=[row]) (hs:cur.size=row.length)
  (he:∀(k:Nat) (v:Value) (x:V),cur[k]?=some v->row[k]?=some x->En w ok U v x) (hc:∀x∈row,AF x=true) (hF:F=[g]):Xq P w ok U i F b:=by
 unfold Xq;rw[Xl];exact⟨Yv,g,cur,e,row,hi,hg,hr,hs,he,hc,hF⟩
theorem Xq.Cq {P:Program} {w:World} {ok:Nat->Prop} {U:AY} {i:Option G0} {F:List Nat} {b:Bd} (Xl:b.box=false) (Yv:b.own=true) {g o c:Nat} {cur:Array Value} {fp:List Nat} (hi:i=some (.Bl g o c (P.cellsOf b.el))) (hg:w.heap[g]?=some (.cells cur b.el (0,0))) (hl:b.rows.length<=c) (hm:c<=maxLen)
  (hu:∀r∈b.rows,r.length=P.cellsOf b.el) (hz:o+c*P.cellsOf b.el=cur.size) (hF:F=g::fp) (h1:b.cl=true->B5 w ((cur.toList.drop o).take (b.rows.length*P.cellsOf b.el)) b.rows.flatten fp)
  (h2:b.cl=false->fp=[]/\∀(k:Nat) (x:V),b.rows.flatten[k]?=some x->∃v,cur[o+k]?=some v/\Rd w ok v x):Xq P w ok U i F b:=by
 unfold Xq;rw[Xl,Yv];exact .inr ⟨g,o,c,cur,hi,hg,hl,hm,hu,hz,fp,hF,h1,h2⟩
theorem Xq.Ih {P:Program} {w:World} {ok:Nat->Prop} {U:AY} {i:Option G0} {F:List Nat} {b:Bd} (Xl:b.box=false) (Yv:b.own=true) (hi:i=some .emp) (hr:b.rows=[]) (hF:F=[]):Xq P w ok U i F b:=by
 unfold Xq;rw[Xl,Yv];exact .inl ⟨hi,hr,hF⟩
def Pc (i:Option G0):Prop:=∃g o c sz,i=some (.Bl g o c sz)/\0 < c
class Anchor where
 w:World
def LG [A:Anchor] (w:World) (T:Nat->Prop):Prop:=A.w.heap.size<=w.heap.size/\(∀k,k < A.w.heap.size->w.heap[k]?=A.w.heap[k]?)/\∀g,T g->A.w.heap.size<=g
structure Vd [Anchor] (B:Nat) (io:Nat->Prop) (w:World):Prop where
 base:B<=w.heap.size
 Fc:LG w (λg=>io g\/B<=g)
variable [Anchor]
structure Rel (P:Program) (B:Nat) (io:Nat->Prop) (w:World) (tmps:Array Value) (s:St) (U:AY) (F:Id->List Nat) (fl:List Nat):Prop where
 env:∀(t:Nat) (v:Value),tmps[t]?=some v->En w (AH s U w) U v (s.env t)
 out:∀t,tmps.size<=t->s.env t=.undef
 heap:∀id b,s.heap id=some b->Xq P w (AH s U w) U (U id) (F id) b
 CI:∀id b,s.heap id=some b->b.own=true->∀g∈F id,g < w.heap.size
 top:∀id b,s.heap id=some b->b.own=true->Pc (U id)->∀g,(F id).head?=some g->io g\/B<=g
 apart:∀id Aw b b',s.heap id=some b->b.own=true->s.heap Aw=some b'->b'.own=true->id≠Aw->∀g∈F id,g ∉ F Aw
 once:∀id b,s.heap id=some b->b.own=true->(F id).Nodup
 C5:∀id,(U id).isSome=true->id.1<=s.ep
 Cr:Vd B io w
 AR:∀g∈fl,g < w.heap.size
 A7:∀id b,s.heap id=some b->b.own=true->∀g∈F id,g ∉ fl
 AT:fl.Nodup
structure J6 (B:Nat) (io:Nat->Prop) (w w':World):Prop where
 os:w'.os=w.os
 tape:w'.tape=w.tape
 output:w'.output=w.output
 size:w.heap.size<=w'.heap.size
 block:∀k,k < B->¬io k->w'.heap[k]?=w.heap[k]?
theorem Vd.step {B:Nat} {io:Nat->Prop} {w w':World} (h:Vd B io w) (hs:w.heap.size<=w'.heap.size) (hA:∀k,k < B->¬io k->w'.heap[k]?=w.heap[k]?):Vd B io w':=
 ⟨L7 h.base hs,L7 h.Fc.1 hs,λk hk=>by
  rw[hA k (by
   refine tH (λhle=>?_);have:=h.Fc.2.2 k (.inr hle);omega) (λHa=>by have:=h.Fc.2.2 k (.inl Ha);omega)]
  exact h.Fc.2.1 k hk,h.Fc.2.2⟩
theorem Rel.base {P:Program} {B:Nat} {io:Nat->Prop} {w:World} {tmps:Array Value} {s:St} {U:AY} {F:Id->List Nat} {fl:List Nat} (h:Rel P B io w tmps s U F fl):B<=w.heap.size:=h.Cr.base
theorem J6.refl (B:Nat) (io:Nat->Prop) (w:World):J6 B io w w:=⟨rfl,rfl,rfl,B4 _,λ_ _ _=>rfl⟩
theorem J6.trans {B:Nat} {io:Nat->Prop} {a b c:World} (h:J6 B io a b) (k:J6 B io b c):J6 B io a c:=
 ⟨k.os.trans h.os,k.tape.trans h.tape,k.output.trans h.output,L7 h.size k.size,λi hi hn=>(k.block i hi hn).trans (h.block i hi hn)⟩
theorem J6.below {B:Nat} {w w':World} (h:J6 B (λ_=>False) w w'):Below B w w':=⟨h.os,h.tape,h.output,h.size,λk hk=>h.block k hk id⟩
theorem Xq.top {P:Program} {w:World} {ok:Nat->Prop} {U:AY} {g o c sz:Nat} {F:List Nat} {b:Bd} (h:Xq P w ok U (some (.Bl g o c sz)) F b) (ho:b.own=true):g∈F:=by
 unfold Xq at h;split at h
 .obtain⟨_,g',cur,e,row,hi,_,_,_,_,_,hF⟩:=h
  cases hi;rw[hF];exact BJ
 .rcases h with⟨hi,_⟩|⟨g',o',c',cur,hi,_,_,_,_,_,fp,hF,_⟩
  .cases hi
  .cases hi
   rw[hF];exact BJ
 .rename_i h1 h2
  rw[ho] at h2;cases h2
theorem Xq.C8 {P:Program} {w w':World} {ok ok':Nat->Prop} {U U':AY} {i:Option G0} {F:List Nat} {b:Bd} (hk:Ie w w' ok ok') (hU:∀id i,U id=some i->U' id=some i)
  (h:Xq P w (λg=>ok g/\g < w.heap.size) U i F b) (hF:∀g∈F,w'.heap[g]?=w.heap[g]?):Xq P w' (λg=>ok' g/\g < w'.heap.size) U' i F b:=by
 unfold Xq at h ⊢;split at h
 .obtain⟨h1,g,cur,e,row,hi,hg,hr,hs,he,Ve,rfl⟩:=h
  exact⟨h1,g,cur,e,row,hi,by rw[hF g BJ];exact hg,hr,hs,λk v x hv hx=>(he k v x hv hx).C8 hk hU,Ve,rfl⟩
 .rcases h with h|⟨g,o,c,cur,hi,hg,hl,hm,hu,hz,fp,rfl,h1,h2⟩
  .exact .inl h
  .refine .inr ⟨g,o,c,cur,hi,by rw[hF g BJ];exact hg,hl,hm,hu,hz,fp,rfl,λhc=>(h1 hc).frame λk W2=>hF k (Co _ W2),λhc=>⟨(h2 hc).1,λk x hx=>?_⟩⟩
   obtain⟨v,hv,hr⟩:=(h2 hc).2 k x hx;exact⟨v,hv,hr.C8 hk⟩
 .obtain⟨h0,h⟩:=h
  refine⟨h0,?_⟩;rcases h with h|⟨g,o,c,sz,hi,hu,hr⟩
  .exact .inl h
  .exact .inr ⟨g,o,c,sz,hi,hu,hr.C8 hk⟩
end Go.Proofs.YthdljdelfgofdaaGreatDoor.Ev
namespace Go.Proofs.YthdljdelfgofdaaGreatDoor.Ev
open Go Go.RowKit
variable [Anchor]
theorem Y8y {α:Type} {P:Program} {x:Sem α} {a:α} (h:eval? P x=some a) (w:World):x.run P w=.ok a w:=by
 induction x with
 | pure b=>simp only[eval?,AE] at h;subst h;rfl
 | program k ih=>simp only[eval?] at h;exact ih P h
 | _=>simp[eval?] at h
def Ce (P:Program) (o:Oper) (a:Act) (w:World) (C9:Value->World->Prop):Prop:=
 match (execOp a.eval o).run P w with
 | .ok (.value v) w'=>C9 v w'
 | .ok .skip w'=>C9 undef w'
 | _=>False
theorem Ce.wp {P:Program} {o:Oper} {a:Act} {w:World} {C9:Value->World->Prop} (h:Ce P o a w C9) {K:Act->World->Prop} {Q:Exit->Act->World->Prop} (hK:∀v w',C9 v w'->K (a.put o.dst v) w'):o.wp P a w K Q:=by
 unfold Ce at h;unfold Oper.wp;split at h
 .rename_i heq;rw[heq];exact hK _ _ h
 .rename_i heq;rw[heq];exact hK _ _ h
 .exact h.elim
theorem Ce.value {P:Program} {o:Oper} {a:Act} {w w':World} {v:Value} {C9:Value->World->Prop} (h:(execOp a.eval o).run P w=.ok (.value v) w') (hp:C9 v w'):Ce P o a w C9:=by
 unfold Ce;rw[h];exact hp
theorem Ce.skip {P:Program} {o:Oper} {a:Act} {w w':World} {C9:Value->World->Prop} (h:(execOp a.eval o).run P w=.ok .skip w') (hp:C9 undef w'):Ce P o a w C9:=by
 unfold Ce;rw[h];exact hp
theorem Ygj {U U':Operand->Value} {o:Oper} (hp:Nl o.op=true) (h:∀x∈o.op.operands.toList,U x=U' x):execOp U o=execOp U' o:=by
 obtain⟨dst,op,type,pos,after,guard⟩:=o;cases op<;>simp only[Nl,Bn] at hp
 case binOp op t x y yt=>
  have h1:=h x (by simp[Op.operands]);have h2:=h y (by simp[Op.operands]);simp only[execOp,h1,h2]
 case unOp op t x=>
  have h1:=h x (by simp[Op.operands]);simp only[execOp,h1]
 case convert s d x=>
  have h1:=h x (by simp[Op.operands]);simp only[execOp,h1]
 case field t x i=>
  have h1:=h x (by simp[Op.operands]);simp only[execOp,h1]
 case index t x i=>
  have h1:=h x (by simp[Op.operands]);have h2:=h i (by simp[Op.operands]);simp only[execOp,h1,h2]
 case slice t x l hi m=>
  have h1:=h x (by simp[Op.operands]);have h2:l.map U=l.map U':=by cases l<;>simp;exact h _ (by simp[Op.operands])
  have h3:hi.map U=hi.map U':=by cases hi<;>simp;exact h _ (by simp[Op.operands])
  have h4:m.map U=m.map U':=by cases m<;>simp;exact h _ (by simp[Op.operands])
  simp only[execOp,h1,h2,h3,h4]
 case call c=>
  obtain⟨callee,args,ats⟩:=c;have ha:∀b:Builtin,callee=.builtin b->args.map U=args.map U':=by
   intro b hb;apply Array.map_congr_left;intro x hx;exact h x (by simp[Op.operands,Call.operands,hb];exact hx)
  cases callee with
  | value f=>simp at hp
  | invoke r m=>simp at hp
  | builtin b=>simp only[execOp,resolve,ha b rfl]
theorem Y8f {w:World} {ok:Nat->Prop} {U:AY} {v v':Value} {x:V} (h:En w ok U v x) (ht:Qi x=some v'):v=v':=by
 cases x<;>simp only[Qi] at ht<;>try cases ht
 case lit=>cases h;rfl
 case agg cs=>
  cases h with
  | @agg vs _ hl hc hr=>
   cases hL:EE cs with
   | none=>rw[hL] at ht;cases ht
   | some l=>
    rw[hL] at ht;simp only[D8,AE] at ht;subst ht
    congr 1
    have key:∀(cs:List V) (l:List Value),EE cs=some l->cs=l.map .lit:=by
     intro cs
     induction cs with
     | nil=>intro l h;simp only[EE,AE] at h;subst h;rfl
     | cons c cs ih=>
      intro l h;cases c<;>simp only[EE] at h<;>try cases h
      rename_i v;cases hr:EE cs with
      | none=>rw[hr] at h;cases h
      | some l'=>rw[hr] at h;simp only[D8,AE] at h;subst h;rw[ih l' hr];rfl
    have BO:=key cs l hL;subst BO;apply Array.ext_getElem?;intro k;rw[JL] at hl;simp only[eQ];by_cases hk:k < vs.size
    .have h1:vs[k]?=some vs[k]:=Var hk
     have h2:l[k]?=some (l[k]'(by omega)):=CB (by omega);have h3:=hr k vs[k] (.lit (l[k]'(by omega))) h1 (by rw[Dt,h2];rfl);rw[h1,h2];generalize (l[k]'(by omega))=y at h3;generalize vs[k]=z at h3;cases h3;rfl
    .rw[s7 (by omega),S9 (by omega)]
theorem Yut {w:World} {ok:Nat->Prop} {U:AY} {v:Value} {x:V} (h:Gy v=some x):En w ok U v x:=by
 unfold Gy at h;split at h
 .split at h
  .rename_i cs hs
   simp only[AE] at h;subst h;refine .agg (by simp) (λx hx=>by obtain⟨u,_,rfl⟩:=Dx.1 hx;rfl) (λk v x hv hx=>?_);simp only[Dt,AL] at hx;obtain⟨u,hu,rfl⟩:=hx;have:u=v:=by
    have h1:cs.toList[k]?=some v:=by simpa using hv
    rw[h1] at hu;injection hu with hu;exact hu.symm
   subst this;exact .lit (Cb.1 hs _ (Ep hu))
  .cases h
 .split at h
  .rename_i hs
   simp only[AE] at h;subst h;exact .lit hs
  .cases h
theorem Rel.AP {P:Program} {B:Nat} {io:Nat->Prop} {w:World} {a:Act} {s:St} {U:AY} {F:Id->List Nat} {fl:List Nat} (h:Rel P B io w a.tmps s U F fl) (x:Operand):En w (AH s U w) U (a.eval x) (s.AP x):=by
 cases x with
 | tmp t=>
  simp only[St.AP,Act.eval];by_cases ht:t < a.tmps.size
  .have h1:a.tmps[t]?=some a.tmps[t]:=Var ht
   have:=h.env t a.tmps[t] h1;rw[OP,h1];exact this
  .rw[h.out t (eY ht)];exact .undef
 | const v=>
  simp only[St.AP,Act.eval];cases hv:Gy v with
  | none=>exact .undef
  | some x=>exact Yut hv
 | global g=>exact .undef
 | func f=>exact .fn rfl (λk v x hv hx=>by simp at hx)
structure Cf (P:Program) (B:Nat) (io:Nat->Prop) (w:World) (tmps:Array Value) (s:St) (U:AY) (fl:List Nat) (k:Nat) (v:V) (s':St) (val:Value) (w':World):Prop where
 env:s'.env=s.env
 ep:s'.ep=s.ep
 left:J6 B io w w'
 ex:∃U' F',Rel P B io w' tmps s' U' F' fl/\En w' (AH s' U' w') U' val v/\(∀id i,U id=some i->U' id=some i)/\(∀id,(U' id).isSome=true->(U id).isSome=true\/(id.1=s.ep/\id.2 / 1024=k))
theorem Cf.same {P:Program} {B:Nat} {io:Nat->Prop} {w:World} {a:Act} {s:St} {U:AY} {F:Id->List Nat} {fl:List Nat} {k:Nat} {v:V} {val:Value} (h:Rel P B io w a.tmps s U F fl) (hv:En w (AH s U w) U val v):Cf P B io w a.tmps s U fl k v s val w:=
 ⟨rfl,rfl,J6.refl _ _ _,U,F,h,hv,λ_ _ h=>h,λ_ h=>.inl h⟩
theorem Y7i {P:Program} {B:Nat} {io:Nat->Prop} {w:World} {a:Act} {s:St} {U:AY} {F:Id->List Nat} {fl:List Nat} {k:Nat} {o:Oper} {v:V} (h:Rel P B io w a.tmps s U F fl) (he:W6 P s.AP o=some v):
  Ce P o a w (Cf P B io w a.tmps s U fl k v s):=by
 unfold W6 at he;split at he
 .rename_i hc
  rw[Bg] at hc;obtain⟨hp,K1⟩:=hc;split at he
  .rename_i val Hb
   have hcg:execOp a.eval o=execOp (λx=>(Qi (s.AP x)).getD undef) o:=Ygj hp (λx hx=>by
    have h1:=Cb.1 K1 x hx;obtain⟨u,hu⟩:=EW.1 h1;rw[hu];exact Y8f (h.AP x) hu)
   exact .value (by rw[hcg];exact Y8y Hb w) (.same h (Yut he))
  .cases he
 .cases he
theorem SH {α:Type} {sz:Nat}:∀{rows:List (List α)} {i j:Nat} {row:List α} {x:α},(∀r∈rows,r.length=sz)->rows[i]?=some row->row[j]?=some x->rows.flatten[i*sz+j]?=some x:=by
 intro rows
 induction rows with
 | nil=>intro i j row x _ h;simp at h
 | cons r rs ih=>
  intro i j row x hs hi hj;have hr:r.length=sz:=hs r BJ;cases i with
  | zero=>
   have:r=row:=by simpa using hi
   subst this;rw[DS,EV (by have:=(CX.1 hj).1;omega)];simpa using hj
  | succ i=>
   have h1:=ih (λr h=>hs r (Co _ h)) (by simpa using hi) hj;rw[DS,FD (by rw[hr,JN];omega),hr];rw[show (i+1)*sz+j - sz=i*sz+j by rw[JN];omega];exact h1
theorem Rd.en {w:World} {ok:Nat->Prop} {U:AY} {v:Value} {x:V} (h:Rd w ok v x):En w ok U v x:=by
 induction h with
 | lit h=>exact .lit h
 | emp=>exact .tr .emp
 | tr hn hc hm hs hg hu hr ih=>exact .tr (.tr hn hc hm hs hg hu hr)
 | rp hg hu hr ih=>exact .rp (.rp hg hu hr)
 | fn hl hr ih=>exact .fn hl ih
theorem Rd.AF {w:World} {ok:Nat->Prop} {v:Value} {x:V} (h:Rd w ok v x):AF x=true:=by
 cases h<;>rfl
section
variable {P:Program} {B:Nat} {io:Nat->Prop} {w:World} {a:Act} {tmps:Array Value} {s:St} {U:AY} {F:Id->List Nat} {fl:List Nat}
theorem Rel.cell (h:Rel P B io w tmps s U F fl) {id:Id} {b:Bd} {g o c sz i j:Nat} {row:List V} {x:V} (hb:s.heap id=some b) (hU:U id=some (.Bl g o c sz)) (hi:b.rows[i]?=some row) (hj:row[j]?=some x):
  ∃u,w.cell? ⟨g,o+i*sz+j,none⟩=some u/\(b.box=true->En w (AH s U w) U u x)/\(b.box=false->Rd w (AH s U w) u x):=by
 have hB:=h.heap id b hb;rw[hU] at hB;have hF:b.own=true->∀k∈F id,k≠g->AH s U w k:=λho k hk Yh=>by
  refine⟨?_,h.CI id b hb ho k hk⟩;rintro⟨Aw,b',o',c',Cs,Yx,BP,Dh⟩;have ht:k∈F Aw:=by
   have:=h.heap Aw b' Yx;rw[Dh] at this;exact this.top BP
  by_cases e:Aw=id
  .subst e
   rw[hU] at Dh;injection Dh with Dh;injection Dh with hg;exact Yh hg.symm
  .exact h.apart Aw id b' b Yx BP hb ho e k ht hk
 unfold Xq at hB;split at hB
 .rename_i Xl
  obtain⟨_,g',cur,e,Cg,Y2,hg,hr,hs,he,h1,_⟩:=hB;cases Y2;rw[hr] at hi;have:i=0/\Cg=row:=by
   cases i with
   | zero=>exact⟨rfl,by simpa using hi⟩
   | succ i=>simp at hi
  obtain⟨rfl,rfl⟩:=this;have JS:=(CX.1 hj).1;have hc:cur[j]?=some cur[j]:=Var (by omega);refine⟨cur[j],?_,λ_=>he j _ x hc hj,λhf=>by rw[Xl] at hf;cases hf⟩;rw[show 0+0*Cg.length+j=j by omega,cell_of_row w g j cur e (0,0) hg];exact hc
 .rename_i Xl Yv
  rcases hB with⟨Y2,_⟩|⟨g',o',c',cur,Y2,hg,hl,hm,hu,hz,fp,CR,h1,h2⟩
  .cases Y2
  .cases Y2
   have hk:=SH hu hi hj;cases Qd:b.cl with
   | true=>
    have hfp:∀k∈fp,AH s U w k:=λk hk=>hF Yv k (by rw[CR];exact Co _ hk) (by
     rintro rfl;have:=h.once id b hb Yv;rw[CR] at this;exact (ED.1 this).1 hk)
    obtain⟨v,hv,hr⟩:=(h1 Qd).rd hfp hk;refine⟨v,?_,λhf=>(by rw[Xl] at hf;cases hf),λ_=>hr⟩;rw[Df] at hv;split at hv
    .rw[cell_of_row w g _ cur b.el (0,0) hg,Nat.add_assoc]
     simpa using hv
    .cases hv
   | false=>
    obtain⟨v,hv,hr⟩:=(h2 Qd).2 _ x hk;refine⟨v,?_,λhf=>(by rw[Xl] at hf;cases hf),λ_=>hr⟩;rw[cell_of_row w g _ cur b.el (0,0) hg,Nat.add_assoc];exact hv
 .rename_i Xl Yv
  obtain⟨_,hB⟩:=hB;rcases hB with⟨Y2,_⟩|⟨g',o',c',Cs,Y2,hu,hr⟩
  .cases Y2
  .cases Y2
   have hk:=SH hu hi hj;generalize b.rows=rows at hr hi hk hu;generalize hn:rows.length=n at hr;cases hr with
   | emp=>simp at hi
   | @tr _ _ _ _ tR _ u SI fJ D9 H5 Yd Ck Ch=>
    have:=Ck _ x hk;exact⟨u (i*sz+j),by rw[Nat.add_assoc];exact this,λhf=>(by rw[Xl] at hf;cases hf),λ_=>Ch _ x hk⟩
theorem Rel.Fe (h:Rel P B io w tmps s U F fl) {id:Id} {b:Bd} {j:Nat} {row:List V} (hb:s.heap id=some b) (Xl:b.box=true) (hr:b.rows[j]?=some row):∀x∈row,AF x=true:=by
 have hB:=h.heap id b hb;unfold Xq at hB;rw[Xl] at hB;obtain⟨_,g,cur,e,Cg,_,_,hrs,_,_,hc,_⟩:=hB;rw[hrs] at hr;cases j with
 | zero=>
      have:Cg=row:=by simpa using hr
      subst this;exact hc
 | succ j=>simp at hr
end
section
variable {P:Program} {B:Nat} {io:Nat->Prop} {w:World} {a:Act} {s:St} {U:AY} {F:Id->List Nat} {fl:List Nat} {k:Nat} {o:Oper} {v:V}
theorem Y0l (h:Rel P B io w a.tmps s U F fl) {x:Operand} (ho:o.op=.move x\/o.op=.assign x) (he:s.AP x=v):Ce P o a w (Cf P B io w a.tmps s U fl k v s):=by
 subst he;have hr:(execOp a.eval o).run P w=.ok (.value (a.eval x)) w:=by
  rcases ho with ho|ho<;>simp[execOp,ho]
 exact .value hr (.same h (h.AP x))
theorem Xbi (h:Rel P B io w a.tmps s U F fl) {c x y:Operand} {t:Bool} (ho:o.op=.pick c x y) (hc:s.AP c=.lit (.bool t)) (he:(if t then s.AP x else s.AP y)=v):Ce P o a w (Cf P B io w a.tmps s U fl k v s):=by
 have h1:=h.AP c;rw[hc] at h1;generalize hb:a.eval c=b at h1;cases h1;have hr:(execOp a.eval o).run P w=.ok (.value (if t then a.eval x else a.eval y)) w:=by
  cases t<;>simp[execOp,ho,hb,asBool]
 refine .value hr (.same h ?_);subst he;cases t
 .exact h.AP y
 .exact h.AP x
theorem Y31 (h:Rel P B io w a.tmps s U F fl) {t:Operand} {i:Nat} {vs:List V} (ho:o.op=.extract t i) (ht:s.AP t=.AW vs) (he:vs[i]?=some v):Ce P o a w (Cf P B io w a.tmps s U fl k v s):=by
 have h1:=h.AP t;rw[ht] at h1;generalize hb:a.eval t=b at h1;cases h1 with
 | @AW us _ hl hr=>
  have hi:=(CX.1 he).1;have hu:us[i]?=some us[i]:=Var (by omega);have Xu:(execOp a.eval o).run P w=.ok (.value us[i]) w:=by
   simp[execOp,ho,hb,Instr.extract,hu]
  exact .value Xu (.same h (hr i _ _ hu he))
theorem tS (h:Rel P B io w a.tmps s U F fl) {x:Operand} (ho:o.op=.nilCheck x) (hx:s.AP x=v) (hv:(∃i j n,v=.ptr i j n)\/(∃b r n,v=.rp b r n)\/(∃f cs,v=.fn f cs)):Ce P o a w (Cf P B io w a.tmps s U fl k v s):=by
 have h1:=h.AP x;rw[hx] at h1;have Xu:(execOp a.eval o).run P w=.ok (.value (a.eval x)) w:=by
  generalize hb:a.eval x=b at h1;rcases hv with⟨i,j,n,rfl⟩|⟨b',r,n,rfl⟩|⟨f,cs,rfl⟩
  .cases h1;simp[execOp,ho,hb]
  .cases h1 with|rp h2=>cases h2;simp[execOp,ho,hb]
  .cases h1;simp[execOp,ho,hb]
 exact .value Xu (.same h h1)
theorem H6 (g o n:Nat):(⟨g,o,none⟩:Addr).add n=⟨g,o+n,none⟩:=by
 unfold Addr.add;split<;>simp_all
theorem Yd6 (h:Rel P B io w a.tmps s U F fl) {t:TypeId} {x:Operand} {f off:Nat} (ho:o.op=.fieldAddr t x f) (hf:tM P t f=some off)
  (hv:(∃i j n,s.AP x=.ptr i j n/\v=.ptr i j (n+off))\/(∃b r n,s.AP x=.rp b r n/\v=.rp b r (n+off))):Ce P o a w (Cf P B io w a.tmps s U fl k v s):=by
 unfold tM at hf;split at hf
 .rename_i fs hu
  obtain⟨fl,BM,hf⟩:=A9.1 hf;split at hf
  .cases hf
  .rename_i Ww
   simp only[AE] at hf;subst hf;have Vf:∃ti,P.info? fl.type=some ti/\ti.size≠0:=by
    unfold Program.cellsOf at Ww;cases hq:P.info? fl.type with
    | none=>rw[hq] at Ww;simp at Ww
    | some ti=>rw[hq] at Ww;exact⟨ti,rfl,by simpa using Ww⟩
   obtain⟨ti,CN,Yh⟩:=Vf;have run:∀ad:Addr,a.eval x=.pointer (some ad)->(execOp a.eval o).run P w=.ok (.value (.pointer (some (ad.add fl.offset)))) w:=by
    intro ad hb;simp[execOp,ho,hb,Instr.fieldAt,underlying,hu,BM,Instr.sureAddr,fieldPlace,Go.sizeOf,typeInfo,CN,Yh]
   have h1:=h.AP x;rcases hv with⟨i,j,n,hx,rfl⟩|⟨b',r,n,hx,rfl⟩
   .rw[hx] at h1
    generalize hb:a.eval x=b at h1;cases h1 with
    | @ptr _ g o' c sz _ _ hU=>
     refine .value (run _ hb) (.same h ?_);rw[H6,Nat.add_assoc (o'+j*sz)];exact .ptr hU
   .rw[hx] at h1
    generalize hb:a.eval x=b at h1;cases h1 with
    | rp h2=>
     cases h2 with
     | @rp g o' _ _ _ u hg hu hr=>
      refine .value (run _ hb) (.same h ?_);rw[H6,Nat.add_assoc o'];exact .rp (.rp hg hu hr)
 .cases hf
theorem LH {t e:TypeId} (h:Qo P t=some e):P.underlying t=some (.slice e):=by
 unfold Qo at h;split at h
 .rename_i e' hu;simp only[AE] at h;subst h;exact hu
 .cases h
theorem Vg {w:World} {ok:Nat->Prop} {u:Value} {x:V} {n:Nat} (h:En w ok U u x) (hn:Wv x=some n):∃kd,u=.int kd (n:Int):=by
 unfold Wv at hn;split at hn
 .rename_i kd m
  split at hn
  .rename_i h0
   simp only[AE] at hn;cases h;exact⟨kd,by rw[<-hn,Int.toNat_of_nonneg h0]⟩
  .cases hn
 .cases hn
theorem tT (h:Rel P B io w a.tmps s U F fl) {t e:TypeId} {x ix:Operand} {n:Nat} (ho:o.op=.indexAddr t x ix) (ht:Qo P t=some e) (hn:Wv (s.AP ix)=some n)
  (hv:(∃i off len b row,s.AP x=.sl i off len/\n < len/\s.heap i=some b/\b.rows[off+n]?=some row/\row.length=Z2 P e/\v=.ptr i (off+n) 0)\/
   (∃sh rows row,(s.AP x=.tr rows\/s.AP x=.vw rows)/\rows[n]?=some row/\row.length=Z2 P e/\v=.rp sh row 0)) (hz:Z2 P e≠0):Ce P o a w (Cf P B io w a.tmps s U fl k v s):=by
 have hu:=LH ht;obtain⟨ti,CN,Ww⟩:∃ti,P.info? e=some ti/\ti.size=Z2 P e:=by
  unfold Z2 Program.cellsOf at hz ⊢;cases hq:P.info? e with
  | none=>rw[hq] at hz;simp at hz
  | some ti=>exact⟨ti,rfl,rfl⟩
 obtain⟨kd,hi⟩:=Vg (h.AP ix) hn;have run:∀(ad:Addr) (len c:Nat),a.eval x=.slice (some ad) len c->n < len->(execOp a.eval o).run P w=.ok (.value (.pointer (some (ad.add (n*Z2 P e))))) w:=by
  intro ad len c hb hl;have h1:(0:Int)<=(n:Int)/\(n:Int) < (len:Int):=⟨by omega,by omega⟩;simp[execOp,ho,hb,hi,Instr.indexAt,asIntOf,underlying,hu,Go.sizeOf,typeInfo,CN,Ww,hl]
 have h1:=h.AP x;rcases hv with⟨i,off,len,b,row,hx,hl,hb,Xg,Di,rfl⟩|⟨sh,rows,row,hx,Xg,Di,rfl⟩
 .rw[hx] at h1
  generalize hq:a.eval x=q at h1;cases h1 with
  | @sl _ g o' c sz _ _ hU hc=>
   have hB:=h.heap i b hb;rw[hU] at hB;have tU:sz=Z2 P e:=by
    unfold Xq at hB;split at hB
    .obtain⟨_,g',cur,e',Cg,Y2,hg,hr,hs,he,h1,_⟩:=hB
     cases Y2;rw[hr] at Xg;cases Cl:off+n with
     | zero=>
          rw[Cl] at Xg;have:Cg=row:=by simpa using Xg
          rw[this];exact Di
     | succ m=>rw[Cl] at Xg;simp at Xg
    .rcases hB with⟨Y2,_⟩|⟨g',fL,c',cur,Y2,hg,fM,hm,Ck,Pd,fp,CR,h1,h2⟩
     .cases Y2
     .cases Y2
      rw[<-Ck row (Ep Xg)];exact Di
    .obtain⟨_,hB⟩:=hB
     rcases hB with⟨Y2,_⟩|⟨g',fL,c',Cs,Y2,Ck,hr⟩
     .cases Y2
     .cases Y2
      rw[<-Ck row (Ep Xg)];exact Di
   refine .value (run _ _ _ hq hl) (.same h ?_);rw[H6,<-tU,Nat.add_assoc,<-Nat.add_mul];exact .ptr (off:=0) hU
  | sle=>omega
 .generalize hq:a.eval x=q at h1
  have h2:Rd w (AH s U w) q (.tr rows):=by
   rcases hx with hx|hx
   .rw[hx] at h1;cases h1 with|tr h=>exact h
   .rw[hx] at h1;cases h1 with|vw h=>exact h
  cases h2 with
  | emp=>simp at Xg
  | @tr g o' m c sz _ u SI fJ D9 H5 Yd Ck Ch=>
   have Vh:=(CX.1 Xg).1;have tU:sz=Z2 P e:=by rw[<-H5 row (Ep Xg)];exact Di
   refine .value (run _ _ _ hq (by omega)) (.same h ?_);rw[H6,<-tU];refine .rp (.rp (off:=0) (u:=λj=>u (n*sz+j)) Yd (λj x hj=>?_) (λj x hj=>Ch _ x (SH H5 Xg hj)));have:=Ck _ x (SH H5 Xg hj);show w.cell? ⟨g,o'+n*sz+j,none⟩=_;rw[Nat.add_assoc];exact this
end
section
variable {P:Program} {B:Nat} {io:Nat->Prop} {w:World} {a:Act} {s:St} {U:AY} {F:Id->List Nat} {fl:List Nat} {k:Nat} {o:Oper} {v:V}
theorem Ytd {t:TypeId} {x:Operand} {g n:Nat} {us:List Value} {cs:List V} (ho:o.op=.load t x) (hx:a.eval x=.pointer (some ⟨g,n,none⟩)) (hl:us.length=Z2 P t) (Qd:us.length=cs.length) (G1:∀x∈cs,AF x=true)
  (hc:∀j u,us[j]?=some u->w.cell? ⟨g,n+j,none⟩=some u) (he:JO P t cs=some v) (X3:∀(j:Nat) (u:Value) (x:V),us[j]?=some u->cs[j]?=some x->En w (AH s U w) U u x):
  ∃u,(execOp a.eval o).run P w=.ok (.value u) w/\En w (AH s U w) U u v:=by
 unfold JO at he;split at he
 .rename_i Vi
  obtain⟨d,hu⟩:=EW.1 Vi;split at he
  .rename_i Pe
   simp only[AE] at he;subst he;obtain⟨ti,CN⟩:∃ti,P.info? t=some ti:=by
    unfold Program.underlying at hu;split at hu
    .rename_i h;exact⟨_,h⟩
    .rename_i h;exact⟨_,h⟩
    .cases hu
   have Ww:ti.size=us.length:=by rw[hl];simp[Z2,Program.cellsOf,CN]
   have Xu:=run_loadCells_list (P:=P) (w:=w) ⟨g,n,none⟩ us (λj u hj=>by rw[H6];exact hc j u hj);rw[<-Ww] at Xu;refine⟨.agg us.toArray,?_,(.agg (by simpa using Qd) G1 (λj u x hj hx=>X3 j u x (by simpa using hj) hx))⟩;cases d<;>simp[H3,hu] at Pe<;>simp[execOp,ho,hx,Instr.loadAt,Instr.sureAddr,loadVar,isAgg,underlying,hu,Go.sizeOf,typeInfo,CN,Xu]
  .rename_i Pe
   split at he
   .rename_i y
    simp only[AE] at he;subst he
    match us,Qd with
    | [u],_=>
     refine⟨u,?_,X3 0 u y rfl rfl⟩;have h0:=hc 0 u rfl;simp only[GW] at h0;cases d<;>simp[H3,hu] at Pe<;>simp[execOp,ho,hx,Instr.loadAt,Instr.sureAddr,loadVar,isAgg,underlying,hu,load,Sem.run,h0]
   .cases he
 .cases he
theorem Y00 (h:Rel P B io w a.tmps s U F fl) {t:TypeId} {x:Operand} (ho:o.op=.load t x)
  (hv:(∃i j n b row,s.AP x=.ptr i j n/\s.heap i=some b/\b.rows[j]?=some row/\n+Z2 P t<=row.length/\JO P t ((row.drop n).take (Z2 P t))=some v)\/
   (∃sh row n,s.AP x=.rp sh row n/\n+Z2 P t<=row.length/\JO P t ((row.drop n).take (Z2 P t))=some v)):Ce P o a w (Cf P B io w a.tmps s U fl k v s):=by
 have h1:=h.AP x;rcases hv with⟨i,j,n,b,row,hx,hb,Xg,Yn,he⟩|⟨sh,row,n,hx,Yn,he⟩
 .rw[hx] at h1
  generalize hq:a.eval x=q at h1;cases h1 with
  | @ptr _ g o' c sz _ _ hU=>
   have cell:∀(m:Nat) (y:V),row[m]?=some y->∃u,w.cell? ⟨g,o'+j*sz+m,none⟩=some u/\(b.box=true->En w (AH s U w) U u y)/\(b.box=false->Rd w (AH s U w) u y):=λm y hy=>h.cell hb hU Xg hy;have each:∀m:Nat,m < Z2 P t->∃u,w.cell? ⟨g,o'+j*sz+n+m,none⟩=some u/\∀y,row[n+m]?=some y->(b.box=true->En w (AH s U w) U u y)/\(b.box=false->Rd w (AH s U w) u y):=by
    intro m hm;have hy:row[n+m]?=some (row[n+m]'(by omega)):=CB (by omega);obtain⟨u,h2,h3⟩:=cell (n+m) _ hy;refine⟨u,by rw[Nat.add_assoc (o'+j*sz)];exact h2,λy H7=>?_⟩;rw[hy] at H7;injection H7 with H7;rw[<-H7];exact h3
   let us:List Value:=List.ofFn λm:Fin (Z2 P t)=>Classical.choose (each m.1 m.2)
   have Ns:∀(m:Nat) (u:Value),us[m]?=some u->w.cell? ⟨g,o'+j*sz+n+m,none⟩=some u/\∀y,row[n+m]?=some y->(b.box=true->En w (AH s U w) U u y)/\(b.box=false->Rd w (AH s U w) u y):=by
    intro m u hu;obtain⟨hm,rfl⟩:=CX.1 hu;have D9:m < Z2 P t:=by simpa [us] using hm
    have:=UH (each m D9);simpa [us] using this
   have Pf:us.length=Z2 P t:=by simp[us]
   obtain⟨u,Xu,X3⟩:=Ytd (P:=P) (s:=s) (U:=U) (us:=us) ho hq Pf (by rw[Pf];simp;omega) (by
     intro x hx;cases Xl:b.box with
     | true=>exact h.Fe hb Xl Xg x (FV (FW hx))
     | false=>
      obtain⟨m,hm⟩:=H0 hx;rw[Df] at hm;split at hm
      .rw[D7] at hm
       obtain⟨u,_,h3⟩:=cell _ x hm;exact (h3.2 Xl).AF
      .cases hm) (λm u hu=>(Ns m u hu).1) he (λm u y hu hy=>by
     have h3:=(Ns m u hu).2;rw[Df] at hy;split at hy
     .rw[D7] at hy
      cases Xl:b.box with
      | true=>exact (h3 y hy).1 Xl
      | false=>exact ((h3 y hy).2 Xl).en
     .cases hy)
   exact .value Xu (.same h X3)
 .rw[hx] at h1
  generalize hq:a.eval x=q at h1;cases h1 with
  | rp h2=>
   cases h2 with
   | @rp g o' _ _ _ uu hg hu hr=>
    let us:List Value:=List.ofFn λm:Fin (Z2 P t)=>uu (n+m.1)
    have Ns:∀(m:Nat) (u:Value),us[m]?=some u->m < Z2 P t/\u=uu (n+m):=by
     intro m u hu;obtain⟨hm,rfl⟩:=CX.1 hu;exact⟨by simpa [us] using hm,by simp[us]⟩
    have Pf:us.length=Z2 P t:=by simp[us]
    obtain⟨u,Xu,X3⟩:=Ytd (P:=P) (s:=s) (U:=U) (us:=us) ho hq Pf (by rw[Pf];simp;omega) (by
      intro x hx;obtain⟨m,hm⟩:=H0 hx;rw[Df] at hm;split at hm
      .rw[D7] at hm
       exact (hr _ x hm).AF
      .cases hm) (λm u hm=>by
      obtain⟨h3,rfl⟩:=Ns m u hm;have hy:row[n+m]?=some (row[n+m]'(by omega)):=CB (by omega);rw[Nat.add_assoc];exact hu _ _ hy) he (λm u y hm hy=>by
      obtain⟨h3,rfl⟩:=Ns m u hm;rw[Df,Ah h3,D7] at hy;exact (hr _ y hy).en)
    exact .value Xu (.same h X3)
theorem tV (h:Rel P B io w a.tmps s U F fl) {x:Operand} {t:TypeId} {n:Nat} (ho:o.op=.call {callee:=.builtin .len,args:=#[x],argTypes:=#[t]}) (ht:(Qo P t).isSome=true)
  (hv:(∃i off,s.AP x=.sl i off n)\/(∃rows,(s.AP x=.tr rows\/s.AP x=.vw rows)/\n=rows.length)) (he:v=.lit (.int .i64 n)):Ce P o a w (Cf P B io w a.tmps s U fl k v s):=by
 subst he;obtain⟨e,Qt⟩:=EW.1 ht;have hu:=LH Qt;have hq:∃A c,a.eval x=.slice A n c:=by
  have h1:=h.AP x;generalize a.eval x=q at h1;rcases hv with⟨i,off,hx⟩|⟨rows,hx,rfl⟩
  .rw[hx] at h1
   cases h1 with
   | sl=>exact⟨_,_,rfl⟩
   | sle=>exact⟨_,_,rfl⟩
  .have h2:Rd w (AH s U w) q (.tr rows):=by
    rcases hx with hx|hx
    .rw[hx] at h1;cases h1 with|tr h=>exact h
    .rw[hx] at h1;cases h1 with|vw h=>exact h
   cases h2 with
   | emp=>exact⟨_,_,rfl⟩
   | tr hn=>exact⟨_,_,by rw[hn]⟩
 obtain⟨A,c,hq⟩:=hq;have hr:(execOp a.eval o).run P w=.ok (.value (.int .i64 n)) w:=by
  simp[execOp,ho,resolve,invoke,builtin,hq,Builtin.len_,underlying,hu,goInt]
 exact .value hr (.same h (.lit rfl))
theorem Yx2 (h:Rel P B io w a.tmps s U F fl) {f:FuncId} {Bu:Array Operand} (ho:o.op=.makeFunc (.func f) #[] Bu) (he:v=.fn f (Bu.toList.map s.AP)):Ce P o a w (Cf P B io w a.tmps s U fl k v s):=by
 subst he;have hr:(execOp a.eval o).run P w=.ok (.value (.func (.func f) #[] (Bu.map a.eval))) w:=by
  simp[execOp,ho,Instr.makeFunc]
 refine .value hr (.same h (.fn (by simp) (λj u x hu hx=>?_)));simp only[Dt,AL,Array.getElem?_map] at hu hx;obtain⟨y,hy,rfl⟩:=hu;obtain⟨z,hz,rfl⟩:=hx;have:y=z:=by
  have h1:Bu.toList[j]?=some y:=by simpa using hy
  rw[h1] at hz;injection hz
 subst this;exact h.AP y
end
theorem Z7 {α β:Type} [DecidableEq α] (f:α->β) (a:α) (b:β):Bi f a b a=b:=by simp[Bi]
theorem X5 {α β:Type} [DecidableEq α] {f:α->β} {a x:α} {b:β} (h:x≠a):Bi f a b x=f x:=by simp[Bi,h]
section
variable {P:Program} {B:Nat} {io:Nat->Prop} {w w':World} {tmps:Array Value} {s s':St} {U U':AY} {F F':Id->List Nat} {fl fl':List Nat}
theorem Rel.steps (h:Rel P B io w tmps s U F fl) (N:Id->Prop) (CO:∀t v,tmps[t]?=some v->En w' (AH s' U' w') U' v (s'.env t)) (tW:∀t,tmps.size<=t->s'.env t=.undef) (Yk:s'.ep=s.ep) (DI:∀id b,¬N id->s'.heap id=some b->s.heap id=some b)
  (hU:∀id i,U id=some i->U' id=some i) (Ff:∀id,(U' id).isSome=true->(U id).isSome=true\/id.1=s.ep) (JT:∀id,¬N id->U' id=U id) (JU:∀id,¬N id->F' id=F id)
  (hk:Ie w w' (λg=>¬AJ s U g) (λg=>¬AJ s' U' g)) (ht:∀id b,¬N id->s'.heap id=some b->∀g∈F id,w'.heap[g]?=w.heap[g]?)
  (hA:∀k,k < B->¬io k->w'.heap[k]?=w.heap[k]?) (hn:∀id b,N id->s'.heap id=some b->Xq P w' (AH s' U' w') U' (U' id) (F' id) b) (fN:∀id b,N id->s'.heap id=some b->b.own=true->(∀g∈F' id,g < w'.heap.size)/\(Pc (U' id)->∀g,(F' id).head?=some g->io g\/B<=g))
  (Ii:∀id b,N id->s'.heap id=some b->b.own=true->∀Aw b',id≠Aw->s'.heap Aw=some b'->b'.own=true->∀g∈F' Aw,g ∉ F' id) (Ct:∀id b,N id->s'.heap id=some b->b.own=true->(F' id).Nodup)
  (tX:∀g∈fl',g < w'.heap.size) (tY:∀id b,s'.heap id=some b->b.own=true->∀g∈F' id,g ∉ fl') (Pg:fl'.Nodup):
  Rel P B io w' tmps s' U' F' fl' where
 env:=CO
 out:=tW
 heap:=λid b hb=>by
  by_cases e:N id
  .exact hn id b e hb
  .rw[JT id e,JU id e]
   exact (show Xq P w (λg=>(¬AJ s U g)/\g < w.heap.size) U (U id) (F id) b from h.heap id b (DI id b e hb)).C8 hk hU (ht id b e hb)
 CI:=λid b hb ho g hg=>by
  by_cases e:N id
  .exact (fN id b e hb ho).1 g hg
  .rw[JU id e] at hg
   exact GU (h.CI id b (DI id b e hb) ho g hg) hk.size
 top:=λid b hb ho hc g hg=>by
  by_cases e:N id
  .exact (fN id b e hb ho).2 hc g hg
  .rw[JU id e] at hg
   exact h.top id b (DI id b e hb) ho (by rw[<-JT id e];exact hc) g hg
 apart:=λid Aw b b' hb ho Yx BP Yh g hg Yd=>by
  by_cases e:N id
  .exact Ii id b e hb ho Aw b' Yh Yx BP g Yd hg
  .by_cases e':N Aw
   .exact Ii Aw b' e' Yx BP id b (Ne.symm Yh) hb ho g hg Yd
   .rw[JU id e] at hg
    rw[JU Aw e'] at Yd;exact h.apart id Aw b b' (DI id b e hb) ho (DI Aw b' e' Yx) BP Yh g hg Yd
 once:=λid b hb ho=>by
  by_cases e:N id
  .exact Ct id b e hb ho
  .rw[JU id e];exact h.once id b (DI id b e hb) ho
 C5:=λid Zu=>by
  rw[Yk];rcases Ff id Zu with h1|h1
  .exact h.C5 id h1
  .omega
 Cr:=h.Cr.step hk.size hA
 AR:=tX
 A7:=tY
 AT:=Pg
theorem Rel.LI (h:Rel P B io w tmps s U F fl) (CO:s'.env=s.env) (hU:∀id i,U id=some i->U' id=some i) (hk:Ie w w' (λg=>¬AJ s U g) (λg=>¬AJ s' U' g)):∀t v,tmps[t]?=some v->En w' (AH s' U' w') U' v (s'.env t):=λt v hv=>by
 rw[CO];exact (show En w (λg=>(¬AJ s U g)/\g < w.heap.size) U v (s.env t) from h.env t v hv).C8 hk hU
theorem Rel.step (h:Rel P B io w tmps s U F fl) (nid:Id) (CO:s'.env=s.env) (Yk:s'.ep=s.ep) (DI:∀id b,id≠nid->s'.heap id=some b->s.heap id=some b)
  (hU:∀id i,U id=some i->U' id=some i) (Ff:∀id,(U' id).isSome=true->(U id).isSome=true\/id.1=s.ep) (JT:∀id,id≠nid->U' id=U id) (JU:∀id,id≠nid->F' id=F id)
  (hk:Ie w w' (λg=>¬AJ s U g) (λg=>¬AJ s' U' g)) (ht:∀id b,id≠nid->s'.heap id=some b->∀g∈F id,w'.heap[g]?=w.heap[g]?)
  (hA:∀k,k < B->¬io k->w'.heap[k]?=w.heap[k]?) (hn:∀b,s'.heap nid=some b->Xq P w' (AH s' U' w') U' (U' nid) (F' nid) b) (fN:∀b,s'.heap nid=some b->b.own=true->(∀g∈F' nid,g < w'.heap.size)/\(Pc (U' nid)->∀g,(F' nid).head?=some g->io g\/B<=g))
  (Ii:∀b,s'.heap nid=some b->b.own=true->∀id b',id≠nid->s'.heap id=some b'->b'.own=true->∀g∈F id,g ∉ F' nid) (Ct:∀b,s'.heap nid=some b->b.own=true->(F' nid).Nodup)
  (tX:∀g∈fl',g < w'.heap.size) (tY:∀id b,id≠nid->s'.heap id=some b->b.own=true->∀g∈F id,g ∉ fl') (tZ:∀b,s'.heap nid=some b->b.own=true->∀g∈F' nid,g ∉ fl') (Pg:fl'.Nodup):
  Rel P B io w' tmps s' U' F' fl':=
 h.steps (N:=λid=>id=nid) (h.LI CO hU hk) (λt ht=>by rw[CO];exact h.out t ht) Yk DI hU Ff JT JU hk ht hA (λid b e hb=>by subst e;exact hn b hb) (λid b e hb ho=>by subst e;exact fN b hb ho)
  (λid b e hb ho Aw b' Yh Yx BP g hg=>by subst e;rw[JU Aw (Ne.symm Yh)] at hg;exact Ii b hb ho Aw b' (Ne.symm Yh) Yx BP g hg) (λid b e hb ho=>by subst e;exact Ct b hb ho) tX
  (λid b hb ho g hg=>by
   by_cases e:id=nid
   .subst e;exact tZ b hb ho g hg
   .rw[JU id e] at hg;exact tY id b e hb ho g hg) Pg
theorem Ie.same (hs:∀g,AJ s' U' g->AJ s U g):Ie w w (λg=>¬AJ s U g) (λg=>¬AJ s' U' g):=
 ⟨λ_ _ _=>rfl,λg hg _ ht=>hg (hs g ht),B4 _⟩
theorem fO {id:Id}:∀g,AJ (s.kill id) U g->AJ s U g:=by
 rintro g ⟨Aw,b,o,c,sz,hb,ho,hU⟩;refine⟨Aw,b,o,c,sz,?_,ho,hU⟩;simp only[St.kill,Bi] at hb;split at hb
 .cases hb
 .exact hb
theorem Ij {id Aw:Id} {b:Bd} (h:(s.kill id).heap Aw=some b):s.heap Aw=some b:=by
 simp only[St.kill,Bi] at h;split at h
 .cases h
 .exact h
theorem Q5 {id:Id}:(s.kill id).heap id=none:=by simp[St.kill,Bi]
theorem Rel.kill (h:Rel P B io w tmps s U F fl) (id:Id):Rel P B io w tmps (s.kill id) U F fl:=
 h.step (nid:=id) rfl rfl (λAw b _ hb=>Ij hb) (λ_ _ h=>h) (λ_ h=>.inl h) (λ_ _=>rfl) (λ_ _=>rfl) (.same fO) (λ_ _ _ _ _ _=>rfl) (λ_ _ _=>rfl)
  (λb hb=>by rw[Q5] at hb;cases hb) (λb hb=>by rw[Q5] at hb;cases hb) (λb hb=>by rw[Q5] at hb;cases hb) (λb hb=>by rw[Q5] at hb;cases hb)
  h.AR (λAw b e hb ho=>h.A7 Aw b (Ij hb) ho) (λb hb=>by rw[Q5] at hb;cases hb) h.AT
theorem Rel.float (h:Rel P B io w tmps s U F fl) {id:Id} {b:Bd} (hb:s.heap id=some b) (ho:b.own=true):Rel P B io w tmps (s.kill id) U F (F id++fl):=by
 refine h.step (nid:=id) rfl rfl (λAw b _ hb=>Ij hb) (λ_ _ h=>h) (λ_ h=>.inl h) (λ_ _=>rfl) (λ_ _=>rfl) (.same fO) (λ_ _ _ _ _ _=>rfl) (λ_ _ _=>rfl)
  (λb hb=>by rw[Q5] at hb;cases hb) (λb hb=>by rw[Q5] at hb;cases hb) (λb hb=>by rw[Q5] at hb;cases hb) (λb hb=>by rw[Q5] at hb;cases hb)
  (λg hg=>?_) (λAw b' e Yx BP g hg Yd=>?_) (λb hb=>by rw[Q5] at hb;cases hb) ?_
 .rcases BT.1 hg with hg|hg
  .exact h.CI id b hb ho g hg
  .exact h.AR g hg
 .rcases BT.1 Yd with Yd|Yd
  .exact h.apart Aw id b' b (Ij Yx) BP hb ho e g hg Yd
  .exact h.A7 Aw b' (Ij Yx) BP g hg Yd
 .exact EC.2 ⟨h.once id b hb ho,h.AT,λa ha b' Yx e=>h.A7 id b hb ho a ha (e▸Yx)⟩
theorem Rel.G2 (h:Rel P B io w tmps s U F fl) {id:Id} {b:Bd} {i:G0} (hb:s.heap id=some b) (ho:b.own=true) (hi:U id=some i) {k:Nat} (hk:k∈F id) (Yh:∀g o c sz,i=.Bl g o c sz->k≠g):AH s U w k:=by
 refine⟨?_,h.CI id b hb ho k hk⟩;rintro⟨Aw,b',o',c',Cs,Yx,BP,Dh⟩;have ht:k∈F Aw:=by
  have:=h.heap Aw b' Yx;rw[Dh] at this;exact this.top BP
 by_cases e:Aw=id
 .subst e
  rw[hi] at Dh;injection Dh with Dh;exact Yh _ _ _ _ Dh rfl
 .exact h.apart Aw id b' b Yx BP hb ho e k ht hk
theorem Rel.Ik (h:Rel P B io w tmps s U F fl) {k:Nat} (hk:k∈fl):AH s U w k:=by
 refine⟨?_,h.AR k hk⟩;rintro⟨Aw,b',o',c',Cs,Yx,BP,Dh⟩;have ht:k∈F Aw:=by
  have:=h.heap Aw b' Yx;rw[Dh] at this;exact this.top BP
 exact h.A7 Aw b' Yx BP k ht hk
end
theorem B5.drop {w:World}:∀(n:Nat) {vs:List Value} {xs:List V} {fp:List Nat},B5 w vs xs fp->∃BQ,B5 w (vs.drop n) (xs.drop n) BQ/\BQ.Sublist fp:=by
 intro n
 induction n with
 | zero=>intro vs xs fp h;exact⟨fp,h,Ng _⟩
 | succ n ih=>
  intro vs xs fp h;cases xs with
  | nil=>cases h;exact⟨[],.nil,Ng _⟩
  | cons x xs=>
   cases h with
   | @cons v _ vs _ f1 f2 h hs=>
    obtain⟨BQ,h1,h2⟩:=ih hs;exact⟨BQ,h1,h2.trans (HT _ _)⟩
theorem B5.take {w:World}:∀(n:Nat) {vs:List Value} {xs:List V} {fp:List Nat},B5 w vs xs fp->∃BQ,B5 w (vs.take n) (xs.take n) BQ/\BQ.Sublist fp:=by
 intro n
 induction n with
 | zero=>intro vs xs fp h;exact⟨[],by simp;exact .nil,List.nil_sublist _⟩
 | succ n ih=>
  intro vs xs fp h;cases xs with
  | nil=>cases h;exact⟨[],.nil,Ng _⟩
  | cons x xs=>
   cases h with
   | @cons v _ vs _ f1 f2 h hs=>
    obtain⟨BQ,h1,h2⟩:=ih hs;exact⟨f1++BQ,.cons h h1,UJ (Ng _) h2⟩
theorem H8 {α:Type} {sz:Nat}:∀{rows:List (List α)},(∀r∈rows,r.length=sz)->rows.flatten.length=rows.length*sz:=by
 intro rows
 induction rows with
 | nil=>intro _;simp
 | cons r rs ih=>intro h;rw[DS,Cw,ih (λr hr=>h r (Co _ hr)),h r BJ,AV,JN];omega
theorem uA {α:Type} {sz:Nat}:∀{rows:List (List α)} {k:Nat} {x:α},(∀r∈rows,r.length=sz)->rows.flatten[k]?=some x->∃i j row,rows[i]?=some row/\row[j]?=some x/\k=i*sz+j:=by
 intro rows
 induction rows with
 | nil=>intro k x _ h;simp at h
 | cons r rs ih=>
  intro k x h hk;have hr:r.length=sz:=h r BJ;rw[DS] at hk;by_cases Z6:k < r.length
  .rw[EV Z6] at hk
   exact⟨0,k,r,rfl,hk,by omega⟩
  .rw[FD (by omega)] at hk
   obtain⟨i,j,row,h1,h2,h3⟩:=ih (λr hr=>h r (Co _ hr)) hk;exact⟨i+1,j,row,by simpa using h1,h2,by rw[JN];omega⟩
theorem Vj {α:Type} {sz:Nat}:∀(n:Nat) {rows:List (List α)},(∀r∈rows,r.length=sz)->rows.flatten.drop (n*sz)=(rows.drop n).flatten:=by
 intro n
 induction n with
 | zero=>intro rows _;simp
 | succ n ih=>
  intro rows h;cases rows with
  | nil=>simp
  | cons r rs=>
   have hr:r.length=sz:=h r BJ;rw[DS,s9,<-ih (λr hr=>h r (Co _ hr)),JN,fF,<-List.drop_drop]
   congr 1
   rw[<-hr];simp
theorem uB {α:Type} {sz:Nat}:∀(n:Nat) {rows:List (List α)},(∀r∈rows,r.length=sz)->rows.flatten.take (n*sz)=(rows.take n).flatten:=by
 intro n
 induction n with
 | zero=>intro rows _;simp
 | succ n ih=>
  intro rows h;cases rows with
  | nil=>simp
  | cons r rs=>
   have hr:r.length=sz:=h r BJ;rw[DS,List.take_succ_cons,DS,<-ih (λr hr=>h r (Co _ hr)),JN,fF,List.take_append,hr,UF]
   congr 1
   rw[D6 (by omega)]
def Nt (P:Program) (w:World) (e:TypeId) (u:Value) (rows:List (List V)) (fp:List Nat):Prop:=
 (∃A,u=.slice A 0 0/\rows=[]/\fp=[])\/
 ∃g o c cur BQ,u=.slice (some ⟨g,o,none⟩) rows.length c/\w.heap[g]?=some (.cells cur e (0,0))/\rows.length<=c/\c<=maxLen/\(∀r∈rows,r.length=P.cellsOf e)/\o+c*P.cellsOf e=cur.size/\
  B5 w ((cur.toList.drop o).take (rows.length*P.cellsOf e)) rows.flatten BQ/\fp=g::BQ
theorem Nt.ow {P:Program} {w:World} {e:TypeId} {u:Value} {rows:List (List V)} {fp:List Nat} (h:Nt P w e u rows fp):Ow w u (.tr rows) fp:=by
 rcases h with⟨A,rfl,rfl,rfl⟩|⟨g,o,c,cur,BQ,rfl,hg,hl,hm,hu,hz,hO,rfl⟩
 .exact .emp
 .exact .tr hg rfl hl hm hu hz hO
section
variable {P:Program} {B:Nat} {io:Nat->Prop} {w w':World} {tmps:Array Value} {s s':St} {U U':AY} {F F':Id->List Nat} {fl fl':List Nat}
theorem Rel.less (h:Rel P B io w tmps s U F fl) {fl':List Nat} (hs:fl'.Sublist fl):Rel P B io w tmps s U F fl':=
 {h with
  AR:=λg hg=>h.AR g (hs.subset hg)
  A7:=λid b hb ho g hg Yd=>h.A7 id b hb ho g hg (hs.subset Yd)
  AT:=h.AT.sublist hs}
theorem Rel.perm (h:Rel P B io w tmps s U F fl) {fl':List Nat} (hs:fl'.Perm fl):Rel P B io w tmps s U F fl':=
 {h with
  AR:=λg hg=>h.AR g (hs.mem_iff.1 hg)
  A7:=λid b hb ho g hg Yd=>h.A7 id b hb ho g hg (hs.mem_iff.1 Yd)
  AT:=hs.nodup_iff.2 h.AT}
theorem Rel.FZ (h:Rel P B io w tmps s U F fl) {id:Id} {off len:Nat} {e:TypeId} {rows:List (List V)} {u:Value} (hu:En w (AH s U w) U u (.sl id off len)) (hw:s.whole id off len=some (e,rows)):
  ∃fp,Rel P B io w tmps (s.kill id) U F (fp++fl)/\Nt P w e u rows fp/\∀g,fp.head?=some g->(F id).head?=some g/\Pc (U id):=by
 unfold St.whole at hw;obtain⟨b,hb,hw⟩:=A9.1 hw;split at hw
 .rename_i hc
  obtain⟨Xl,Yv,Qd,Yn⟩:=hc;simp only[AE,A6] at hw;obtain⟨rfl,rfl⟩:=hw;have BM:=h.float hb Yv;cases hu with
  | sle hi=>exact⟨[],BM.less (HT _ _),.inl ⟨_,rfl,by simp,rfl⟩,λg hg=>by simp at hg⟩
  | @sl _ g o c sz _ _ hU hc=>
   have hB:=h.heap id b hb;rw[hU] at hB;unfold Xq at hB;rw[Xl,Yv] at hB;rcases hB with⟨Y2,_⟩|⟨g',o',c',cur,Y2,hg,hl,hm,BW,hz,fp,CR,h1,h2⟩
   .cases Y2
   .cases Y2
    obtain⟨f1,Ph,Cc⟩:=(h1 Qd).drop (off*P.cellsOf b.el);obtain⟨f2,H9,Dj⟩:=Ph.take (len*P.cellsOf b.el);have Pj:∀r∈b.rows.drop off,r.length=P.cellsOf b.el:=λr hr=>BW r (FV hr);rw[Vj off BW,uB len Pj] at H9;have Fg:(((cur.toList.drop o).take (b.rows.length*P.cellsOf b.el)).drop (off*P.cellsOf b.el)).take (len*P.cellsOf b.el)=(cur.toList.drop (o+off*P.cellsOf b.el)).take (len*P.cellsOf b.el):=by
     rw[List.drop_take,List.drop_drop,List.take_take]
     congr 1
     have:(off+len)*P.cellsOf b.el<=b.rows.length*P.cellsOf b.el:=Nf _ Yn;rw[Nat.add_mul] at this;omega
    rw[Fg] at H9;have Pk:((b.rows.drop off).take len).length=len:=by simp;omega
    by_cases hc0:c - off=0
    .have Pm:len=0:=by omega
     subst Pm;exact⟨[],BM.less (HT _ _),.inl ⟨_,by rw[hc0],by simp,rfl⟩,λg hg=>by simp at hg⟩
    refine⟨g::f2,BM.less ?_,.inr ⟨g,o+off*P.cellsOf b.el,c - off,cur,f2,by rw[Pk],hg,by rw[Pk];omega,by omega,λr hr=>Pj r (FW hr),?_,by rw[Pk];exact H9,rfl⟩,λg' Yd=>⟨by rw[CR];exact Yd,g,o,c,_,hU,by omega⟩⟩
    .rw[CR,HU,HU]
     exact (UJ (Dj.trans Cc) (Ng _)).cons_cons _
    .have:off*P.cellsOf b.el+(c - off)*P.cellsOf b.el=c*P.cellsOf b.el:=by rw[<-Nat.add_mul];congr 1;omega
     omega
 .cases hw
theorem Rel.whole (h:Rel P B io w tmps s U F fl) {id:Id} {off len:Nat} {e:TypeId} {rows:List (List V)} {u:Value} (hu:En w (AH s U w) U u (.sl id off len)) (hw:s.whole id off len=some (e,rows)):
  ∃fp,Rel P B io w tmps (s.kill id) U F (fp++fl)/\Nt P w e u rows fp:=by
 obtain⟨fp,h1,h2,_⟩:=h.FZ hu hw;exact⟨fp,h1,h2⟩
theorem Rel.rowsOf (h:Rel P B io w tmps s U F fl) {x:V} {u:Value} {rows:List (List V)} {ok':Nat->Prop} (hu:En w (AH s U w) U u x) (hr:s.rowsOf x=some rows) (Yg:∀g,AH s U w g->ok' g)
  (X8:∀id off len b g o c sz,x=.sl id off len->s.heap id=some b->b.own=true->U id=some (.Bl g o c sz)->g < w.heap.size->g ∉ fl->ok' g):Rd w ok' u (.tr rows):=by
 have up:∀{v:Value} {y:V},Rd w (AH s U w) v y->Rd w ok' v y:=λhv=>hv.mono (λ_ _ _=>rfl) Yg;unfold St.rowsOf at hr;split at hr
 .rename_i id off len
  obtain⟨b,hb,hr⟩:=A9.1 hr;split at hr
  .rename_i hc
   obtain⟨Xl,Yn⟩:=hc;simp only[AE] at hr;subst hr;cases hu with
   | sle hi=>simp only[List.take_zero];exact .emp
   | @sl _ g o c sz _ _ hU hc=>
    by_cases Yh:(b.rows.drop off).take len=[]
    .have Pm:len=0:=by
      have:=congrArg List.length Yh;simp at this;omega
     subst Pm;rw[Yh];exact .emp
    have hB:=h.heap id b hb;rw[hU] at hB;have hcm:c<=maxLen/\(∀r∈b.rows,r.length=sz)/\ok' g:=by
     unfold Xq at hB;rw[Xl] at hB;generalize Yv:b.own=ow at hB;cases ow with
     | true=>
      rcases hB with⟨Y2,_⟩|⟨g',o',c',cur,Y2,hg,hl,hm,BW,hz,fp,CR,h1,Pn⟩
      .cases Y2
      .cases Y2
       exact⟨hm,BW,X8 id off len b g o c _ rfl hb Yv hU (Hz.1 hg).1 (h.A7 id b hb Yv g (by rw[CR];exact BJ))⟩
     | false=>
      obtain⟨_,hB⟩:=hB;rcases hB with⟨Y2,_⟩|⟨g',o',c',Cs,Y2,BW,hr⟩
      .cases Y2
      .cases Y2
       generalize hrw:b.rows=rws at hr BW Yh;generalize hn:rws.length=n at hr;cases hr with
       | emp=>simp at Yh
       | tr SI fJ D9 H5 Yd Ck Ch=>exact⟨D9,BW,Yg g Yd⟩
    have Pk:((b.rows.drop off).take len).length=len:=by simp;omega
    have Pj:∀r∈(b.rows.drop off).take len,r.length=sz:=λr hr=>hcm.2.1 r (FV (FW hr));have cellAt:∀(k:Nat) (x:V),((b.rows.drop off).take len).flatten[k]?=some x->∃u,w.cell? ⟨g,o+off*sz+k,none⟩=some u/\Rd w ok' u x:=by
     intro k x hk;obtain⟨i,j,row,hi,hj,rfl⟩:=uA Pj hk;rw[Df] at hi;split at hi
     .rw[D7] at hi
      obtain⟨u,h1,_,h2⟩:=h.cell hb hU hi hj;refine⟨u,?_,up (h2 Xl)⟩;rw[show o+off*sz+(i*sz+j)=o+(off+i)*sz+j by rw[Nat.add_mul];omega];exact h1
     .cases hi
    have each:∀k,∃u:Value,∀x,((b.rows.drop off).take len).flatten[k]?=some x->w.cell? ⟨g,o+off*sz+k,none⟩=some u/\Rd w ok' u x:=by
     intro k;cases hk:((b.rows.drop off).take len).flatten[k]? with
     | none=>exact⟨undef,λx hx=>by cases hx⟩
     | some y=>
      obtain⟨u,h1,h2⟩:=cellAt k y hk;exact⟨u,λx hx=>by injection hx with hx;subst hx;exact⟨h1,h2⟩⟩
    obtain⟨uf,Nu⟩:=sY each;exact .tr (u:=uf) Pk (by omega) (by omega) Pj hcm.2.2 (λk x hk=>(Nu k x hk).1) (λk x hk=>(Nu k x hk).2)
  .cases hr
 .simp only[AE] at hr;subst hr;cases hu with|tr h=>exact up h
 .simp only[AE] at hr;subst hr;cases hu with|vw h=>exact up h
 .simp only[AE] at hr;subst hr;cases hu;exact .emp
 .cases hr
theorem En.kill {id:Id} {v:Value} {x:V} (h:En w (AH s U w) U v x):En w (AH (s.kill id) U w) U v x:=
 (show En w (λg=>(¬AJ s U g)/\g < w.heap.size) U v x from h).C8 (.same fO) (λ_ _ h=>h)
theorem Vk {id:Id} {g:Nat} (h:AH s U w g):AH (s.kill id) U w g:=⟨λht=>h.1 (fO g ht),h.2⟩
theorem Y0r:∀(xs:List V) {us:List Value} {s:St} {fl:List Nat} {ys:List V} {c:Bool} {s':St},Rel P B io w tmps s U F fl->us.length=xs.length->
  (∀(k:Nat) (u:Value) (x:V),us[k]?=some u->xs[k]?=some x->En w (AH s U w) U u x)->s.sink xs=some (ys,c,s')->
  ∃fp,Rel P B io w tmps s' U F (fp++fl)/\us.length=ys.length/\(c=true->B5 w us ys fp)/\(∀(k:Nat) (u:Value) (y:V),us[k]?=some u->ys[k]?=some y->Rd w (AH s' U w) u y)/\
   s'.env=s.env/\s'.ep=s.ep/\(∀id b,s'.heap id=some b->s.heap id=some b)/\(∀g,AH s U w g->AH s' U w g):=by
 intro xs
 induction xs with
 | nil=>
  intro us s fl ys c s' h hl X3 hs;simp only[St.sink,AE,A6] at hs;obtain⟨rfl,rfl,rfl⟩:=hs;have:us=[]:=Gt (by simpa using hl);subst this;exact⟨[],h,rfl,λ_=>.nil,λk u y hu=>by simp at hu,rfl,rfl,λ_ _ h=>h,λ_ h=>h⟩
 | cons x xs ih=>
  intro us s fl ys c s' h hl X3 hs
  match us,hl with
  | u::us,hl=>
   have hu:=X3 0 u x rfl rfl;have LJ:∀(k:Nat) (v:Value) (y:V),us[k]?=some v->xs[k]?=some y->En w (AH s U w) U v y:=λk v y hv hy=>X3 (k+1) v y (by simpa using hv) (by simpa using hy);have fM:us.length=xs.length:=by simpa using hl
   have plain:∀(y:V) (c0:Bool),(c0=true->Ow w u y [])->Rd w (AH s U w) u y->∀{r:List V×Bool×St},s.sink xs=some r->ys=y::r.1->c=(c0&&r.2.1)->s'=r.2.2->
     ∃fp,Rel P B io w tmps s' U F (fp++fl)/\(u::us).length=ys.length/\(c=true->B5 w (u::us) ys fp)/\(∀(k:Nat) (u':Value) (y:V),(u::us)[k]?=some u'->ys[k]?=some y->Rd w (AH s' U w) u' y)/\
      s'.env=s.env/\s'.ep=s.ep/\(∀id b,s'.heap id=some b->s.heap id=some b)/\(∀g,AH s U w g->AH s' U w g):=by
    rintro y c0 SJ fP ⟨r1,r2,r3⟩ hr rfl rfl rfl;obtain⟨fp,h1,h2,h3,h4,h5,h6,h7,h8⟩:=ih h fM LJ hr;refine⟨fp,h1,by simpa using h2,λhc=>?_,λk u' y' Ck H7=>?_,h5,h6,h7,h8⟩
    .rw[Bg] at hc
     have:=B5.cons (SJ hc.1) (h3 hc.2);simpa using this
    .cases k with
     | zero=>
      have e1:u=u':=by simpa using Ck
      have e2:y=y':=by simpa using H7
      subst e1;subst e2;exact fP.mono (λ_ _ _=>rfl) h8
     | succ k=>exact h4 k u' y' (by simpa using Ck) (by simpa using H7)
   unfold St.sink at hs;split at hs
   .obtain⟨r,hr,hq⟩:=AL.1 hs
    simp only[A6] at hq;obtain⟨rfl,EG⟩:=hq;cases hu;exact plain _ true (λ_=>.emp) .emp hr rfl (by rw[EG];simp) (by rw[EG])
   .rename_i Yh
    obtain⟨r,hr,hq⟩:=AL.1 hs;simp only[A6] at hq;obtain⟨rfl,EG⟩:=hq;cases hu with
    | lit Hc=>exact plain _ true (λ_=>.lit Hc) (.lit Hc) hr rfl (by rw[EG];simp) (by rw[EG])
   .obtain⟨r,hr,hq⟩:=AL.1 hs
    simp only[A6] at hq;obtain⟨rfl,hc,EG⟩:=hq;cases hu with
    | tr h2=>exact plain _ false (λhf=>by cases hf) h2 hr rfl (by rw[<-hc];simp) EG.symm
   .obtain⟨r,hr,hq⟩:=AL.1 hs
    simp only[A6] at hq;obtain⟨rfl,hc,EG⟩:=hq;cases hu with
    | vw h2=>exact plain _ false (λhf=>by cases hf) h2 hr rfl (by rw[<-hc];simp) EG.symm
   .rename_i id off len
    split at hs
    .rename_i er hw
     obtain⟨r,hr,hq⟩:=AL.1 hs;simp only[A6] at hq;obtain⟨rfl,EG⟩:=hq;obtain⟨e,rows⟩:=er;obtain⟨uC,hk,hO⟩:=h.whole hu hw;obtain⟨fp,h1,h2,h3,h4,h5,h6,h7,h8⟩:=ih hk fM (λk v y hv hy=>(LJ k v y hv hy).kill) hr;have Cc:r.2.1=c:=by rw[EG]
     have Dj:r.2.2=s':=by rw[EG]
     rw[Cc] at h3;rw[Dj] at h1 h4 h5 h6 h7 h8;have DI:(uC++fp++fl).Perm (fp++(uC++fl)):=by
      rw[<-List.append_assoc];exact Vec _ eR
     refine⟨uC++fp,h1.perm DI,by simpa using h2,λhc=>.cons hO.ow (h3 hc),λk u' y' Ck H7=>?_,h5,h6,λAw b hb=>Ij (h7 Aw b hb),λg hg=>h8 g (Vk hg)⟩;cases k with
     | zero=>
      have e1:u=u':=by simpa using Ck
      have e2:V.tr rows=y':=by simpa using H7
      subst e1;subst e2;exact (hO.ow.rd (λg hg=>hk.Ik (CC _ hg))).mono (λ_ _ _=>rfl) h8
     | succ k=>exact h4 k u' y' (by simpa using Ck) (by simpa using H7)
    .rename_i hw
     split at hs
     .rename_i b hb
      split at hs
      .rename_i Yv
       obtain⟨rows,Wn,hq0⟩:=A9.1 hs;obtain⟨r,hr,hq⟩:=AL.1 hq0;simp only[A6] at hq;obtain⟨rfl,hc,EG⟩:=hq;refine plain _ false (λhf=>by cases hf) (h.rowsOf hu Wn (λ_ h=>h) (λAw Fh LK b' g o c' sz e Yx BP=>?_)) hr rfl (by rw[<-hc];simp) EG.symm;cases e;rw[hb] at Yx;injection Yx with Yx;subst Yx;rw[Yv] at BP;cases BP
      .cases hs
     .cases hs
   .cases hs
end
section
variable {P:Program} {B:Nat} {io:Nat->Prop} {w w':World} {a:Act} {tmps:Array Value} {s s':St} {U U':AY} {F F':Id->List Nat} {fl fl':List Nat} {k:Nat} {o:Oper} {v:V}
theorem Rel.Il (h:Rel P B io w tmps s U F fl) {id:Id} {b:Bd} (hb:s.heap id=some b):∀g∈F id,g < w.heap.size:=by
 cases ho:b.own with
 | true=>exact h.CI id b hb ho
 | false=>
  have hB:=h.heap id b hb;unfold Xq at hB;rw[ho] at hB;split at hB
  .cases hB.1
  .rename_i h2;cases h2
  .intro g hg;rw[hB.1] at hg;cases hg
theorem X1 {id Aw:Id} {b:Bd} (h:Aw≠id):(s.A5 id b).heap Aw=s.heap Aw:=by simp[St.A5,Bi,h]
theorem JV {id:Id} {b:Bd}:(s.A5 id b).heap id=some b:=by simp[St.A5,Bi]
theorem SK (w:World) (o:Obj):(w.alloc o).heap.size=w.heap.size+1:=by
 show (w.heap.push o).size=_;simp
theorem fQ (w:World) (o:Obj):(w.alloc o).heap[w.heap.size]?=some o:=by
 show (w.heap.push o)[w.heap.size]?=_;simp
theorem fR {id:Id} {b:Bd} {i:G0} (Zu:U id=none) {g:Nat} (h:AJ (s.A5 id b) (Bi U id (some i)) g):AJ s U g\/∃o c sz,i=.Bl g o c sz:=by
 obtain⟨Aw,b',o,c,sz,hb,ho,hU⟩:=h;by_cases e:Aw=id
 .subst e
  rw[Z7] at hU;injection hU with hU;exact .inr ⟨o,c,sz,hU⟩
 .rw[X1 e] at hb
  rw[X5 e] at hU;exact .inl ⟨Aw,b',o,c,sz,hb,ho,hU⟩
theorem J6.alloc {w0:World} (h:J6 B io w0 w) (hB:B<=w.heap.size) (ob:Obj):J6 B io w0 (w.alloc ob):=
 ⟨h.os,h.tape,h.output,by have:=h.size;have:=SK w ob;omega,λg hg hn=>by rw[Below.heap_alloc w ob g (by omega)];exact h.block g hg hn⟩
theorem Rel.Po (h:Rel P B io w tmps s U F fl) {id:Id} (Zu:U id=none) (Yk:id.1=s.ep) {ob:Obj} {b:Bd} {o c sz:Nat}
  (hn:Xq P (w.alloc ob) (AH (s.A5 id b) (Bi U id (some (.Bl w.heap.size o c sz))) (w.alloc ob)) (Bi U id (some (.Bl w.heap.size o c sz))) (some (.Bl w.heap.size o c sz)) [w.heap.size] b):
  Rel P B io (w.alloc ob) tmps (s.A5 id b) (Bi U id (some (.Bl w.heap.size o c sz))) (Bi F id [w.heap.size]) fl:=by
 have hs:=SK w ob;refine h.step (nid:=id) rfl rfl (λAw b' e hb=>by rw[X1 e] at hb;exact hb) (λAw i hi=>?_) (λAw hi=>?_) (λAw e=>X5 e) (λAw e=>X5 e) ⟨λg _ hg=>Below.heap_alloc w ob g hg,λg hg Z6 ht=>?_,by omega⟩
  (λAw b' e hb g hg=>Below.heap_alloc w ob g (h.Il (by rw[X1 e] at hb;exact hb) g hg)) (λk hk _=>Below.heap_alloc w ob k (GU hk h.base)) (λb' hb=>?_) (λb' hb ho=>?_) (λb' hb ho Aw BI e Pp LL g hg Yd=>?_) (λb' hb ho=>?_) (λg hg=>by have:=h.AR g hg;omega)
  (λAw b' e hb ho g hg=>h.A7 Aw b' (by rw[X1 e] at hb;exact hb) ho g hg) (λb' hb ho g hg Yd=>?_) h.AT
 .have:Aw≠id:=by rintro rfl;rw[Zu] at hi;cases hi
  rw[X5 this];exact hi
 .by_cases e:Aw=id
  .subst e;exact .inr Yk
  .rw[X5 e] at hi;exact .inl hi
 .rcases fR Zu ht with h1|⟨o',c',Cs,h1⟩
  .exact hg h1
  .injection h1 with h1;omega
 .rw[JV] at hb
  injection hb with hb;subst hb;rw[Z7,Z7];exact hn
 .rw[Z7]
  exact⟨λg hg=>by rw[List.mem_singleton.1 hg];omega,λ_ g hg=>by
   have:w.heap.size=g:=by simpa using hg
   have:=h.base;omega⟩
 .rw[Z7] at Yd
  rw[X1 e] at Pp;have:=h.Il Pp g hg;rw[List.mem_singleton.1 Yd] at this;omega
 .rw[Z7];simp
 .rw[Z7] at hg
  have:=h.AR g Yd;rw[List.mem_singleton.1 hg] at this;omega
theorem Et {id:Id} {i:G0} (Zu:U id=none):∀Aw j,U Aw=some j->Bi U id (some i) Aw=some j:=λAw j hj=>by
 rw[X5 (by rintro rfl;rw[Zu] at hj;cases hj)];exact hj
theorem Rel.Pq (h:Rel P B io w tmps s U F fl) {id:Id} (Zu:U id=none) (Yk:id.1=s.ep) {us:Array Value} {row:List V} {t e:TypeId} (hl:us.size=row.length) (G1:∀x∈row,AF x=true)
  (X3:∀(j:Nat) (u:Value) (x:V),us[j]?=some u->row[j]?=some x->En w (AH s U w) U u x):
  Rel P B io (w.alloc (.cells us t)) tmps (s.A5 id ⟨true,true,true,e,[row]⟩) (Bi U id (some (.Bl w.heap.size 0 1 row.length))) (Bi F id [w.heap.size]) fl:=by
 refine h.Po Zu Yk ⟨rfl,w.heap.size,us,t,row,rfl,fQ w _,rfl,hl,λj u x hu hx=>?_,G1,rfl⟩;refine (show En w (λg=>(¬AJ s U g)/\g < w.heap.size) U u x from X3 j u x hu hx).C8 ⟨λg _ hg=>Below.heap_alloc w _ g hg,λg hg Z6 ht=>?_,by rw[SK];omega⟩ (Et Zu);rcases fR Zu ht with h1|⟨o',c',Cs,h1⟩
 .exact hg h1
 .injection h1 with h1;omega
theorem Yla (h:Rel P B io w a.tmps s U F fl) {id:Id} (Zu:U id=none) (Yk:id.1=s.ep) (hk:id.2 / 1024=k) {us:Array Value} {row:List V} {t e:TypeId} (hl:us.size=row.length) (G1:∀x∈row,AF x=true)
  (X3:∀(j:Nat) (u:Value) (x:V),us[j]?=some u->row[j]?=some x->En w (AH s U w) U u x):
  Cf P B io w a.tmps s U fl k (.ptr id 0 0) (s.A5 id ⟨true,true,true,e,[row]⟩) (.pointer (some ⟨w.heap.size,0,none⟩)) (w.alloc (.cells us t)):=by
 refine⟨rfl,rfl,(J6.refl B io w).alloc h.base _,_,_,h.Pq Zu Yk (t:=t) (e:=e) hl G1 X3,?_,Et Zu,λAw hi=>?_⟩
 .have:=En.ptr (w:=w.alloc (.cells us t)) (ok:=AH (s.A5 id ⟨true,true,true,e,[row]⟩) (Bi U id (some (.Bl w.heap.size 0 1 row.length))) (w.alloc (.cells us t))) (i:=0) (off:=0) (Z7 U id (some (.Bl w.heap.size 0 1 row.length)))
  simpa using this
 .by_cases e:Aw=id
  .subst e;exact .inr ⟨Yk,hk⟩
  .rw[X5 e] at hi;exact .inl hi
theorem Y8d (h:Rel P B io w a.tmps s U F fl) {t:TypeId} {z:List V} (ho:o.op=.alloc t) (hz:EZ P t=some z) {id:Id} (Zu:U id=none) (Yk:id.1=s.ep) (hk:id.2 / 1024=k):
  Ce P o a w (Cf P B io w a.tmps s U fl k (.ptr id 0 0) (s.A5 id ⟨true,true,true,t,[z]⟩)):=by
 unfold EZ at hz;obtain⟨zv,Fi,hz⟩:=A9.1 hz;obtain⟨ti,CN,Xf⟩:=A9.1 Fi;split at hz
 .rename_i K1
  simp only[AE] at hz;subst hz;have hr:(execOp a.eval o).run P w=.ok (.value (.pointer (some ⟨w.heap.size,0,none⟩))) (w.alloc (.cells zv.cells t)):=by
   simp[execOp,ho,Instr.alloc,zeroValue,typeInfo,CN,Xf,newVar,newRow]
  refine .value hr (Yla h Zu Yk hk (by simp) (λx hx=>by obtain⟨u,_,rfl⟩:=Dx.1 hx;rfl) (λj u x hu hx=>?_));simp only[Dt,AL] at hx;obtain⟨y,hy,rfl⟩:=hx;have:u=y:=by
   have h1:zv.cells.toList[j]?=some u:=by simpa using hu
   rw[h1] at hy;injection hy
  subst this;exact .lit (Cb.1 K1 _ (Ep hy))
 .cases hz
theorem fS {w:World} {ok:Nat->Prop} {u:Value} {x:V} {cs:List V} (h:En w ok U u x) (hc:LB x=some cs):u.cells.size=cs.length/\(∀y∈cs,AF y=true)/\∀(j:Nat) (v:Value) (y:V),u.cells[j]?=some v->cs[j]?=some y->En w ok U v y:=by
 have one:(∀vs,u≠.agg vs)->AF x=true->cs=[x]->u.cells.size=cs.length/\(∀y∈cs,AF y=true)/\∀(j:Nat) (v:Value) (y:V),u.cells[j]?=some v->cs[j]?=some y->En w ok U v y:=by
  rintro hu hx rfl;have huc:u.cells=#[u]:=by
   cases u<;>first|rfl|exact absurd rfl (hu _)
  rw[huc];refine⟨rfl,λy hy=>by rw[List.mem_singleton.1 hy];exact hx,λj v y hv hy=>?_⟩;cases j with
  | zero=>
   have h1:u=v:=by simpa using hv
   have h2:x=y:=by simpa using hy
   subst h1;subst h2;exact h
  | succ j=>simp at hy
 cases x<;>simp only[LB,AE] at hc<;>try cases hc
 case agg=>cases h with|agg hl G1 hr=>exact⟨hl,G1,hr⟩
 case lit v=>cases h with|lit hs=>exact one (by rintro vs rfl;simp[J8] at hs) rfl rfl
 case ptr=>cases h;exact one (by rintro vs e;cases e) rfl rfl
 case rp=>cases h with|rp h2=>cases h2;exact one (by rintro vs e;cases e) rfl rfl
 case sl=>cases h<;>exact one (by rintro vs e;cases e) rfl rfl
 case tr=>cases h with|tr h2=>cases h2<;>exact one (by rintro vs e;cases e) rfl rfl
 case vw=>cases h with|vw h2=>cases h2<;>exact one (by rintro vs e;cases e) rfl rfl
 case fn=>cases h;exact one (by rintro vs e;cases e) rfl rfl
theorem Pr (h:Rel P B io w a.tmps s U F fl) {t:TypeId} {x:Operand} {cs:List V} (ho:o.op=.box t x) (hc:LB (s.AP x)=some cs) {id:Id} (Zu:U id=none) (Yk:id.1=s.ep) (hk:id.2 / 1024=k):
  Ce P o a w (Cf P B io w a.tmps s U fl k (.ptr id 0 0) (s.A5 id ⟨true,true,true,t,[cs]⟩)):=by
 obtain⟨h1,h2,h3⟩:=fS (h.AP x) hc;have hr:(execOp a.eval o).run P w=.ok (.value (.pointer (some ⟨w.heap.size,0,none⟩))) (w.alloc (.cells (a.eval x).cells t)):=by
  simp[execOp,ho,Instr.box,newVar,newRow]
 exact .value hr (Yla h Zu Yk hk h1 h2 h3)
end
theorem En.one {w:World} {ok:Nat->Prop} {U:AY} {u:Value} {x:V} (h:En w ok U u x) (hx:AF x=true):u.oneCell'=true:=by
 cases h with
 | undef=>simp[AF] at hx
 | lit h=>cases u<;>simp_all [J8,Value.oneCell']
 | tr h=>exact h.one
 | vw h=>exact h.one
 | rp h=>exact h.one
 | ptr=>rfl
 | sl=>rfl
 | sle=>rfl
 | fn=>rfl
 | agg=>simp[AF] at hx
 | AW=>simp[AF] at hx
theorem fT {row:List V} {n:Nat} {cs:List V} (hn:n+cs.length<=row.length) {j:Nat} {x:V} (h:(Dg row n cs)[j]?=some x):(n<=j/\j < n+cs.length/\cs[j - n]?=some x)\/((j < n\/n+cs.length<=j)/\row[j]?=some x):=by
 unfold Dg at h;by_cases h1:j < n
 .rw[List.append_assoc,EV (by simp;omega),Df,Ah h1] at h
  exact .inr ⟨.inl h1,h⟩
 .rw[List.append_assoc,FD (by simp;omega)] at h
  have e:(row.take n).length=n:=by simp;omega
  rw[e] at h;by_cases h2:j - n < cs.length
  .rw[EV h2] at h
   exact .inl ⟨by omega,by omega,h⟩
  .rw[FD (by omega),D7] at h
   refine .inr ⟨.inr (by omega),?_⟩;rw[<-h];congr 1;omega
theorem Vl {row:List V} {n:Nat} {cs:List V} (hn:n+cs.length<=row.length):(Dg row n cs).length=row.length:=by
 unfold Dg;simp;omega
theorem Nv {α:Type} {cur:List α} {n:Nat} {vs:List α} (hn:n+vs.length<=cur.length) {j:Nat}:(cur.take n++vs++cur.drop (n+vs.length))[j]?=if n<=j/\j < n+vs.length then vs[j - n]? else cur[j]?:=by
 by_cases h1:j < n
 .rw[Ai (by omega),List.append_assoc,EV (by simp;omega),Df,Ah h1]
 .rw[List.append_assoc,FD (by simp;omega)]
  have e:(cur.take n).length=n:=by simp;omega
  rw[e];by_cases h2:j - n < vs.length
  .rw[Ah (by omega),EV h2]
  .rw[Ai (by omega),FD (by omega),D7]
   congr 1;omega
section
variable {P:Program} {B:Nat} {io:Nat->Prop} {w w':World} {a:Act} {tmps:Array Value} {s s':St} {U U':AY} {F F':Id->List Nat} {fl fl':List Nat} {k:Nat} {o:Oper} {v:V}
theorem fU {id:Id} {b b':Bd} (hb:s.heap id=some b) (ho:b'.own=b.own):∀g,AJ (s.A5 id b') U g↔AJ s U g:=by
 intro g;constructor
 .rintro⟨Aw,BI,o,c,sz,Yx,BP,hU⟩
  by_cases e:Aw=id
  .subst e
   rw[JV] at Yx;injection Yx with Yx;subst Yx;exact⟨Aw,b,o,c,sz,hb,by rw[<-ho];exact BP,hU⟩
  .rw[X1 e] at Yx
   exact⟨Aw,BI,o,c,sz,Yx,BP,hU⟩
 .rintro⟨Aw,BI,o,c,sz,Yx,BP,hU⟩
  by_cases e:Aw=id
  .subst e
   rw[hb] at Yx;injection Yx with Yx;subst Yx;exact⟨Aw,b',o,c,sz,JV,by rw[ho];exact BP,hU⟩
  .exact⟨Aw,BI,o,c,sz,by rw[X1 e];exact Yx,BP,hU⟩
theorem Rel.write (h:Rel P B io w tmps s U F fl) {id:Id} {b b':Bd} {g o c sz:Nat} {new:Array Value} {cur:Array Value} {e:TypeId} {Fs:List Nat} (hb:s.heap id=some b) (ho:b.own=true) (BP:b'.own=true) (hU:U id=some (.Bl g o c sz)) (hg:w.heap[g]?=some (.cells cur e (0,0)))
  (hF:∃r,F id=g::r) (Ps:∃r,Fs=g::r) (Hd:∀k∈Fs,k∈F id\/k∈fl) (Ct:Fs.Nodup) {fl':List Nat} (BM:∀k∈fl',k∈fl) (Pg:fl'.Nodup) (Vm:∀k∈Fs,k ∉ fl') (Fj:0 < c)
  (hn:Xq P (w.setRow g new) (AH (s.A5 id b') U (w.setRow g new)) U (some (.Bl g o c sz)) Fs b'):
  Rel P B io (w.setRow g new) tmps (s.A5 id b') U (Bi F id Fs) fl'/\J6 B io w (w.setRow g new)/\Ie w (w.setRow g new) (λg=>¬AJ s U g) (λg=>¬AJ (s.A5 id b') U g):=by
 obtain⟨r,Im⟩:=hF;have Nw:g∈F id:=by rw[Im];exact BJ
 have X8:AJ s U g:=⟨id,b,o,c,sz,hb,ho,hU⟩;have LM:(w.setRow g new).heap.size=w.heap.size:=by simp[World.setRow]
 have hk:Ie w (w.setRow g new) (λg=>¬AJ s U g) (λg=>¬AJ (s.A5 id b') U g):=
  ⟨λg' Yd _=>setRow_other w g g' _ (λe=>Yd (e▸X8)),λg' Yd _ ht=>Yd ((fU hb (by rw[ho,BP])  g').1 ht),by rw[LM];exact B4 _⟩
 refine⟨?_,⟨rfl,rfl,rfl,by rw[LM];exact B4 _,λg' Yd Ha=>setRow_other w g g' _ (λe=>?_)⟩,hk⟩
 .refine h.step (nid:=id) rfl rfl (λAw BI e Yx=>by rw[X1 e] at Yx;exact Yx) (λ_ _ h=>h) (λ_ h=>.inl h) (λ_ _=>rfl) (λAw e=>X5 e) hk (λAw BI e Yx g' Yd=>setRow_other w g g' _ (λe'=>?_)) (λk hk Ha=>setRow_other w g k _ (λe=>by
    subst e;rcases h.top id b hb ho ⟨k,o,c,sz,hU,Fj⟩ k (by rw[Im];rfl) with h1|h1
    .exact Ha h1
    .omega)) (λBI Yx=>?_) (λBI Yx LL=>?_) (λBI Yx LL Aw b3 e Nx Pt g' Yd Eg=>?_) (λBI Yx LL=>by rw[Z7];exact Ct)
   (λg' Yd=>by rw[LM];exact h.AR g' (BM g' Yd)) (λAw BI e Yx LL g' Yd Eg=>?_) (λBI Yx LL g' Yd Eg=>by rw[Z7] at Yd;exact Vm g' Yd Eg) Pg
  .subst e'
   rw[X1 e] at Yx;cases Yv:BI.own with
   | true=>exact h.apart Aw id BI b Yx Yv hb ho e g' Yd Nw
   | false=>
    have hB:=h.heap Aw BI Yx;unfold Xq at hB;rw[Yv] at hB;split at hB
    .cases hB.1
    .rename_i h2;cases h2
    .rw[hB.1] at Yd;cases Yd
  .rw[JV] at Yx
   injection Yx with Yx;subst Yx;rw[Z7,hU];exact hn
  .rw[Z7]
   refine⟨λg' Yd=>?_,λ_ g' Yd=>?_⟩
   .rw[LM]
    rcases Hd g' Yd with h1|h1
    .exact h.CI id b hb ho g' h1
    .exact h.AR g' h1
   .obtain⟨r',rfl⟩:=Ps
    have e1:g=g':=by simpa using Yd
    subst e1;exact h.top id b hb ho ⟨g,o,c,sz,hU,Fj⟩ g (by rw[Im];rfl)
  .rw[Z7] at Eg
   rw[X1 e] at Nx;rcases Hd g' Eg with h1|h1
   .exact h.apart Aw id b3 b Nx Pt hb ho e g' Yd h1
   .exact h.A7 Aw b3 Nx Pt g' Yd h1
  .rw[X1 e] at Yx
   exact h.A7 Aw BI Yx LL g' Yd (BM g' Eg)
 .subst e
  rcases h.top id b hb ho ⟨g',o,c,sz,hU,Fj⟩ g' (by rw[Im];rfl) with h1|h1
  .exact Ha h1
  .omega
end
section
variable {P:Program} {B:Nat} {io:Nat->Prop} {w w':World} {a:Act} {tmps:Array Value} {s s':St} {U U':AY} {F F':Id->List Nat} {fl fl':List Nat} {k:Nat} {o:Oper} {v:V}
theorem Yqc {t:TypeId} {x y:Operand} {g n:Nat} {cur:Array Value} {e:TypeId} (ho:o.op=.store t x y) (hx:a.eval x=.pointer (some ⟨g,n,none⟩)) (hl:(a.eval y).cells.size=Z2 P t) (hz:Z2 P t≠0) (hg:w.heap[g]?=some (.cells cur e (0,0)))
  (Ny:n+Z2 P t<=cur.size) (h1:∀u∈(a.eval y).cells.toList,u.oneCell'=true):
  (execOp a.eval o).run P w=.ok .skip (w.setRow g (cur.toList.take n++(a.eval y).cells.toList++cur.toList.drop (n+(a.eval y).cells.toList.length)).toArray):=by
 obtain⟨ti,CN,Ww⟩:∃ti,P.info? t=some ti/\ti.size=Z2 P t:=by
  unfold Z2 Program.cellsOf at hz ⊢;cases hq:P.info? t with
  | none=>rw[hq] at hz;simp at hz
  | some ti=>exact⟨ti,rfl,rfl⟩
 have hs:=run_storeCells_at P g n e (a.eval y).cells.toList 0 cur w hg (by simpa [hl] using Ny) h1;simp only[GW] at hs;simp[execOp,ho,hx,Instr.storeAt,Instr.sureAddr,storeVar,Go.sizeOf,typeInfo,CN,Ww,hl,hs]
theorem Yxn (h:Rel P B io w a.tmps s U F fl) {t:TypeId} {x y:Operand} {id:Id} {j n:Nat} {b:Bd} {row cs:List V} (ho:o.op=.store t x y) (hx:s.AP x=.ptr id j n) (hb:s.heap id=some b) (Xg:b.rows[j]?=some row) (hc:LB (s.AP y)=some cs)
  (Yv:b.own=true) (Xl:b.box=true) (Qd:cs.length=Z2 P t) (Ny:n+Z2 P t<=row.length) (hz:Z2 P t≠0):
  Ce P o a w (Cf P B io w a.tmps s U fl k .undef (s.A5 id {b with rows:=b.rows.set j (Dg row n cs)})):=by
 have Eu:=h.AP x;rw[hx] at Eu;obtain⟨Cy,DJ,G3⟩:=fS (h.AP y) hc;generalize hq:a.eval x=q at Eu;cases Eu with
 | @ptr _ g o' c sz _ _ hU=>
  have hB:=h.heap id b hb;rw[hU] at hB;have hB':=hB;unfold Xq at hB;rw[Xl] at hB;obtain⟨_,g',cur,e,Cg,hi,hg,hr,hs,he,G1,hF⟩:=hB;cases hi;rw[hr] at Xg;have hj:j=0/\Cg=row:=by
   cases j with
   | zero=>exact⟨rfl,by simpa using Xg⟩
   | succ j=>simp at Xg
  obtain⟨rfl,rfl⟩:=hj;simp only[fG,OY] at hq;have Yn:(a.eval y).cells.size=Z2 P t:=by rw[Cy,Qd]
  have Xu:=Yqc (P:=P) ho hq Yn hz hg (by omega) (λu hu=>by
   obtain⟨m,hm⟩:=H0 hu;have D9:(a.eval y).cells[m]?=some u:=by simpa using hm
   have Z6:m < cs.length:=by have:=(Hz.1 D9).1;omega
   exact (G3 m u _ D9 (CB Z6)).one (DJ _ (B6 Z6)))
  generalize Y7:(cur.toList.take n++(a.eval y).cells.toList++cur.toList.drop (n+(a.eval y).cells.toList.length)).toArray=new at Xu;have Io:(a.eval y).cells.toList.length=cs.length:=by simpa using Cy
  have He:n+cs.length<=Cg.length:=by omega
  have Wn:b.rows.set 0 (Dg Cg n cs)=[Dg Cg n cs]:=by rw[hr];rfl
  have Vh:new.size=Cg.length:=by rw[<-Y7];simp only[List.size_toArray,Cw,FX,eZ,Array.length_toList,Io];simp at Io;omega
  have Vn:∀g',AJ (s.A5 id {b with rows:=b.rows.set 0 (Dg Cg n cs)}) U g'↔AJ s U g':=fU hb rfl;have hwk:Ie w (w.setRow g new) (λg=>¬AJ s U g) (λg=>¬AJ (s.A5 id {b with rows:=b.rows.set 0 (Dg Cg n cs)}) U g):=
   ⟨λg' Yd _=>setRow_other w g g' _ (λe=>Yd (e▸⟨id,b,_,_,_,hb,Yv,hU⟩)),λg' Yd _ ht=>Yd ((Vn g').1 ht),by simp⟩
  obtain⟨h1,h2,h3⟩:=h.write (b':={b with rows:=b.rows.set 0 (Dg Cg n cs)}) (Fs:=F id) (fl':=fl) (new:=new) hb Yv Yv hU hg ⟨[],hF⟩ ⟨[],hF⟩ (λk hk=>.inl hk) (h.once id b hb Yv) (λ_ h=>h) h.AT (h.A7 id b hb Yv) (by omega) (by
   refine .Ig (row:=Dg Cg n cs) Xl Yv (by rw[Vl He]) (setRow_heap w g cur new e (0,0) hg) Wn (by rw[Vl He];exact Vh) (λm u z hu hz=>?_) (λz hz=>?_) hF
   .have Ck:(cur.toList.take n++(a.eval y).cells.toList++cur.toList.drop (n+(a.eval y).cells.toList.length))[m]?=some u:=by rw[<-Y7] at hu;simpa using hu
    rw[Nv (by simp only[Array.length_toList,Io];omega),Io] at Ck;rcases fT He hz with⟨h4,h5,h6⟩|⟨h4,h6⟩
    .rw[Ah ⟨h4,h5⟩] at Ck
     exact (show En w (λg=>(¬AJ s U g)/\g < w.heap.size) U u z from G3 _ u z (by simpa using Ck) h6).C8 hwk (λ_ _ h=>h)
    .rw[Ai (by omega)] at Ck
     exact (show En w (λg=>(¬AJ s U g)/\g < w.heap.size) U u z from he m u z (by simpa using Ck) h6).C8 hwk (λ_ _ h=>h)
   .obtain⟨m,hm⟩:=H0 hz
    rcases fT He hm with⟨_,_,h6⟩|⟨_,h6⟩
    .exact DJ z (Ep h6)
    .exact G1 z (Ep h6))
  refine .skip Xu ⟨rfl,rfl,h2,U,Bi F id (F id),h1,.undef,λ_ _ h=>h,λ_ h=>.inl h⟩
end
theorem B5.split {w:World}:∀(n:Nat) {vs:List Value} {xs:List V} {fp:List Nat},B5 w vs xs fp->∃f1 f2,fp=f1++f2/\B5 w (vs.take n) (xs.take n) f1/\B5 w (vs.drop n) (xs.drop n) f2:=by
 intro n
 induction n with
 | zero=>intro vs xs fp h;exact⟨[],fp,rfl,by simp;exact .nil,h⟩
 | succ n ih=>
  intro vs xs fp h;cases xs with
  | nil=>cases h;exact⟨[],[],rfl,.nil,.nil⟩
  | cons x xs=>
   cases h with
   | @cons v _ vs _ f1 f2 h hs=>
    obtain⟨g1,g2,e,h1,h2⟩:=ih hs;exact⟨f1++g1,g2,by rw[e,List.append_assoc],.cons h h1,h2⟩
theorem B5.put {w:World} {vs us:List Value} {xs ys:List V} {f f2:List Nat} (h:B5 w vs xs f) (h2:B5 w us ys f2) (m:Nat):∃f',B5 w (vs.take m++us++vs.drop (m+us.length)) (xs.take m++ys++xs.drop (m+us.length)) f'/\(∀k∈f',k∈f\/k∈f2)/\((f++f2).Nodup->f'.Nodup):=by
 obtain⟨f1,fr,rfl,ha,hb⟩:=h.split m;obtain⟨fm,fd,rfl,hc,hd⟩:=hb.split us.length;rw[List.drop_drop,List.drop_drop] at hd;have e:(f1++f2++fd).Perm (f1++fd++f2):=by
  rw[List.append_assoc,List.append_assoc];exact List.Perm.append_left _ eR
 have DI:(f1++fd++f2).Sublist (f1++(fm++fd)++f2):=UJ (UJ (Ng _) (HT _ _)) (Ng _);refine⟨f1++f2++fd,(ha.append h2).append hd,λk hk=>?_,λhn=>e.nodup_iff.2 (hn.sublist DI)⟩;have:=DI.subset (e.mem_iff.1 hk);exact BT.1 this
theorem Y0b {α:Type} {sz:Nat}:∀{rows:List (List α)} {j:Nat} {row:List α} {n:Nat} {ys:List α},(∀r∈rows,r.length=sz)->rows[j]?=some row->n+ys.length<=sz->
  (rows.set j (row.take n++ys++row.drop (n+ys.length))).flatten=rows.flatten.take (j*sz+n)++ys++rows.flatten.drop (j*sz+n+ys.length):=by
 intro rows
 induction rows with
 | nil=>intro j row n ys _ h;simp at h
 | cons r rs ih=>
  intro j row n ys hs hj hn;have hr:r.length=sz:=hs r BJ;cases j with
  | zero=>
   have:r=row:=by simpa using hj
   subst this;simp only[List.set_cons_zero,DS,fG,OY];rw[Vdu (by omega),List.drop_append_of_le_length (by omega)];simp only[List.append_assoc]
  | succ j=>
   have h1:=ih (λr h=>hs r (Co _ h)) (show rs[j]?=some row by simpa using hj) hn;simp only[List.set_cons_succ,DS,h1];rw[show (j+1)*sz+n=r.length+(j*sz+n) by rw[JN,hr];omega,List.take_length_add_append,show r.length+(j*sz+n)+ys.length=r.length+(j*sz+n+ys.length) by omega,List.drop_length_add_append];simp only[List.append_assoc]
section
variable {P:Program} {B:Nat} {io:Nat->Prop} {w w':World} {a:Act} {tmps:Array Value} {s s':St} {U U':AY} {F F':Id->List Nat} {fl fl':List Nat} {k:Nat} {o:Oper} {v:V}
theorem Yzr (h:Rel P B io w a.tmps s U F fl) {t:TypeId} {x y:Operand} {id:Id} {j n:Nat} {b b1:Bd} {row cs ys:List V} {c:Bool} {s1:St} (ho:o.op=.store t x y) (hx:s.AP x=.ptr id j n) (hb:s.heap id=some b) (Xg:b.rows[j]?=some row) (hc:LB (s.AP y)=some cs)
  (Yv:b.own=true) (Xl:b.box=false) (Qd:cs.length=Z2 P t) (Ny:n+Z2 P t<=row.length) (hz:Z2 P t≠0) (Vo:s.sink cs=some (ys,c,s1)) (CA:s1.heap id=some b1):
  Ce P o a w (Cf P B io w a.tmps s U fl k .undef (s1.A5 id {b1 with cl:=b1.cl&&c,rows:=b1.rows.set j (Dg row n ys)})):=by
 have Eu:=h.AP x;rw[hx] at Eu;obtain⟨Cy,DJ,G3⟩:=fS (h.AP y) hc;generalize hq:a.eval x=q at Eu;cases Eu with
 | @ptr _ g o' c' sz _ _ hU=>
  obtain⟨fp,hR,SL,SJ,fP,CO,Yk,DI,Vp⟩:=Y0r cs (us:=(a.eval y).cells.toList) h (by simpa using Cy) (λm u z hu hz=>G3 m u z (by simpa using hu) hz) Vo;have uD:b1=b:=by
   have:=DI id b1 CA;rw[hb] at this;injection this with this;exact this.symm
  subst uD;have hB:=hR.heap id b1 CA;rw[hU] at hB;unfold Xq at hB;rw[Xl,Yv] at hB;rcases hB with⟨Y2,_⟩|⟨g',fL,c'',cur,Y2,hg,hl,hm,BW,Pd,r,hF,h1,h2⟩
  .cases Y2
  .cases Y2
   have Di:row.length=P.cellsOf b1.el:=BW row (Ep Xg);have JS:=(CX.1 Xg).1;have Yn:(a.eval y).cells.size=Z2 P t:=by rw[Cy,Qd]
   have Io:(a.eval y).cells.toList.length=cs.length:=by simpa using Cy
   have hyc:ys.length=cs.length:=by rw[<-SL,Io]
   have hfitc:o'+j*P.cellsOf b1.el+n+cs.length<=cur.size:=by
    have:(j+1)*P.cellsOf b1.el<=c'*P.cellsOf b1.el:=Nf _ (by omega);rw[JN] at this;omega
   have Xu:=Yqc (P:=P) ho hq Yn hz hg (by omega) (λu hu=>by
    obtain⟨m,D9⟩:=H0 hu;have D9:(a.eval y).cells[m]?=some u:=by simpa using D9
    have Z6:m < cs.length:=by have:=(Hz.1 D9).1;omega
    exact (G3 m u _ D9 (CB Z6)).one (DJ _ (B6 Z6)))
   have hsy:Dg row n ys=row.take n++ys++row.drop (n+ys.length):=rfl;have SM:=Y0b (ys:=ys) BW Xg (show n+ys.length<=P.cellsOf b1.el by omega);rw[<-hsy] at SM;have Nz:=H8 BW;generalize Ns:(a.eval y).cells.toList=us at Xu SJ fP SL Io;have LN:j*P.cellsOf b1.el+n+us.length<=b1.rows.length*P.cellsOf b1.el:=by
    have:(j+1)*P.cellsOf b1.el<=b1.rows.length*P.cellsOf b1.el:=Nf _ (by omega);rw[JN] at this;omega
   have hbc:b1.rows.length*P.cellsOf b1.el<=c'*P.cellsOf b1.el:=Nf _ hl;have Nw:g∈F id:=by rw[hF];exact BJ
   have Ip:g ∉ r:=by
    have:=hR.once id b1 CA Yv;rw[hF] at this;exact (ED.1 this).1
   have SN:g ∉ fp++fl:=hR.A7 id b1 CA Yv g Nw;generalize Y7:(cur.toList.take (o'+j*P.cellsOf b1.el+n)++us++cur.toList.drop (o'+j*P.cellsOf b1.el+n+us.length)).toArray=new at Xu;have JW:new.size=cur.size:=by rw[<-Y7];simp;omega
   have N0:∀m,new[o'+m]?=if j*P.cellsOf b1.el+n<=m/\m < j*P.cellsOf b1.el+n+us.length then us[m - (j*P.cellsOf b1.el+n)]? else cur[o'+m]?:=by
    intro m;rw[<-Y7];have:=Nv (cur:=cur.toList) (n:=o'+j*P.cellsOf b1.el+n) (vs:=us) (by simp;omega) (j:=o'+m);rw[eQ,this];by_cases hc:j*P.cellsOf b1.el+n<=m/\m < j*P.cellsOf b1.el+n+us.length
    .rw[Ah (by omega),Ah hc];congr 1;omega
    .rw[Ai (by omega),Ai hc];simp
   have LO:∀k',k'≠g->(w.setRow g new).heap[k']?=w.heap[k']?:=λk' W2=>setRow_other w g k' _ W2;have Pu:∀r'∈b1.rows.set j (Dg row n ys),r'.length=P.cellsOf b1.el:=λr' Ch=>by
    rcases eP Ch with h4|h4
    .exact BW r' h4
    .rw[h4,Vl (by omega)];exact Di
   have Pv:(b1.rows.set j (Dg row n ys)).length=b1.rows.length:=JM;have Fg:(new.toList.drop o').take (b1.rows.length*P.cellsOf b1.el)=((cur.toList.drop o').take (b1.rows.length*P.cellsOf b1.el)).take (j*P.cellsOf b1.el+n)++us++((cur.toList.drop o').take (b1.rows.length*P.cellsOf b1.el)).drop (j*P.cellsOf b1.el+n+us.length):=by
    apply UL;intro m;rw[Nv (by simp;omega),Df,Df,D7,D7];have hm:=N0 m;simp only[eS];rw[hm];by_cases hc:j*P.cellsOf b1.el+n<=m/\m < j*P.cellsOf b1.el+n+us.length
    .rw[Ah hc,Ah hc,Ah (by omega)]
    .rw[Ai hc,Ai hc]
   have htb:∀b':Bd,b'.own=true->∀g',AJ (s1.A5 id b') U g'->AJ s1 U g':=λb' Yx g'=>(fU CA (by rw[Yx,Yv]) g').1;have Vq:∀b':Bd,b'.own=true->∀g',AH s1 U w g'->AH (s1.A5 id b') U (w.setRow g new) g':=λb' Yx g' Yd=>⟨λht=>Yd.1 (htb b' Yx g' ht),by simpa using Yd.2⟩;have X8:AJ s1 U g:=⟨id,b1,_,_,_,CA,Yv,hU⟩;have Eh:∀b':Bd,b'.own=true->∀{u:Value} {z:V},Rd w (AH s1 U w) u z->Rd (w.setRow g new) (AH (s1.A5 id b') U (w.setRow g new)) u z:=λb' Yx u z hu=>
    hu.mono (λg' Yd _=>LO g' (λe=>Yd.1 (e▸X8))) (Vq b' Yx)
   have fin:∀(Fs:List Nat),(∃r',Fs=g::r')->(∀k'∈Fs,k'∈F id\/k'∈fp++fl)->Fs.Nodup->(∀k'∈Fs,k' ∉ fl)->
     Xq P (w.setRow g new) (AH (s1.A5 id {b1 with cl:=b1.cl&&c,rows:=b1.rows.set j (Dg row n ys)}) U (w.setRow g new)) U (some (.Bl g o' c' (P.cellsOf b1.el))) Fs {b1 with cl:=b1.cl&&c,rows:=b1.rows.set j (Dg row n ys)}->
     Ce P o a w (Cf P B io w a.tmps s U fl k .undef (s1.A5 id {b1 with cl:=b1.cl&&c,rows:=b1.rows.set j (Dg row n ys)})):=by
    intro Fs Ps Hd Ct Vm uE;obtain⟨w1,w2,w3⟩:=hR.write (b':={b1 with cl:=b1.cl&&c,rows:=b1.rows.set j (Dg row n ys)}) (Fs:=Fs) (fl':=fl) (new:=new) CA Yv Yv hU hg ⟨r,hF⟩ Ps Hd Ct (λk' W2=>Ds _ W2) h.AT Vm (by omega) uE;exact .skip Xu ⟨CO,Yk,w2,U,Bi F id Fs,w1,.undef,λ_ _ h=>h,λ_ h=>.inl h⟩
   by_cases Cl:(b1.cl&&c)=true
   .rw[Bg] at Cl
    have uF:=(h1 Cl.1).frame (w':=w.setRow g new) (λk' W2=>LO k' (λe=>Ip (e▸W2)));have Pw:=(SJ Cl.2).frame (w':=w.setRow g new) (λk' W2=>LO k' (λe=>SN (e▸CC _ W2)));obtain⟨f',hO,N1,uG⟩:=uF.put Pw (j*P.cellsOf b1.el+n);rw[<-Fg,show us.length=ys.length by omega,<-SM] at hO;have uH:(r++fp).Nodup:=by
     have n1:=hR.once id b1 CA Yv;rw[hF] at n1;refine EC.2 ⟨(ED.1 n1).2,(EC.1 hR.AT).1,λp hp q hq e=>?_⟩;subst e;exact hR.A7 id b1 CA Yv p (by rw[hF];exact Co _ hp) (CC _ hq)
    have Vr:g ∉ f':=λhf=>by
     rcases N1 g hf with h4|h4
     .exact Ip h4
     .exact SN (CC _ h4)
    refine fin (g::f') ⟨f',rfl⟩ (λk' W2=>?_) (ED.2 ⟨Vr,uG uH⟩) (λk' W2 Vs=>?_) (.Cq (fp:=f') Xl Yv rfl (setRow_heap w g cur new _ _ hg) (by rw[Pv];exact hl) hm Pu (by rw[JW];exact Pd) rfl (λ_=>by rw[Pv];exact hO) (λhf=>by simp[Cl.1,Cl.2] at hf))
    .rcases Cj.1 W2 with rfl|W2
     .exact .inl Nw
     .rcases N1 k' W2 with h4|h4
      .exact .inl (by rw[hF];exact Co _ h4)
      .exact .inr (CC _ h4)
    .rcases Cj.1 W2 with rfl|W2
     .exact SN (Ds _ Vs)
     .rcases N1 k' W2 with h4|h4
      .exact hR.A7 id b1 CA Yv k' (by rw[hF];exact Co _ h4) (Ds _ Vs)
      .exact (EC.1 hR.AT).2.2 k' h4 k' Vs rfl
   .have N2:∀(m:Nat) (z:V),b1.rows.flatten[m]?=some z->∃u,cur[o'+m]?=some u/\Rd w (AH s1 U w) u z:=by
     intro m z Hf;cases Vt:b1.cl with
     | true=>
      obtain⟨u,hu,hr⟩:=(h1 Vt).rd (ok:=AH s1 U w) (λk' W2=>hR.G2 CA Yv hU (by rw[hF];exact Co _ W2) (λg' _ _ _ e=>by cases e;rintro rfl;exact Ip W2)) Hf;rw[Df] at hu;split at hu
      .exact⟨u,by simpa using hu,hr⟩
      .cases hu
     | false=>exact (h2 Vt).2 m z Hf
    refine fin [g] ⟨[],rfl⟩ (λk' W2=>.inl (by rw[List.mem_singleton.1 W2];exact Nw)) (by simp) (λk' W2 Vs=>SN (Ds _ (by rw[<-List.mem_singleton.1 W2];exact Vs))) (.Cq (fp:=[]) Xl Yv rfl (setRow_heap w g cur new _ _ hg) (by rw[Pv];exact hl) hm Pu (by rw[JW];exact Pd) rfl (λhf=>absurd hf Cl) (λ_=>⟨rfl,λm z Hf=>?_⟩));rw[SM,Nv (by rw[Nz];omega)] at Hf;rw[N0 m,show us.length=ys.length by omega];split at Hf
    .rename_i hc
     rw[Ah hc];have Z6:m - (j*P.cellsOf b1.el+n) < us.length:=by omega
     refine⟨us[m - (j*P.cellsOf b1.el+n)],CB Z6,Eh {b1 with cl:=b1.cl&&c,rows:=b1.rows.set j (Dg row n ys)} Yv (fP _ _ z (CB Z6) Hf)⟩
    .rename_i hc
     rw[Ai hc];obtain⟨u,hu,hr⟩:=N2 m z Hf;exact⟨u,hu,Eh {b1 with cl:=b1.cl&&c,rows:=b1.rows.set j (Dg row n ys)} Yv hr⟩
end
section
variable {P:Program} {B:Nat} {io:Nat->Prop} {w w':World} {tmps:Array Value} {s s':St} {U U':AY} {F F':Id->List Nat} {fl fl':List Nat}
theorem fV {i id:Id} {b b':Bd} {g o c sz o' c' Cs:Nat} (Zu:U id=none) (hb:s.heap i=some b) (ho:b.own=true) (hU:U i=some (.Bl g o c sz)):
  ∀g',AJ ((s.kill i).A5 id b') (Bi U id (some (.Bl g o' c' Cs))) g'->AJ s U g':=by
 rintro g' ⟨Aw,BI,o2,c2,tR,Yx,BP,Dh⟩;by_cases e:Aw=id
 .subst e
  rw[Z7] at Dh;injection Dh with Dh;injection Dh with hg;subst hg;exact⟨i,b,o,c,sz,hb,ho,hU⟩
 .rw[X1 e] at Yx
  rw[X5 e] at Dh;exact⟨Aw,BI,o2,c2,tR,Ij Yx,BP,Dh⟩
theorem Rel.move (h:Rel P B io w tmps s U F fl) {i id:Id} {b b':Bd} {g o c sz o' c' Cs:Nat} {Fs:List Nat} (Zu:U id=none) (Yk:id.1=s.ep) (hb:s.heap i=some b) (ho:b.own=true) (hU:U i=some (.Bl g o c sz))
  (hF:∃r,F i=g::r) (Ps:∃r,Fs=g::r) (Hd:∀k∈Fs,k∈F i) (Ct:Fs.Nodup) (Fj:0 < c'->0 < c)
  (hn:Xq P w (AH ((s.kill i).A5 id b') (Bi U id (some (.Bl g o' c' Cs))) w) (Bi U id (some (.Bl g o' c' Cs))) (some (.Bl g o' c' Cs)) Fs b'):
  Rel P B io w tmps ((s.kill i).A5 id b') (Bi U id (some (.Bl g o' c' Cs))) (Bi F id Fs) fl:=by
 have Yh:i≠id:=by rintro rfl;rw[Zu] at hU;cases hU
 have old:∀{Aw:Id} {BI:Bd},Aw≠id->((s.kill i).A5 id b').heap Aw=some BI->s.heap Aw=some BI/\Aw≠i:=λ{Aw BI} e Yx=>by
  rw[X1 e] at Yx;refine⟨Ij Yx,?_⟩;rintro rfl;rw[Q5] at Yx;cases Yx
 obtain⟨r,Im⟩:=hF;refine h.step (nid:=id) rfl rfl (λAw BI e Yx=>(old e Yx).1) (Et Zu) (λAw hi=>?_) (λAw e=>X5 e) (λAw e=>X5 e) (.same (fV Zu hb ho hU)) (λ_ _ _ _ _ _=>rfl) (λ_ _ _=>rfl)
  (λBI Yx=>?_) (λBI Yx BP=>?_) (λBI Yx BP Aw b3 e Nx Pt g' Yd Eg=>?_) (λBI Yx BP=>by rw[Z7];exact Ct) h.AR
  (λAw BI e Yx BP=>h.A7 Aw BI (old e Yx).1 BP) (λBI Yx BP g' Yd=>?_) h.AT
 .by_cases e:Aw=id
  .subst e;exact .inr Yk
  .rw[X5 e] at hi;exact .inl hi
 .rw[JV] at Yx
  injection Yx with Yx;subst Yx;rw[Z7,Z7];exact hn
 .rw[Z7]
  refine⟨λg' Yd=>h.CI i b hb ho g' (Hd g' Yd),λCl g' Yd=>?_⟩;obtain⟨r',rfl⟩:=Ps;have e1:g=g':=by simpa using Yd
  subst e1;exact h.top i b hb ho (by
   rw[Z7] at Cl;obtain⟨_,_,_,_,e2,h2⟩:=Cl;injection e2 with e2;injection e2 with _ _ e3 _;exact⟨g,o,c,sz,hU,Fj (by rw[e3];exact h2)⟩) g (by rw[Im];rfl)
 .rw[Z7] at Eg
  obtain⟨h3,h4⟩:=old e Nx;exact h.apart Aw i b3 b h3 Pt hb ho h4 g' Yd (Hd g' Eg)
 .rw[Z7] at Yd
  exact h.A7 i b hb ho g' (Hd g' Yd)
theorem Rel.fresh (h:Rel P B io w tmps s U F fl) {id:Id} (Zu:U id=none) (Yk:id.1=s.ep) (Ww:w'.heap.size=w.heap.size+1) (JX:∀g,g < w.heap.size->w'.heap[g]?=w.heap[g]?) {b:Bd} {o c sz:Nat} {r:List Nat}
  (hr:∀k∈r,k∈fl) (Ct:r.Nodup) (BM:∀k∈fl',k∈fl) (Pg:fl'.Nodup) (Vm:∀k∈r,k ∉ fl')
  (hn:Xq P w' (AH (s.A5 id b) (Bi U id (some (.Bl w.heap.size o c sz))) w') (Bi U id (some (.Bl w.heap.size o c sz))) (some (.Bl w.heap.size o c sz)) (w.heap.size::r) b):
  Rel P B io w' tmps (s.A5 id b) (Bi U id (some (.Bl w.heap.size o c sz))) (Bi F id (w.heap.size::r)) fl':=by
 refine h.step (nid:=id) rfl rfl (λAw b' e hb=>by rw[X1 e] at hb;exact hb) (Et Zu) (λAw hi=>?_) (λAw e=>X5 e) (λAw e=>X5 e) ⟨λg _ hg=>JX g hg,λg hg Z6 ht=>?_,by omega⟩
  (λAw b' e hb g hg=>JX g (h.Il (by rw[X1 e] at hb;exact hb) g hg)) (λk hk _=>JX k (GU hk h.base)) (λb' hb=>?_) (λb' hb ho=>?_) (λb' hb ho Aw BI e Pp LL g hg Yd=>?_) (λb' hb ho=>?_) (λg hg=>by have:=h.AR g (BM g hg);omega)
  (λAw b' e hb ho g hg Yd=>h.A7 Aw b' (by rw[X1 e] at hb;exact hb) ho g hg (BM g Yd)) (λb' hb ho g hg Yd=>?_) Pg
 .by_cases e:Aw=id
  .subst e;exact .inr Yk
  .rw[X5 e] at hi;exact .inl hi
 .rcases fR Zu ht with h1|⟨o',c',Cs,h1⟩
  .exact hg h1
  .injection h1 with h1;omega
 .rw[JV] at hb
  injection hb with hb;subst hb;rw[Z7,Z7];exact hn
 .rw[Z7]
  refine⟨λg hg=>?_,λ_ g hg=>?_⟩
  .rcases Cj.1 hg with rfl|hg
   .omega
   .have:=h.AR g (hr g hg);omega
  .have:w.heap.size=g:=by simpa using hg
   have:=h.base;omega
 .rw[Z7] at Yd
  rw[X1 e] at Pp;have:=h.Il Pp g hg;rcases Cj.1 Yd with rfl|Yd
  .omega
  .exact h.A7 Aw BI Pp LL g hg (hr g Yd)
 .rw[Z7]
  refine ED.2 ⟨λhm=>?_,Ct⟩;have:=h.AR _ (hr _ hm);omega
 .rw[Z7] at hg
  rcases Cj.1 hg with rfl|hg
  .have:=h.AR _ (BM _ Yd);omega
  .exact Vm g hg Yd
end
section
variable {P:Program} {B:Nat} {io:Nat->Prop} {w w':World} {tmps:Array Value} {s s':St} {U U':AY} {F F':Id->List Nat} {fl fl':List Nat}
theorem Rel.grown {r:List Nat} (h:Rel P B io w tmps s U F (r++fl)) {id:Id} (Zu:U id=none) (Yk:id.1=s.ep) (Ww:w'.heap.size=w.heap.size+1) (JX:∀g,g < w.heap.size->w'.heap[g]?=w.heap[g]?)
  {us zs:List Value} {rows:List (List V)} {e:TypeId} {cl:Bool} {c:Nat} (CP:w'.heap[w.heap.size]?=some (.cells (us++zs).toArray e (0,0))) (hl:rows.length<=c) (hm:c<=maxLen) (hu:∀q∈rows,q.length=P.cellsOf e)
  (Yn:us.length=rows.length*P.cellsOf e) (hz:us.length+zs.length=c*P.cellsOf e) (h1:cl=true->B5 w us rows.flatten r)
  (h2:cl=false->r=[]/\∀(k:Nat) (x:V),rows.flatten[k]?=some x->∃v,us[k]?=some v/\Rd w (AH s U w) v x):
  Rel P B io w' tmps (s.A5 id ⟨false,true,cl,e,rows⟩) (Bi U id (some (.Bl w.heap.size 0 c (P.cellsOf e)))) (Bi F id (w.heap.size::r)) fl:=by
 have Ct:=EC.1 h.AT;refine h.fresh Zu Yk Ww JX (λk hk=>CC _ hk) Ct.1 (λk hk=>Ds _ hk) Ct.2.1 (λk hk W2=>Ct.2.2 k hk k W2 rfl) ?_;refine Xq.Cq rfl rfl rfl CP hl hm hu (by simpa using hz.symm) rfl (λQd=>?_) (λQd=>?_)
 .have:((us++zs).toArray.toList.drop 0).take (rows.length*P.cellsOf e)=us:=by simp[<-Yn]
  show B5 w' (((us++zs).toArray.toList.drop 0).take (rows.length*P.cellsOf e)) rows.flatten r;rw[this];exact (h1 Qd).frame λg hg=>JX g ((h1 Qd).lt g hg)
 .obtain⟨hr,hc⟩:=h2 Qd
  refine⟨hr,λk x hk=>?_⟩;obtain⟨v,hv,Eh⟩:=hc k x hk;refine⟨v,?_,(show Rd w (λg=>(¬AJ s U g)/\g < w.heap.size) v x from Eh).C8 (ok':=λg=>¬AJ (s.A5 id ⟨false,true,cl,e,rows⟩) (Bi U id (some (.Bl w.heap.size 0 c (P.cellsOf e)))) g) ⟨λg _ hg=>JX g hg,λg hg Z6 ht=>?_,by omega⟩⟩
  .have Z6:=(CX.1 hv).1
   simp[EV Z6,hv]
  .rcases fR Zu ht with h3|⟨o',c',Cs,h3⟩
   .exact hg h3
   .injection h3 with h3;omega
end
theorem B5.lits {w:World} {ok:Nat->Prop}:∀{xs:List V} {us:List Value},us.length=xs.length->(∀(k:Nat) (x:V),xs[k]?=some x->∃v,us[k]?=some v/\Rd w ok v x)->xs.all LC=true->B5 w us xs []:=by
 intro xs
 induction xs with
 | nil=>intro us hl _ _;rw[Gt hl];exact .nil
 | cons x xs ih=>
  intro us hl h ha;cases us with
  | nil=>simp at hl
  | cons u us=>
   simp only[DT,Bg] at ha;obtain⟨v,hv,hr⟩:=h 0 x rfl;have e:u=v:=by simpa using hv
   subst e;have hO:Ow w u x []:=by
    cases x<;>simp[LC] at ha;cases hr with|lit hs=>exact .lit hs
   have:=B5.cons hO (ih (us:=us) (by simpa using hl) (λk y hk=>h (k+1) y (by simpa using hk)) ha.2);simpa using this
theorem Xbj {w:World} {ok:Nat->Prop} {a:Addr} {xs:List V} (h:∀(k:Nat) (x:V),xs[k]?=some x->∃v,w.cell? (a.add k)=some v/\Rd w ok v x):
  ∃us:List Value,us.length=xs.length/\(∀(j:Nat) (v:Value),us[j]?=some v->w.cell? (a.add j)=some v)/\∀(k:Nat) (x:V),xs[k]?=some x->∃v,us[k]?=some v/\Rd w ok v x:=by
 refine⟨(List.range xs.length).map λk=>(w.cell? (a.add k)).getD undef,by simp,λj v hj=>?_,λk x hk=>?_⟩
 .simp only[Dt,AL] at hj
  obtain⟨j',Iq,rfl⟩:=hj;obtain⟨Z6,rfl⟩:=CX.1 Iq;simp only[tC,tF] at Z6 ⊢;obtain⟨v,hv,_⟩:=h j xs[j] (CB Z6);rw[hv];rfl
 .obtain⟨v,hv,hr⟩:=h k x hk
  have Z6:=(CX.1 hk).1;exact⟨v,by simp[tA Z6,hv],hr⟩
section
variable {P:Program} {B:Nat} {io:Nat->Prop} {w w':World} {tmps:Array Value} {s s':St} {U U':AY} {F F':Id->List Nat} {fl fl':List Nat}
structure Cells (w:World) (ok:Nat->Prop) (sz:Nat) (u:Value) (rows:List (List V)) (cl:Bool) (r:List Nat) (us:List Value):Prop where
 val:∃a c,u=.slice (some a) rows.length c/\∀(j:Nat) (v:Value),us[j]?=some v->w.cell? (a.add j)=some v
 len:us.length=rows.length*sz
 own:cl=true->B5 w us rows.flatten r
 see:cl=false->r=[]/\∀(k:Nat) (x:V),rows.flatten[k]?=some x->∃v,us[k]?=some v/\Rd w ok v x
theorem Cells.Vu {ok:Nat->Prop} {sz g o c:Nat} {rows:List (List V)} (hs:∀q∈rows,q.length=sz) (h:∀(k:Nat) (x:V),rows.flatten[k]?=some x->∃v,w.cell? ⟨g,o+k,none⟩=some v/\Rd w ok v x):
  ∃us,Cells w ok sz (.slice (some ⟨g,o,none⟩) rows.length c) rows (Fa rows) [] us:=by
 obtain⟨us,h1,h2,h3⟩:=Xbj (w:=w) (ok:=ok) (a:=⟨g,o,none⟩) (xs:=rows.flatten) (λk x hk=>by simpa [H6] using h k x hk);refine⟨us,⟨⟨g,o,none⟩,c,rfl,h2⟩,by rw[h1,H8 hs],λhl=>B5.lits h1 h3 ?_,λ_=>⟨rfl,h3⟩⟩;simp only[Fa,Cb] at hl ⊢;intro x hx;obtain⟨q,hq,hx⟩:=e9.1 hx;exact hl q hq x hx
end
section
variable {P:Program} {B:Nat} {io:Nat->Prop} {w w':World} {tmps:Array Value} {s s':St} {U U':AY} {F F':Id->List Nat} {fl fl':List Nat}
theorem Yzc (h:Rel P B io w tmps s U F fl) {id:Id} {off len:Nat} {e:TypeId} {rows:List (List V)} {u:Value} {sz:Nat} (hu:En w (AH s U w) U u (.sl id off len)) (hw:s.whole id off len=some (e,rows)) (K1:∀q∈rows,q.length=sz):
  ∃r,Rel P B io w tmps (s.kill id) U F (r++fl)/\((rows=[]/\r=[]/\∃A c,u=.slice A 0 c)\/∃us,Cells w (AH (s.kill id) U w) sz u rows true r us):=by
 obtain⟨fp,hR,hO⟩:=h.whole hu hw;rcases hO with⟨A,rfl,rfl,rfl⟩|⟨g,o,c,cur,BQ,rfl,hg,hl,hm,BW,hz,hO,rfl⟩
 .exact⟨[],hR,.inl ⟨rfl,rfl,A,0,rfl⟩⟩
 .refine⟨BQ,hR.less (by rw[HU];exact Ved _ _),.inr ⟨_,⟨⟨g,o,none⟩,c,rfl,λj v hj=>?_⟩,by rw[hO.length,H8 K1],λ_=>hO,λhc=>by cases hc⟩⟩
  rw[Df] at hj;split at hj
  .rw[D7] at hj
   simp only[H6,World.cell?,hg];simpa using hj
  .cases hj
theorem uI (h:Rel P B io w tmps s U F fl) {x:V} {rows:List (List V)} {u:Value} {sz:Nat} (hu:En w (AH s U w) U u x) (hr:s.rowsOf x=some rows) (K1:∀q∈rows,q.length=sz):
  (rows=[]/\∃A c,u=.slice A 0 c)\/∃us,Cells w (AH s U w) sz u rows (Fa rows) [] us:=by
 have tree:∀{rows:List (List V)} {u:Value},(∀q∈rows,q.length=sz)->Rd w (AH s U w) u (.tr rows)->(rows=[]/\∃A c,u=.slice A 0 c)\/∃us,Cells w (AH s U w) sz u rows (Fa rows) [] us:=by
  intro rows u K1 hR;cases hR with
  | emp=>exact .inl ⟨rfl,_,_,rfl⟩
  | @tr g o n c Cs _ uf hn hc hm hs hg Ck Ch=>
   subst hn;exact .inr (Cells.Vu K1 λk x hk=>⟨uf k,Ck k x hk,Ch k x hk⟩)
 unfold St.rowsOf at hr;split at hr
 .rename_i id off len
  obtain⟨b,hb,hr⟩:=A9.1 hr;split at hr
  .rename_i hc
   obtain⟨Xl,Yn⟩:=hc;simp only[AE] at hr;subst hr;cases hu with
   | sle hi=>exact .inl ⟨by simp,_,_,rfl⟩
   | @sl _ g o c Cs _ _ hU hc=>
    by_cases Yh:(b.rows.drop off).take len=[]
    .have Pm:len=0:=by
      have:=congrArg List.length Yh;simp at this;omega
     subst Pm;exact .inl ⟨Yh,_,_,rfl⟩
    .have Pk:((b.rows.drop off).take len).length=len:=by simp;omega
     have hB:=h.heap id b hb;rw[hU] at hB;have BW:∀r∈b.rows,r.length=Cs:=by
      unfold Xq at hB;rw[Xl] at hB;generalize Yv:b.own=ow at hB;cases ow with
      | true=>
       rcases hB with⟨Y2,_⟩|⟨g',o',c',cur,Y2,hg,hl,hm,BW,_⟩
       .cases Y2
       .cases Y2;exact BW
      | false=>
       obtain⟨_,hB⟩:=hB;rcases hB with⟨Y2,_⟩|⟨g',o',c',tR,Y2,BW,_⟩
       .cases Y2
       .cases Y2;exact BW
     have Pj:∀r∈(b.rows.drop off).take len,r.length=Cs:=λr hr=>BW r (FV (FW hr));have:=Cells.Vu (w:=w) (ok:=AH s U w) (g:=g) (o:=o+off*Cs) (c:=c - off) K1 λk x hk=>by
      obtain⟨i,j,row,hi,hj,rfl⟩:=uA Pj hk;rw[Df] at hi;split at hi
      .rw[D7] at hi
       obtain⟨u,h1,_,h2⟩:=h.cell hb hU hi hj;refine⟨u,?_,h2 Xl⟩;rw[show o+off*Cs+(i*Cs+j)=o+(off+i)*Cs+j by rw[Nat.add_mul];omega];exact h1
      .cases hi
     rw[Pk] at this;exact .inr this
  .cases hr
 .simp only[AE] at hr;subst hr;cases hu with|tr h=>exact tree K1 h
 .simp only[AE] at hr;subst hr;cases hu with|vw h=>exact tree K1 h
 .simp only[AE] at hr;subst hr;cases hu;exact .inl ⟨rfl,_,_,rfl⟩
 .cases hr
theorem Y9q {all:Bool} (h:Rel P B io w tmps s U F fl) {x:V} {rows:List (List V)} {cl:Bool} {s1:St} {u:Value} {sz:Nat} (hu:En w (AH s U w) U u x) (hm:s.Cp all x=some (rows,cl,s1)) (K1:∀q∈rows,q.length=sz):
  ∃r,Rel P B io w tmps s1 U F (r++fl)/\((rows=[]/\r=[]/\∃A c,u=.slice A 0 c)\/∃us,Cells w (AH s1 U w) sz u rows cl r us)/\(s1=s\/∃id,s1=s.kill id):=by
 have seen:∀{Bt:List (List V)},s.rowsOf x=some Bt->(Bt,Fa Bt,s)=(rows,cl,s1)->∃r,Rel P B io w tmps s1 U F (r++fl)/\((rows=[]/\r=[]/\∃A c,u=.slice A 0 c)\/∃us,Cells w (AH s1 U w) sz u rows cl r us)/\(s1=s\/∃id,s1=s.kill id):=by
  intro Bt hr he;simp only[A6] at he;obtain⟨rfl,rfl,rfl⟩:=he;refine⟨[],h,?_,.inl rfl⟩;rcases uI h hu hr K1 with⟨h1,h2⟩|h1
  .exact .inl ⟨h1,rfl,h2⟩
  .exact .inr h1
 unfold St.Cp at hm;split at hm
 .rename_i id off len
  split at hm
  .rename_i er hw
   split at hw
   .simp only[AE,A6] at hm
    obtain⟨rfl,rfl,rfl⟩:=hm;obtain⟨r,h1,h2⟩:=Yzc h hu (e:=er.1) (rows:=er.2) hw K1;exact⟨r,h1,h2,.inr ⟨id,rfl⟩⟩
   .cases hw
  .obtain⟨Bt,hr,he⟩:=AL.1 hm
   exact seen hr he
 .obtain⟨Bt,hr,he⟩:=AL.1 hm
  exact seen hr he
end
section
variable {P:Program} {w:World}
theorem uJ (t ty e:TypeId) (i:TypeInfo) (ht:P.underlying t=some (.slice e)) (hi:P.info? e=some i) (base A:Option Addr) (n c c2:Nat) (hn:n<=c):
  (Builtin.append_ #[t,t] ty #[.slice base n c,.slice A 0 c2]).run P w=.ok (.slice base n c) w:=by
 have hf:(Builtin.firstCells i.size 0 (.slice A 0 c2)).run P w=.ok #[] w:=by
  cases A<;>simp[Builtin.firstCells,loadCells,loadCellsFrom]
 cases base<;>simp[Builtin.append_,run_underlying ht,Go.sizeOf,typeInfo,hi,Builtin.lenOf,hn,hf,storeCells]
theorem Yx1 (t ty e:TypeId) (i:TypeInfo) (ht:P.underlying t=some (.slice e)) (hi:P.info? e=some i)
  (g o Ga Px:Nat) (cur:Array Value) (hg:w.heap[g]?=some (.cells cur e (0,0)))
  (a:Addr) (m c:Nat) (news:List Value) (hl:news.length=m*i.size) (JW:∀j u,news[j]?=some u->w.cell? (a.add j)=some u) (h1:∀u∈news,u.oneCell'=true)
  (uK:Ga+m<=Px) (Ny:o+Ga*i.size+news.length<=cur.size):
  (Builtin.append_ #[t,t] ty #[.slice (some ⟨g,o,none⟩) Ga Px,.slice (some a) m c]).run P w=
   .ok (.slice (some ⟨g,o,none⟩) (Ga+m) Px) (w.setRow g (cur.toList.take (o+Ga*i.size)++news++cur.toList.drop (o+Ga*i.size+news.length)).toArray):=by
 have hf:=run_firstCells_some (P:=P) w i.size m a m c news hl JW;have Fk:=run_storeCells_at P g (o+Ga*i.size) e news 0 cur w hg (by simpa using Ny) h1;simp only[GW] at Fk;simp[Builtin.append_,run_underlying ht,Go.sizeOf,typeInfo,hi,Builtin.lenOf,uK,hf,H6,Fk]
end
section
variable {P:Program} {B:Nat} {io:Nat->Prop} {w w':World} {tmps:Array Value} {s s':St} {U U':AY} {F F':Id->List Nat} {fl fl':List Nat}
theorem Rel.LP {r:List Nat} (h:Rel P B io w tmps s U F (r++fl)) {id:Id} (Zu:U id=none) (Yk:id.1=s.ep) {us:List Value} {rows:List (List V)} {e:TypeId} {cl:Bool} {c:Nat} {z:Value} (hz:z.cells.size=P.cellsOf e) (hl:rows.length<=c) (hm:c<=maxLen) (hu:∀q∈rows,q.length=P.cellsOf e)
  (Yn:us.length=rows.length*P.cellsOf e) (h1:cl=true->B5 w us rows.flatten r) (h2:cl=false->r=[]/\∀(k:Nat) (x:V),rows.flatten[k]?=some x->∃v,us[k]?=some v/\Rd w (AH s U w) v x):
  Rel P B io (w.drew.alloc (.cells (us.toArray++Builtin.zeroCells z.cells (c - rows.length)) e)) tmps (s.A5 id ⟨false,true,cl,e,rows⟩) (Bi U id (some (.Bl w.heap.size 0 c (P.cellsOf e)))) (Bi F id (w.heap.size::r)) fl:=by
 refine h.grown Zu Yk (us:=us) (zs:=(Builtin.zeroCells z.cells (c - rows.length)).toList) (SK w.drew _) (λg hg=>Below.heap_alloc w.drew _ g hg) ?_ hl hm hu Yn ?_ h1 h2
 .have:=fQ w.drew (.cells (us.toArray++Builtin.zeroCells z.cells (c - rows.length)) e)
  rw[show (us++(Builtin.zeroCells z.cells (c - rows.length)).toList).toArray=us.toArray++Builtin.zeroCells z.cells (c - rows.length) by apply UX;simp];exact this
 .show us.length+(Builtin.zeroCells z.cells (c - rows.length)).toList.length=_
  rw[Array.length_toList (xs:=Builtin.zeroCells z.cells (c - rows.length)),size_zeroCells,hz,Yn,<-Nat.add_mul]
  congr 1
  omega
end
section
variable {P:Program} {B:Nat} {io:Nat->Prop} {w w':World} {a:Act} {tmps:Array Value} {s s' s1:St} {U U':AY} {F F':Id->List Nat} {fl fl':List Nat} {k:Nat} {o:Oper} {v:V}
theorem Y7z {id:Id} {b:Bd} (Zu:U id=none) {g:Nat} (h:AJ (s.A5 id b) (Bi U id (some .emp)) g):AJ s U g:=by
 obtain⟨Aw,b',o,c,sz,hb,ho,hU⟩:=h;by_cases e:Aw=id
 .subst e;rw[Z7] at hU;cases hU
 .rw[X1 e] at hb;rw[X5 e] at hU;exact⟨Aw,b',o,c,sz,hb,ho,hU⟩
theorem Rel.Ir (h:Rel P B io w tmps s U F fl) {id:Id} (Zu:U id=none) (Yk:id.1=s.ep) {b:Bd} (Xl:b.box=false) (Yv:b.own=true) (hr:b.rows=[]):
  Rel P B io w tmps (s.A5 id b) (Bi U id (some .emp)) (Bi F id []) fl:=by
 refine h.step (nid:=id) rfl rfl (λAw b' e hb=>by rw[X1 e] at hb;exact hb) (Et Zu) (λAw hi=>?_) (λAw e=>X5 e) (λAw e=>X5 e) (.same λg=>Y7z Zu)
  (λ_ _ _ _ _ _=>rfl) (λ_ _ _=>rfl) (λb' hb=>?_) (λb' hb ho=>?_) (λb' hb ho Aw BI e Pp LL g hg Yd=>?_) (λb' hb ho=>?_) h.AR
  (λAw b' e hb ho g hg=>h.A7 Aw b' (by rw[X1 e] at hb;exact hb) ho g hg) (λb' hb ho g hg Yd=>?_) h.AT
 .by_cases e:Aw=id
  .subst e;exact .inr Yk
  .rw[X5 e] at hi;exact .inl hi
 .rw[JV] at hb
  injection hb with hb;subst hb;rw[Z7,Z7];exact .Ih Xl Yv rfl hr rfl
 .rw[Z7];exact⟨λg hg=>by simp at hg,λ_ g hg=>by simp at hg⟩
 .rw[Z7] at Yd;simp at Yd
 .rw[Z7];simp
 .rw[Z7] at hg;simp at hg
theorem SO {id:Id} {i:G0} {e k:Nat} (Yk:id.1=e) (hk:id.2 / 1024=k):∀Aw,(Bi U id (some i) Aw).isSome=true->(U Aw).isSome=true\/(Aw.1=e/\Aw.2 / 1024=k):=λAw hi=>by
 by_cases h:Aw=id
 .subst h;exact .inr ⟨Yk,hk⟩
 .rw[X5 h] at hi;exact .inl hi
theorem LQ {t:TypeId} {bo xo:Operand} {u:Value} (ho:o.op=.call {callee:=.builtin .append,args:=#[bo,xo],argTypes:=#[t,t]})
  (hr:(Builtin.append_ #[t,t] o.type #[a.eval bo,a.eval xo]).run P w=.ok u w'):(execOp a.eval o).run P w=.ok (.value u) w':=by
 simp[execOp,ho,resolve,invoke,builtin,hr]
theorem J6.drew {w0:World} (h:J6 B io w0 w):J6 B io w0 w.drew:=⟨h.os,h.tape,h.output,h.size,h.block⟩
theorem Vv {r:List Nat} (h:Rel P B io w a.tmps s1 U F (r++fl)) (CO:s1.env=s.env) (DU:s1.ep=s.ep) {id:Id} (Zu:U id=none) (Yk:id.1=s.ep) (hk:id.2 / 1024=k) {us:List Value} {rows:List (List V)} {e:TypeId} {cl:Bool} {Gb old:Nat} {z:Value}
  (hz:z.cells.size=P.cellsOf e) (hn:rows.length=Gb) (hm:Gb<=maxLen) (hu:∀q∈rows,q.length=P.cellsOf e)
  (Yn:us.length=rows.length*P.cellsOf e) (h1:cl=true->B5 w us rows.flatten r) (h2:cl=false->r=[]/\∀(k:Nat) (x:V),rows.flatten[k]?=some x->∃v,us[k]?=some v/\Rd w (AH s1 U w) v x):
  Cf P B io w a.tmps s U fl k (.sl id 0 Gb) (s1.A5 id ⟨false,true,cl,e,rows⟩) (.slice (some ⟨w.heap.size,0,none⟩) Gb (grownCap w Gb old e)) (w.drew.alloc (.cells (us.toArray++Builtin.zeroCells z.cells (grownCap w Gb old e - Gb)) e)):=by
 subst hn;have N3:=grownCap_ge w rows.length old e;have hR:=h.LP (fl:=fl) Zu (by rw[DU];exact Yk) (z:=z) (cl:=cl) hz N3 (grownCap_le_maxLen w _ old e hm) hu Yn h1 h2;refine⟨CO,DU,((J6.refl B io w).drew).alloc h.base _,_,_,hR,?_,Et Zu,SO Yk hk⟩;have:=En.sl (w:=w.drew.alloc (.cells (us.toArray++Builtin.zeroCells z.cells (grownCap w rows.length old e - rows.length)) e)) (ok:=AH (s1.A5 id ⟨false,true,cl,e,rows⟩) (Bi U id (some (.Bl w.heap.size 0 (grownCap w rows.length old e) (P.cellsOf e)))) (w.drew.alloc (.cells (us.toArray++Builtin.zeroCells z.cells (grownCap w rows.length old e - rows.length)) e)))
  (off:=0) (len:=rows.length) (Z7 U id (some (.Bl w.heap.size 0 (grownCap w rows.length old e) (P.cellsOf e)))) (by omega)
 simpa using this
end
section
variable {P:Program} {B:Nat} {io:Nat->Prop} {w w':World} {a:Act} {tmps:Array Value} {s s' s1:St} {U U':AY} {F F':Id->List Nat} {fl fl':List Nat} {k:Nat} {o:Oper} {v:V}
theorem Yyc {n:Nat} {rows:List (List V)} (h:GZ n rows=true):∀q∈rows,q.length=n:=λq hq=>by
 have:=Cb.1 h q hq;simpa using this
theorem Rel.over {r:List Nat} (h:Rel P B io w tmps s U F (r++fl)) {i id:Id} {b b':Bd} {g o c sz o' c' Cs:Nat} {f':List Nat} {new:Array Value} (Zu:U id=none) (Yk:id.1=s.ep) (hb:s.heap i=some b) (ho:b.own=true) (hU:U i=some (.Bl g o c sz))
  (hF:∃q,F i=g::q) (Hd:∀k∈f',k∈F i\/k∈r) (Ct:(g::f').Nodup) (Fj:0 < c)
  (hn:Xq P (w.setRow g new) (AH ((s.kill i).A5 id b') (Bi U id (some (.Bl g o' c' Cs))) (w.setRow g new)) (Bi U id (some (.Bl g o' c' Cs))) (some (.Bl g o' c' Cs)) (g::f') b'):
  Rel P B io (w.setRow g new) tmps ((s.kill i).A5 id b') (Bi U id (some (.Bl g o' c' Cs))) (Bi F id (g::f')) fl/\J6 B io w (w.setRow g new):=by
 have Yh:i≠id:=by rintro rfl;rw[Zu] at hU;cases hU
 have old:∀{Aw:Id} {BI:Bd},Aw≠id->((s.kill i).A5 id b').heap Aw=some BI->s.heap Aw=some BI/\Aw≠i:=λ{Aw BI} e Yx=>by
  rw[X1 e] at Yx;refine⟨Ij Yx,?_⟩;rintro rfl;rw[Q5] at Yx;cases Yx
 obtain⟨q,Im⟩:=hF;have Nw:g∈F i:=by rw[Im];exact BJ
 have X8:AJ s U g:=⟨i,b,o,c,sz,hb,ho,hU⟩;have LM:(w.setRow g new).heap.size=w.heap.size:=by simp[World.setRow]
 have LR:∀k∈g::f',k∈F i\/k∈r:=λk hk=>by
  rcases Cj.1 hk with rfl|hk
  .exact .inl Nw
  .exact Hd k hk
 have Vw:=EC.1 h.AT;refine⟨h.step (nid:=id) rfl rfl (λAw BI e Yx=>(old e Yx).1) (Et Zu) (λAw hi=>?_) (λAw e=>X5 e) (λAw e=>X5 e)
  ⟨λg' Yd _=>setRow_other w g g' _ (λe=>Yd (e▸X8)),λg' Yd _ ht=>Yd (fV Zu hb ho hU g' ht),by rw[LM];exact B4 _⟩ (λAw BI e Yx g' Yd=>setRow_other w g g' _ (λe'=>?_))
  (λk hk Ha=>setRow_other w g k _ (λe=>by
   subst e;rcases h.top i b hb ho ⟨k,o,c,sz,hU,Fj⟩ k (by rw[Im];rfl) with h1|h1
   .exact Ha h1
   .omega))
  (λBI Yx=>?_) (λBI Yx BP=>?_) (λBI Yx BP Aw b3 e Nx Pt g' Yd Eg=>?_) (λBI Yx BP=>by rw[Z7];exact Ct) (λg' Yd=>by rw[LM];exact h.AR g' (Ds _ Yd))
  (λAw BI e Yx BP g' Yd Eg=>h.A7 Aw BI (old e Yx).1 BP g' Yd (Ds _ Eg)) (λBI Yx BP g' Yd Eg=>?_) Vw.2.1,⟨rfl,rfl,rfl,by rw[LM];exact B4 _,λg' Yd Ha=>setRow_other w g g' _ (λe=>?_)⟩⟩
 .by_cases e:Aw=id
  .subst e;exact .inr Yk
  .rw[X5 e] at hi;exact .inl hi
 .subst e'
  obtain⟨h1,h2⟩:=old e Yx;cases Yv:BI.own with
  | true=>exact h.apart Aw i BI b h1 Yv hb ho h2 g' Yd Nw
  | false=>
   have hB:=h.heap Aw BI h1;unfold Xq at hB;rw[Yv] at hB;split at hB
   .cases hB.1
   .rename_i h2;cases h2
   .rw[hB.1] at Yd;cases Yd
 .rw[JV] at Yx
  injection Yx with Yx;subst Yx;rw[Z7,Z7];exact hn
 .rw[Z7]
  refine⟨λg' Yd=>?_,λ_ g' Yd=>?_⟩
  .rw[LM]
   rcases LR g' Yd with h1|h1
   .exact h.CI i b hb ho g' h1
   .exact h.AR g' (CC _ h1)
  .have e1:g=g':=by simpa using Yd
   subst e1;exact h.top i b hb ho ⟨g,o,c,sz,hU,Fj⟩ g (by rw[Im];rfl)
 .rw[Z7] at Eg
  obtain⟨h3,h4⟩:=old e Nx;rcases LR g' Eg with h1|h1
  .exact h.apart Aw i b3 b h3 Pt hb ho h4 g' Yd h1
  .exact h.A7 Aw b3 h3 Pt g' Yd (CC _ h1)
 .rw[Z7] at Yd
  rcases LR g' Yd with h1|h1
  .exact h.A7 i b hb ho g' h1 (Ds _ Eg)
  .exact Vw.2.2 g' h1 g' Eg rfl
 .subst e
  rcases h.top i b hb ho ⟨g',o,c,sz,hU,Fj⟩ g' (by rw[Im];rfl) with h1|h1
  .exact Ha h1
  .omega
theorem Y5k {all:Bool} (h:Rel P B io w a.tmps s U F fl) {t:TypeId} {bo xo:Operand} (ho:o.op=.call {callee:=.builtin .append,args:=#[bo,xo],argTypes:=#[t,t]}) {id:Id}
  (he:Nn P all s id t (s.AP bo) (s.AP xo)=some (v,s')) (Zu:U id=none) (Yk:id.1=s.ep) (hk:id.2 / 1024=k):
  Ce P o a w (Cf P B io w a.tmps s U fl k v s'):=by
 unfold Nn at he;obtain⟨e,Qt,he⟩:=A9.1 he;obtain⟨⟨rows,cl,s1⟩,hm,he⟩:=A9.1 he;have ht:=LH Qt;split at he
 case isFalse=>cases he
 rename_i hc;obtain⟨K1,Ww,LS⟩:=hc;simp only[Z2] at K1 Ww;have BW:=Yyc K1;simp only at BW he;obtain⟨i,hi,z,hz,Dy⟩:∃i,P.info? e=some i/\∃z,i.zero=some z/\z.cells.size=P.cellsOf e:=by
  unfold LD at LS;split at LS
  .rename_i z hz
   obtain⟨i,hi,hz⟩:=A9.1 hz;exact⟨i,hi,z,hz,by simpa using LS⟩
  .cases LS
 have N4:i.size=P.cellsOf e:=by simp[Program.cellsOf,hi]
 have fW:i.bytes=P.bytesOf e:=by simp[Program.bytesOf,hi]
 have SP:0 < P.cellsOf e:=tD Ww;obtain⟨r,hR,Vx,Cc⟩:=Y9q h (h.AP xo) hm BW;have CO:s1.env=s.env:=by rcases Cc with rfl|⟨_,rfl⟩<;>rfl
 have DU:s1.ep=s.ep:=by rcases Cc with rfl|⟨_,rfl⟩<;>rfl
 have hsubh:∀id b,s1.heap id=some b->s.heap id=some b:=by rcases Cc with rfl|⟨_,rfl⟩;exactλ_ _ h=>h;exactλ_ _ h=>Ij h
 have one:∀{us:List Value},Cells w (AH s1 U w) (P.cellsOf e) (a.eval xo) rows cl r us->∀u∈us,u.oneCell'=true:=by
  intro us hC u hu;cases Qd:cl with
  | true=>exact (hC.own Qd).one u hu
  | false=>
   obtain⟨j,hj⟩:=H0 hu;have Z6:j < rows.flatten.length:=by have:=hC.len;rw[H8 BW,<-hC.len];exact (CX.1 hj).1
   obtain⟨v',fX,Ch⟩:=(hC.see Qd).2 j _ (CB Z6);rw[hj] at fX;injection fX with fX;subst fX;exact Ch.one
 have uL:(rows=[]/\∃A c,a.eval xo=.slice A 0 c)\/(rows≠[]/\∃us,Cells w (AH s1 U w) (P.cellsOf e) (a.eval xo) rows cl r us):=by
  rcases Vx with⟨h1,_,h2⟩|⟨us,hC⟩
  .exact .inl ⟨h1,h2⟩
  .by_cases hn:rows=[]
   .obtain⟨ad,c,hv,_⟩:=hC.val
    exact .inl ⟨hn,some ad,c,by rw[hv,hn];rfl⟩
   .exact .inr ⟨hn,us,hC⟩
 have Py:=h.AP bo;split at he
 .rename_i uM
  split at he
  case isFalse=>cases he
  rename_i G4;simp only[AE,A6] at he;obtain⟨rfl,rfl⟩:=he;rw[uM] at Py;generalize hq:a.eval bo=q at Py;cases Py;rcases uL with⟨rfl,A,c,hx⟩|⟨Yh,us,hC⟩
  .have Xu:=uJ (P:=P) (w:=w) t o.type e i ht hi none A 0 0 c (B4 _)
   rw[<-hq,<-hx] at Xu;refine .value (LQ ho Xu) ⟨CO,DU,J6.refl _ _ _,_,_,(hR.less (HT _ _)).Ir Zu (Yk.trans DU.symm) rfl rfl rfl,?_,Et Zu,SO Yk hk⟩;rw[hq];exact .sle (by rw[Z7];rfl)
  .obtain⟨ad,c,hv,Fg⟩:=hC.val
   have fY:0 < rows.length:=Cv.2 Yh;have Xu:=run_append_nil (P:=P) (w:=w) t o.type e i z ht hi hz ad rows.length c us (by rw[hC.len,N4]) Fg fY (by omega) (by rw[fW];omega);rw[<-hq,<-hv] at Xu;exact .value (LQ ho Xu) (Vv hR CO DU Zu Yk hk Dy rfl (by unfold maxLen;omega) BW hC.len hC.own hC.see)
 .rename_i ib off len uM
  obtain⟨kb,G5,he⟩:=A9.1 he;split at he
  case isFalse=>cases he
  rename_i G4;obtain⟨Xl,Yv,hol,Pz,P0,h63⟩:=G4;simp only[AE,A6] at he;obtain⟨rfl,rfl⟩:=he;have hB:=hR.heap ib kb G5;rw[uM] at Py;generalize hq:a.eval bo=q at Py;have hidb:ib≠id:=by
   rintro rfl;cases Py with
   | sl hU=>rw[Zu] at hU;cases hU
   | sle hU=>rw[Zu] at hU;cases hU
  cases Py with
  | @sle _ A _ hU=>
   have hd:kb.rows.drop off=[]:=by apply EX;omega
   rcases uL with⟨rfl,A',c,hx⟩|⟨Yh,us,hC⟩
   .have Xu:=uJ (P:=P) (w:=w) t o.type e i ht hi A A' 0 0 c (B4 _)
    rw[<-hq,<-hx] at Xu;refine .value (LQ ho Xu) ⟨CO,DU,J6.refl _ _ _,_,_,((hR.less (HT _ _)).kill ib).Ir (b:=⟨false,true,kb.cl&&cl,e,kb.rows.drop off++[]⟩) Zu (Yk.trans DU.symm) rfl rfl (by rw[hd];rfl),?_,Et Zu,SO Yk hk⟩;rw[hq];exact .sle (by rw[Z7];rfl)
   .obtain⟨ad,c,hv,Fg⟩:=hC.val
    have fY:0 < rows.length:=Cv.2 Yh;have uN:rows.length*P.bytesOf e<=140737488355328:=by simpa using P0
    have Xu:(Builtin.append_ #[t,t] o.type #[a.eval bo,a.eval xo]).run P w=.ok (.slice (some ⟨w.heap.size,0,none⟩) rows.length (grownCap w rows.length 0 e)) (w.drew.alloc (.cells (us.toArray++Builtin.zeroCells z.cells (grownCap w rows.length 0 e - rows.length)) e)):=by
     rw[hq,hv];cases A with
     | none=>exact run_append_nil (P:=P) (w:=w) t o.type e i z ht hi hz ad rows.length c us (by rw[hC.len,N4]) Fg fY (by omega) (by rw[fW];omega)
     | some b=>
      have:=run_append_grow (P:=P) (w:=w) t o.type e i z ht hi hz b 0 0 [] (by simp) (by simp) ad rows.length c us (by rw[hC.len,N4]) Fg (by omega) (by omega) (growslice_fits (by omega) (by rw[fW,OY];exact uN));simpa using this
    have hcl':(kb.cl&&cl)=true->B5 w us rows.flatten r:=λhc=>hC.own (by simp at hc;exact hc.2);rw[hd,L3];have hkr:kb.rows.length=off:=by omega
    cases Cl:(kb.cl&&cl) with
    | true=>
     refine .value (LQ ho Xu) ?_;have:=Vv (s:=s) (k:=k) (s1:=s1.kill ib) (old:=0) (hR.kill ib) CO DU Zu Yk hk Dy rfl (by unfold maxLen;omega) BW hC.len (cl:=true) (λ_=>hC.own (by simp at Cl;exact Cl.2)) (λh=>by cases h);simpa using this
    | false=>
     refine .value (LQ ho Xu) ?_;have see:∀(k:Nat) (x:V),rows.flatten[k]?=some x->∃v,us[k]?=some v/\Rd w (AH (s1.kill ib) U w) v x:=by
      intro j x hx;cases Qd:cl with
      | true=>
       obtain⟨v,hv,hr⟩:=(hC.own Qd).rd (ok:=AH s1 U w) (λg hg=>hR.Ik (CC _ hg)) hx;exact⟨v,hv,hr.mono (λ_ _ _=>rfl) (λg hg=>Vk hg)⟩
      | false=>
       obtain⟨v,hv,hr⟩:=(hC.see Qd).2 j x hx;exact⟨v,hv,hr.mono (λ_ _ _=>rfl) (λg hg=>Vk hg)⟩
     have:=Vv (s:=s) (k:=k) (s1:=s1.kill ib) (old:=0) (r:=[]) (fl:=fl) ((hR.less (HT _ _)).kill ib) CO DU Zu Yk hk Dy rfl (by unfold maxLen;omega) BW hC.len (cl:=false) (λh=>by cases h) (λ_=>⟨rfl,see⟩);simpa using this
  | @sl _ g o0 c0 sz _ _ hU hoc=>
   rw[hU] at hB;have hB':=hB;unfold Xq at hB;rw[Xl,Yv] at hB;rcases hB with⟨Y2,_⟩|⟨g',o',c',cur,Y2,hg,hl,Vy,fZ,Vz,fp,CR,h1,h2⟩
   .cases Y2
   .cases Y2
    subst Pz;have SN:g ∉ r++fl:=hR.A7 ib kb G5 Yv g (by rw[CR];exact BJ);have SQ:∀q∈kb.rows.drop off,q.length=P.cellsOf kb.el:=λq hq=>fZ q (FV hq);have Is:(kb.rows.drop off).length=len:=by simp;omega
    have hoc':off*P.cellsOf kb.el+(c0 - off)*P.cellsOf kb.el=c0*P.cellsOf kb.el:=by rw[<-Nat.add_mul];congr 1;omega
    have hlc:kb.rows.length*P.cellsOf kb.el<=c0*P.cellsOf kb.el:=Nf _ hl;have hll:off*P.cellsOf kb.el+len*P.cellsOf kb.el=kb.rows.length*P.cellsOf kb.el:=by rw[<-Nat.add_mul,hol]
    let Cu:=(cur.toList.drop (o0+off*P.cellsOf kb.el)).take (len*P.cellsOf kb.el)
    have Xcp:Cu=(cur.toList.drop (o0+off*P.cellsOf kb.el)).take (len*P.cellsOf kb.el):=rfl;have gA:Cu.length=len*P.cellsOf kb.el:=by simp[Cu];omega
    have V0:((cur.toList.drop o0).take (kb.rows.length*P.cellsOf kb.el)).drop (off*P.cellsOf kb.el)=Cu:=by
     rw[List.drop_take,List.drop_drop];simp only[Cu];congr 1;omega
    have uO:∀(j:Nat) (v:Value),Cu[j]?=some v->cur[o0+off*P.cellsOf kb.el+j]?=some v:=by
     intro j v hj;simp only[Cu] at hj;rw[Df] at hj;split at hj
     .simpa using hj
     .cases hj
    have Xcd:∀(j:Nat) (v:Value),Cu[j]?=some v->w.cell? ((⟨g,o0+off*P.cellsOf kb.el,none⟩:Addr).add j)=some v:=by
     intro j v hj;rw[H6,cell_of_row w g _ cur kb.el (0,0) hg];exact uO j v hj
    have gB:kb.cl=true->∃f1,B5 w Cu (kb.rows.drop off).flatten f1/\f1.Sublist fp:=λhc=>by
     obtain⟨f1,hO,hs⟩:=(h1 hc).drop (off*P.cellsOf kb.el);rw[V0,Vj off fZ] at hO;exact⟨f1,hO,hs⟩
    have uP:∀(j:Nat) (x:V),(kb.rows.drop off).flatten[j]?=some x->∃v,Cu[j]?=some v/\Rd w (AH s1 U w) v x:=by
     intro j x hj;cases uQ:kb.cl with
     | true=>
      obtain⟨f1,hO,hs⟩:=gB uQ;refine hO.rd (λg'' Eg=>hR.G2 G5 Yv hU (by rw[CR];exact Co _ (hs.subset Eg)) (λg3 _ _ _ e=>by
       cases e;rintro rfl;have:=hR.once ib kb G5 Yv;rw[CR] at this;exact (ED.1 this).1 (hs.subset Eg))) hj
     | false=>
      rw[<-Vj off fZ,D7] at hj;obtain⟨v,hv,hr⟩:=(h2 uQ).2 _ x hj;refine⟨v,?_,hr⟩;have Z6:=(CX.1 hj).1;rw[H8 fZ] at Z6;simp only[Cu];rw[Df,Ah (by omega),D7];simpa [Nat.add_assoc] using hv
    have V1:∀{us:List Value},Cells w (AH s1 U w) (P.cellsOf kb.el) (a.eval xo) rows cl r us->∀(j:Nat) (x:V),rows.flatten[j]?=some x->∃v,us[j]?=some v/\Rd w (AH s1 U w) v x:=by
     intro us hC j x hx;cases Qd:cl with
     | true=>exact (hC.own Qd).rd (λg hg=>hR.Ik (CC _ hg)) hx
     | false=>exact (hC.see Qd).2 j x hx
    have V2:=hR.once ib kb G5 Yv;rw[CR] at V2;rcases uL with⟨rfl,A',c,hx⟩|⟨Yh,us,hC⟩
    .have Xu:=uJ (P:=P) (w:=w) t o.type kb.el i ht hi (some ⟨g,o0+off*P.cellsOf kb.el,none⟩) A' len (c0 - off) c (by omega)
     rw[<-hq,<-hx] at Xu;have hR':=hR.less (HT r fl);have hc00:(([]:List (List V))).length=0:=rfl;have P1:∃V3,Rel P B io w a.tmps ((s1.kill ib).A5 id ⟨false,true,kb.cl&&cl,kb.el,kb.rows.drop off++[]⟩) (Bi U id (some (.Bl g (o0+off*P.cellsOf kb.el) (c0 - off) (P.cellsOf kb.el)))) V3 fl:=by
      have Vp:∀g',AH s1 U w g'->AH ((s1.kill ib).A5 id ⟨false,true,kb.cl&&cl,kb.el,kb.rows.drop off++[]⟩) (Bi U id (some (.Bl g (o0+off*P.cellsOf kb.el) (c0 - off) (P.cellsOf kb.el)))) w g':=λg' Yd=>⟨λht=>Yd.1 (fV Zu G5 Yv hU g' ht),Yd.2⟩;cases Cl:(kb.cl&&cl) with
      | true=>
       obtain⟨f1,hO,hs⟩:=gB (by simp at Cl;exact Cl.1);refine⟨_,hR'.move (b':=⟨false,true,true,kb.el,kb.rows.drop off++[]⟩) (Fs:=g::f1) Zu (by rw[DU];exact Yk) G5 Yv hU ⟨fp,CR⟩ ⟨f1,rfl⟩ (λk' W2=>?_) (ED.2 ⟨λhm=>(ED.1 V2).1 (hs.subset hm),(ED.1 V2).2.sublist hs⟩) (λ_=>by omega) (.Cq rfl rfl rfl hg (by simp;omega) (by omega) (by rw[Gu];exact SQ) (by show o0+off*P.cellsOf kb.el+(c0 - off)*P.cellsOf kb.el=cur.size;omega) rfl (λ_=>?_) (λhf=>by cases hf))⟩
       .rw[CR]
        rcases Cj.1 W2 with rfl|W2
        .exact BJ
        .exact Co _ (hs.subset W2)
       .simp only[Gu,Is];exact hO
      | false=>
       refine⟨_,hR'.move (b':=⟨false,true,false,kb.el,kb.rows.drop off++[]⟩) (Fs:=[g]) Zu (by rw[DU];exact Yk) G5 Yv hU ⟨fp,CR⟩ ⟨[],rfl⟩ (λk' W2=>by rw[CR,List.mem_singleton.1 W2];exact BJ) (by simp) (λ_=>by omega) (.Cq rfl rfl rfl hg (by simp;omega) (by omega) (by rw[Gu];exact SQ) (by show o0+off*P.cellsOf kb.el+(c0 - off)*P.cellsOf kb.el=cur.size;omega) rfl (λhf=>by cases hf) (λ_=>⟨rfl,λj x hj=>?_⟩))⟩;simp only[Gu] at hj;obtain⟨v,hv,hr⟩:=uP j x hj;rw[Cl] at Vp;exact⟨v,uO j v hv,hr.mono (λ_ _ _=>rfl) Vp⟩
     obtain⟨V3,P1⟩:=P1;refine .value (LQ ho Xu) ⟨CO,DU,J6.refl _ _ _,_,_,P1,?_,Et Zu,SO Yk hk⟩;have:=En.sl (w:=w) (ok:=AH ((s1.kill ib).A5 id ⟨false,true,kb.cl&&cl,kb.el,kb.rows.drop off++[]⟩) (Bi U id (some (.Bl g (o0+off*P.cellsOf kb.el) (c0 - off) (P.cellsOf kb.el)))) w) (off:=0) (len:=len) (Z7 U id (some (.Bl g (o0+off*P.cellsOf kb.el) (c0 - off) (P.cellsOf kb.el)))) (by omega);rw[hq];simpa using this
    .obtain⟨ad,c,hv,Fg⟩:=hC.val
     have fY:0 < rows.length:=Cv.2 Yh;by_cases uK:len+rows.length<=c0 - off
     ·
      have Ny:o0+off*P.cellsOf kb.el+len*i.size+us.length<=cur.size:=by
       rw[N4,hC.len];have:(off+len+rows.length)*P.cellsOf kb.el<=c0*P.cellsOf kb.el:=Nf _ (by omega);rw[Nat.add_mul,Nat.add_mul] at this;omega
      have Xu:=Yx1 (P:=P) (w:=w) t o.type kb.el i ht hi g (o0+off*P.cellsOf kb.el) len (c0 - off) cur hg ad rows.length c us (by rw[hC.len,N4]) Fg (one hC) uK Ny;rw[<-hq,<-hv] at Xu;rw[N4] at Xu Ny;generalize Y7:(cur.toList.take (o0+off*P.cellsOf kb.el+len*P.cellsOf kb.el)++us++cur.toList.drop (o0+off*P.cellsOf kb.el+len*P.cellsOf kb.el+us.length)).toArray=new at Xu;have JW:new.size=cur.size:=by rw[<-Y7];simp;omega
      have uR:∀m,new[m]?=if o0+off*P.cellsOf kb.el+len*P.cellsOf kb.el<=m/\m < o0+off*P.cellsOf kb.el+len*P.cellsOf kb.el+us.length then us[m - (o0+off*P.cellsOf kb.el+len*P.cellsOf kb.el)]? else cur[m]?:=by
       intro m;rw[<-Y7,eQ,Nv (by simp;omega)];simp
      have LO:∀k',k'≠g->(w.setRow g new).heap[k']?=w.heap[k']?:=λk' W2=>setRow_other w g k' _ W2;have X8:AJ s1 U g:=⟨ib,kb,_,_,_,G5,Yv,hU⟩;have Xcb:(new.toList.drop (o0+off*P.cellsOf kb.el)).take ((kb.rows.drop off++rows).length*P.cellsOf kb.el)=Cu++us:=by
       apply UL;intro m;rw[Df,D7,eS,uR];have P2:(kb.rows.drop off++rows).length*P.cellsOf kb.el=len*P.cellsOf kb.el+us.length:=by rw[Cw,Is,Nat.add_mul,hC.len]
       rw[P2];by_cases hm:m < len*P.cellsOf kb.el
       .rw[Ah (by omega),Ai (by omega),EV (by omega)]
        simp only[Cu];rw[Df,Ah hm,D7,eS]
       .rw[FD (by omega),gA]
        by_cases JY:m < len*P.cellsOf kb.el+us.length
        .rw[Ah JY,Ah (by omega)]
         congr 1;omega
        .rw[Ai JY,S9 (by omega)]
      have Di:∀q∈kb.rows.drop off++rows,q.length=P.cellsOf kb.el:=λq hq=>by
       rcases BT.1 hq with hq|hq
       .exact SQ q hq
       .exact BW q hq
      let b2:Bd:=⟨false,true,kb.cl&&cl,kb.el,kb.rows.drop off++rows⟩
      have Vp:∀g',AH s1 U w g'->AH ((s1.kill ib).A5 id b2) (Bi U id (some (.Bl g (o0+off*P.cellsOf kb.el) (c0 - off) (P.cellsOf kb.el)))) (w.setRow g new) g':=λg' Yd=>⟨λht=>Yd.1 (fV Zu G5 Yv hU g' ht),by simpa using Yd.2⟩;have V4:∀{u:Value} {x:V},Rd w (AH s1 U w) u x->Rd (w.setRow g new) (AH ((s1.kill ib).A5 id b2) (Bi U id (some (.Bl g (o0+off*P.cellsOf kb.el) (c0 - off) (P.cellsOf kb.el)))) (w.setRow g new)) u x:=λhu=>
       hu.mono (λg' Yd _=>LO g' (λe=>Yd.1 (e▸X8))) Vp
      have Ip:g ∉ r:=λhm=>SN (CC _ hm);have P1:∃V3,Rel P B io (w.setRow g new) a.tmps ((s1.kill ib).A5 id b2) (Bi U id (some (.Bl g (o0+off*P.cellsOf kb.el) (c0 - off) (P.cellsOf kb.el)))) V3 fl/\J6 B io w (w.setRow g new):=by
       cases Cl:(kb.cl&&cl) with
       | true=>
        have P3:=Cl;simp only[Bg] at P3;obtain⟨f1,hO,hs⟩:=gB P3.1;have Pw:=hC.own P3.2;have N1:∀k'∈f1,k'∈fp:=λk' W2=>hs.subset W2;have V5:g ∉ f1:=λhm=>(ED.1 V2).1 (hs.subset hm);have hOO:=(hO.append Pw).frame (w':=w.setRow g new) (λk' W2=>LO k' (by
         rintro rfl;rcases BT.1 W2 with h1|h1
         .exact V5 h1
         .exact Ip h1))
        refine⟨_,hR.over (b':=b2) (f':=f1++r) (new:=new) Zu (by rw[DU];exact Yk) G5 Yv hU ⟨fp,CR⟩ (λk' W2=>?_) (ED.2 ⟨λhm=>?_,EC.2 ⟨(ED.1 V2).2.sublist hs,(EC.1 hR.AT).1,λx hx y hy e=>?_⟩⟩) (by omega)
         (.Cq rfl rfl rfl (setRow_heap w g cur new _ _ hg) (by simp[b2];omega) (by omega) Di (by rw[JW];show o0+off*P.cellsOf kb.el+(c0 - off)*P.cellsOf kb.el=cur.size;omega) rfl (λ_=>?_) (λhf=>by simp[b2,Cl] at hf))⟩
        .rcases BT.1 W2 with h1|h1
         .exact .inl (by rw[CR];exact Co _ (N1 k' h1))
         .exact .inr h1
        .rcases BT.1 hm with h1|h1
         .exact V5 h1
         .exact Ip h1
        .subst e
         exact hR.A7 ib kb G5 Yv x (by rw[CR];exact Co _ (N1 x hx)) (CC _ hy)
        .show B5 (w.setRow g new) ((new.toList.drop (o0+off*P.cellsOf kb.el)).take ((kb.rows.drop off++rows).length*P.cellsOf kb.el)) (kb.rows.drop off++rows).flatten (f1++r)
         rw[Xcb,List.flatten_append];exact hOO
       | false=>
        refine⟨_,hR.over (b':=b2) (f':=[]) (new:=new) Zu (by rw[DU];exact Yk) G5 Yv hU ⟨fp,CR⟩ (λk' W2=>by simp at W2) (by simp) (by omega)
         (.Cq rfl rfl rfl (setRow_heap w g cur new _ _ hg) (by simp[b2];omega) (by omega) Di (by rw[JW];show o0+off*P.cellsOf kb.el+(c0 - off)*P.cellsOf kb.el=cur.size;omega) rfl (λhf=>by simp[b2,Cl] at hf) (λ_=>⟨rfl,λj x hj=>?_⟩))⟩
        have Iq:((kb.rows.drop off).flatten++rows.flatten)[j]?=some x:=by rw[<-List.flatten_append];exact hj
        have DV:(kb.rows.drop off).flatten.length=len*P.cellsOf kb.el:=by rw[H8 SQ,Is]
        by_cases JS:j < len*P.cellsOf kb.el
        .rw[EV (by omega)] at Iq
         obtain⟨v,hv,hr⟩:=uP j x Iq;exact⟨v,by rw[uR,Ai (by omega)];exact uO j v hv,V4 hr⟩
        .rw[FD (by omega),DV] at Iq
         obtain⟨v,hv,hr⟩:=V1 hC _ x Iq;have Z6:=(CX.1 hv).1;refine⟨v,?_,V4 hr⟩;rw[uR,Ah (by omega),<-hv]
         congr 1;omega
      obtain⟨V3,P1,FH⟩:=P1;refine .value (LQ ho Xu) ⟨CO,DU,FH,_,_,P1,?_,Et Zu,SO Yk hk⟩;have:=En.sl (w:=w.setRow g new) (ok:=AH ((s1.kill ib).A5 id b2) (Bi U id (some (.Bl g (o0+off*P.cellsOf kb.el) (c0 - off) (P.cellsOf kb.el)))) (w.setRow g new)) (off:=0) (len:=len+rows.length) (Z7 U id (some (.Bl g (o0+off*P.cellsOf kb.el) (c0 - off) (P.cellsOf kb.el)))) (by omega);simpa using this
     ·
      have JZ:=hR.float G5 Yv;have hsup:len+rows.length<=9223372036854775807:=by omega
      have Xu:=run_append_grow (P:=P) (w:=w) t o.type kb.el i z ht hi hz ⟨g,o0+off*P.cellsOf kb.el,none⟩ len (c0 - off) Cu (by rw[gA,N4]) Xcd ad rows.length c us (by rw[hC.len,N4]) Fg (by omega) (by omega) (growslice_fits (by omega) (by rw[fW];exact P0));rw[<-hq,<-hv] at Xu;have Di:∀q∈kb.rows.drop off++rows,q.length=P.cellsOf kb.el:=λq hq=>by
       rcases BT.1 hq with hq|hq
       .exact SQ q hq
       .exact BW q hq
      have Xaa:(Cu++us).length=(kb.rows.drop off++rows).length*P.cellsOf kb.el:=by rw[Cw,Cw,Is,Nat.add_mul,hC.len,gA]
      have Zzz:Cu.toArray++us.toArray=(Cu++us).toArray:=by simp
      rw[Zzz] at Xu;cases Cl:(kb.cl&&cl) with
      | true=>
       have P3:=Cl;simp only[Bg] at P3;obtain⟨f1,hO,hs⟩:=gB P3.1;have He:((f1++r)++fl).Sublist (F ib++(r++fl)):=by
        rw[CR,List.append_assoc];exact UJ (hs.trans (Ved _ _)) (Ng _)
       have hO3:B5 w (Cu++us) (kb.rows.drop off++rows).flatten (f1++r):=by rw[List.flatten_append];exact hO.append (hC.own P3.2)
       refine .value (LQ ho Xu) ?_;exact Vv (s:=s) (k:=k) (s1:=s1.kill ib) (r:=f1++r) (JZ.less He) CO DU Zu Yk hk Dy (by rw[Cw,Is]) (by unfold maxLen;omega) Di Xaa (λ_=>hO3) (λh=>by cases h)
      | false=>
       refine .value (LQ ho Xu) ?_;refine Vv (s:=s) (k:=k) (s1:=s1.kill ib) (r:=[]) (fl:=fl) ((hR.less (HT _ _)).kill ib) CO DU Zu Yk hk Dy (by rw[Cw,Is]) (by unfold maxLen;omega) Di Xaa (λh=>by cases h) (λ_=>⟨rfl,λj x hj=>?_⟩);have Iq:((kb.rows.drop off).flatten++rows.flatten)[j]?=some x:=by rw[<-List.flatten_append];exact hj
       have DV:(kb.rows.drop off).flatten.length=len*P.cellsOf kb.el:=by rw[H8 SQ,Is]
       by_cases JS:j < len*P.cellsOf kb.el
       .rw[EV (by omega)] at Iq
        obtain⟨v,hv,hr⟩:=uP j x Iq;exact⟨v,by rw[EV (by omega)];exact hv,hr.mono (λ_ _ _=>rfl) (λg hg=>Vk hg)⟩
       .rw[FD (by omega),DV] at Iq
        obtain⟨v,hv,hr⟩:=V1 hC _ x Iq;exact⟨v,by rw[FD (by omega),gA];exact hv,hr.mono (λ_ _ _=>rfl) (λg hg=>Vk hg)⟩
 .cases he
end
section
variable {P:Program} {B:Nat} {io:Nat->Prop} {w:World} {a:Act} {s:St} {U:AY} {F:Id->List Nat} {fl:List Nat} {k:Nat} {o:Oper} {v:V}
theorem Xbf {t e:TypeId} (h:P.underlying t=some (.slice e)):P.elem t=e:=by simp[Program.elem,h]
theorem Y6b {t e:TypeId} (ht:P.underlying t=some (.slice e)) (hz:Z2 P e≠0) (A:Option Addr) (len cap:Nat) (lo hi:Option Value) (l h:Nat)
  (hl:(lo=none/\l=0)\/∃kd,lo=some (.int kd l)) (hh:(hi=none/\h=len)\/∃kd,hi=some (.int kd h)) (h1:l<=h) (h2:h<=len) (h3:len<=cap):
  (Instr.sliceAt t (.slice A len cap) lo hi none).run P w=.ok (sliced A l h cap (P.cellsOf e)) w:=by
 have he:=Xbf ht;have P4:P.underlying t=some (.slice (P.elem t)):=by rw[he];exact ht
 rw[run_sliceAt_slice w t _ _ _ _ P4];obtain⟨ti,CN,Ww⟩:∃ti,P.info? e=some ti/\ti.size=P.cellsOf e:=by
  unfold Z2 Program.cellsOf at hz;unfold Program.cellsOf;cases hq:P.info? e with
  | none=>rw[hq] at hz;simp at hz
  | some ti=>exact⟨ti,rfl,rfl⟩
 have hs:((sizeOf (P.elem t)).run P w)=.ok (P.cellsOf e) w:=by rw[he];simp[sizeOf,typeInfo,CN,Ww]
 rcases hl with⟨rfl,rfl⟩|⟨kl,rfl⟩<;>rcases hh with⟨rfl,rfl⟩|⟨kh,rfl⟩
 .rw[run_slice_all w t A _ cap P4,hs];rfl
 .rw[run_slice_h w t A len cap P4 kh h (by omega) (by omega),hs];rfl
 .rw[run_slice_l w t A _ cap P4 kl l (by omega) (by omega),hs];rfl
 .rw[run_slice_lh w t A len cap P4 kl kh l h (by omega) (by omega) (by omega),hs];rfl
theorem Rd.slice {ok:Nat->Prop} {u:Value} {rows:List (List V)} {l h sz:Nat} (hr:Rd w ok u (.tr rows)) (hh:h<=rows.length) (hl:l<=h) (hs:∀r∈rows,r.length=sz):
  ∃A len cap,u=.slice A len cap/\len=rows.length/\len<=cap/\Rd w ok (sliced A l h cap sz) (.tr ((rows.drop l).take (h - l))):=by
 cases hr with
 | @emp A c=>
  have h0:h=0:=by simpa using hh
  have l0:l=0:=by omega
  subst h0;subst l0;exact⟨A,0,c,rfl,rfl,Cd _,by simp only[sliced];exact .emp⟩
 | @tr g o n c Cs _ uf hn hc hm H5 hg hu Ch=>
  refine⟨_,n,c,rfl,hn.symm,hc,?_⟩;by_cases he:(rows.drop l).take (h - l)=[]
  .have:h - l=0:=by
    have:=congrArg List.length he;simp at this;omega
   rw[he];simp only[sliced,this];exact .emp
  .have Z6:l < h:=by
    rcases L9 l h with h'|h'
    .exact h'
    .exact absurd (by rw[show h - l=0 by omega];rfl) he
   have Ww:Cs=sz:=by
    have hx:rows[l]?=some (rows[l]'(by omega)):=CB (by omega);rw[<-H5 _ (Ep hx),hs _ (Ep hx)]
   subst Ww;have Qd:c≠l:=by omega
   simp only[sliced,Ai Qd,D8];have HA:(⟨g,o,none⟩:Addr).add (l*Cs)=⟨g,o+l*Cs,none⟩:=by unfold Addr.add;split<;>simp_all
   rw[HA];have cell:∀(k:Nat) (x:V),((rows.drop l).take (h - l)).flatten[k]?=some x->rows.flatten[l*Cs+k]?=some x:=by
    intro k x hk;have hd:∀r∈rows.drop l,r.length=Cs:=λr hr=>H5 r (FV hr);rw[<-uB (h - l) hd,<-Vj l H5,Df] at hk;split at hk
    .rwa [D7] at hk
    .cases hk
   refine .tr (u:=λk=>uf (l*Cs+k)) (by simp;omega) (by omega) (by omega) (λr hr=>H5 r (FV (FW hr))) hg (λk x hk=>?_) (λk x hk=>Ch _ x (cell k x hk));rw[Nat.add_assoc];exact hu _ x (cell k x hk)
theorem uS (h:Rel P B io w a.tmps s U F fl) {t:TypeId} {x:Operand} {lo hi:Option Operand} (ho:o.op=.slice t x lo hi none)
  (he:Np P s t (s.AP x) (lo.map s.AP) (hi.map s.AP)=some v):Ce P o a w (Cf P B io w a.tmps s U fl k v s):=by
 unfold Np at he;obtain⟨e,Qt,he⟩:=A9.1 he;obtain⟨rows,Wn,he⟩:=A9.1 he;obtain⟨l,hl,he⟩:=A9.1 he;obtain⟨hh,hhi,he⟩:=A9.1 he;have ht:=LH Qt;split at he
 case isFalse=>cases he
 rename_i hc;obtain⟨h1,h2,K1,hz⟩:=hc;have Pd:P.cellsOf e≠0:=hz;have BW:∀r∈rows,r.length=P.cellsOf e:=λr hr=>by
  have:=Cb.1 K1 r hr;simpa [Z2] using this
 have hlo:(lo.map a.eval=none/\l=0)\/∃kd,lo.map a.eval=some (.int kd l):=by
  cases lo with
  | none=>simp at hl;exact .inl ⟨rfl,hl.symm⟩
  | some lo=>
   obtain⟨kd,hk⟩:=Vg (h.AP lo) hl;exact .inr ⟨kd,by simp[hk]⟩
 have uT:∀len,len=rows.length->(hi.map a.eval=none/\hh=len)\/∃kd,hi.map a.eval=some (.int kd hh):=by
  intro len Yn;cases hi with
  | none=>simp at hhi;exact .inl ⟨rfl,by omega⟩
  | some hi=>
   obtain⟨kd,hk⟩:=Vg (h.AP hi) hhi;exact .inr ⟨kd,by simp[hk]⟩
 have fin:∀(A:Option Addr) (len cap:Nat),a.eval x=.slice A len cap->len=rows.length->len<=cap->En w (AH s U w) U (sliced A l hh cap (P.cellsOf e)) v->Ce P o a w (Cf P B io w a.tmps s U fl k v s):=by
  intro A len cap hq Yn Fj hv;have Xu:=Y6b (w:=w) ht hz A len cap _ _ l hh hlo (uT len Yn) h1 (by omega) Fj;refine .value (v:=sliced A l hh cap (P.cellsOf e)) ?_ (.same h hv);rw[<-hq] at Xu;simp[execOp,ho,Xu]
 have hx:=h.AP x;have tree:∀{u:Value},a.eval x=u->Rd w (AH s U w) u (.tr rows)->(Rd w (AH s U w) (sliced (match u with|.slice A _ _=>A|_=>none) l hh (match u with|.slice _ _ c=>c|_=>0) (P.cellsOf e)) (.tr ((rows.drop l).take (hh - l)))->En w (AH s U w) U (sliced (match u with|.slice A _ _=>A|_=>none) l hh (match u with|.slice _ _ c=>c|_=>0) (P.cellsOf e)) v)->
   Ce P o a w (Cf P B io w a.tmps s U fl k v s):=by
  intro u hu hr X3;obtain⟨A,len,cap,rfl,Yn,Fj,C6⟩:=hr.slice h2 h1 BW;exact fin A len cap hu Yn Fj (X3 C6)
 generalize hq:a.eval x=q at hx;split at he
 .rename_i id off len V6
  simp only[AE] at he;subst he;rw[V6] at hx Wn;have Yn:rows.length=len:=by
   simp only[St.rowsOf] at Wn;obtain⟨b,hb,Wn⟩:=A9.1 Wn;split at Wn
   .rename_i hc
    simp only[AE] at Wn;rw[<-Wn];simp;omega
   .cases Wn
  cases hx with
  | @sle _ A _ hU=>
   have e0:hh=0:=by omega
   have e1:l=0:=by omega
   subst e0;subst e1;refine fin A 0 0 hq Yn.symm (B4 _) ?_;simp only[sliced,if_true,Nat.sub_zero];exact .sle hU
  | @sl _ g o0 c sz _ _ hU hoc=>
   refine fin _ len (c - off) hq Yn.symm (by omega) ?_;by_cases Qd:c - off=l
   .have:hh - l=0:=by omega
    simp only[sliced,Ah Qd,this,Qd,Nat.sub_self];exact .sle (by rw[hU];rfl)
   .by_cases Iu:rows=[]
    .subst Iu
     have e0:hh=0:=by simpa using h2
     have e1:l=0:=by omega
     subst e0;subst e1;simp only[sliced,Ai Qd,D8,fG,Nat.sub_zero,H6,GW];exact .sl hU (by omega)
    .have Ww:sz=P.cellsOf e:=by
      simp only[St.rowsOf] at Wn;obtain⟨b,hb,Wn⟩:=A9.1 Wn;split at Wn
      .rename_i hc
       simp only[AE] at Wn;have hB:=h.heap id b hb;rw[hU] at hB;have KA:∀r∈b.rows,r.length=sz:=by
        unfold Xq at hB;rw[hc.1] at hB;generalize b.own=ow at hB;cases ow with
        | true=>
         rcases hB with⟨Y2,_⟩|⟨g',fL,c',cur,Y2,hg,fM,hm,Ck,Pd,fp,CR,h1,h2⟩
         .cases Y2
         .cases Y2;exact Ck
        | false=>
         obtain⟨_,hB⟩:=hB;rcases hB with⟨Y2,_⟩|⟨g',fL,c',Cs,Y2,Ck,hr⟩
         .cases Y2
         .cases Y2;exact Ck
       obtain⟨r0,N5⟩:=List.exists_mem_of_ne_nil rows Iu;have SR:r0∈b.rows:=by rw[<-Wn] at N5;exact FV (FW N5)
       rw[<-KA r0 SR,BW r0 N5]
      .cases Wn
     subst Ww;simp only[sliced,Ai Qd,D8,H6];have:=En.sl (w:=w) (ok:=AH s U w) (off:=off+l) (len:=hh - l) hU (by omega);rw[Nat.add_mul,<-Nat.add_assoc] at this;rw[show c - off - l=c - (off+l) by omega];exact this
 .rename_i Bt V6
  simp only[AE] at he;subst he;rw[V6] at hx Wn;simp only[St.rowsOf,AE] at Wn;subst Wn;cases hx with|tr hr=>exact tree hq hr (λh=>.tr h)
 .rename_i Bt V6
  simp only[AE] at he;subst he;rw[V6] at hx Wn;simp only[St.rowsOf,AE] at Wn;subst Wn;cases hx with|vw hr=>exact tree hq hr (λh=>.vw h)
 .cases he
end
theorem Yv3 {off:Nat}:∀(l:List Value) (k:Nat) (cs:Array Value),off+k+l.length<=cs.size->
  ((l.zipIdx k).foldl (λcs (p:Value×Nat)=>cs.setIfInBounds (off+p.2) p.1) cs).size=cs.size/\
  ∀j,((l.zipIdx k).foldl (λcs (p:Value×Nat)=>cs.setIfInBounds (off+p.2) p.1) cs)[j]?=if off+k<=j/\j < off+k+l.length then l[j - (off+k)]? else cs[j]?:=by
 intro l
 induction l with
 | nil=>intro k cs _;refine⟨rfl,λj=>?_⟩;rw[Ai (λhc=>by have:=hc.2;simp only[Bq] at this;omega)];rfl
 | cons v l ih=>
  intro k cs h;simp only[AV] at h;obtain⟨h1,h2⟩:=ih (k+1) (cs.setIfInBounds (off+k) v) (by simp;omega);refine⟨by simpa using h1,λj=>?_⟩;have:=h2 j;simp only[List.zipIdx_cons,H2];rw[this];by_cases hj:j=off+k
  .subst hj
   rw[Ai (by omega),Ah (by simp),eM,Ah rfl,Ah (by omega)];simp
  .by_cases hc:off+(k+1)<=j/\j < off+(k+1)+l.length
   .rw[Ah hc,Ah (by simp;omega)]
    obtain⟨m,hm⟩:∃m,j - (off+k)=m+1:=⟨j - (off+k) - 1,by omega⟩;rw[hm,Vea]
    congr 1;omega
   .rw[Ai hc,Ai (by simp;omega),eM,Ai (by omega)]
theorem Y9v {off:Nat} (vs cs:Array Value) (h:off+vs.size<=cs.size):
  (vs.zipIdx.foldl (λcs (c,j)=>cs.setIfInBounds (off+j) c) cs).size=cs.size/\
  ∀j,(vs.zipIdx.foldl (λcs (c,j)=>cs.setIfInBounds (off+j) c) cs)[j]?=if off<=j/\j < off+vs.size then vs[j - off]? else cs[j]?:=by
 have h0:=Yv3 (off:=off) vs.toList 0 cs (by simpa using h);have e:vs.zipIdx.foldl (λcs (c,j)=>cs.setIfInBounds (off+j) c) cs=(vs.toList.zipIdx 0).foldl (λcs (p:Value×Nat)=>cs.setIfInBounds (off+p.2) p.1) cs:=by
  rw[<-Array.foldl_toList];simp
 rw[e];refine⟨h0.1,λj=>?_⟩;rw[h0.2 j];simp
section
variable {P:Program} {w:World} {ok:Nat->Prop} {U:AY}
theorem Y0j (place:Nat->Option (Nat×Nat)):∀(ps:List (Nat×Value×V)) (C:Array Value) (X X':List V),C.size=X.length->
  (∀(j:Nat) (u:Value) (x:V),C[j]?=some u->X[j]?=some x->En w ok U u x)->(∀x∈X,AF x=true)->(∀p∈ps,En w ok U p.2.1 p.2.2)->
  HX P place X (ps.map λp=>(p.1,p.2.2))=some X'->
  ∃C',Instr.fill place C (ps.map λp=>(p.1,p.2.1))=some C'/\C'.size=X'.length/\X'.length=X.length/\(∀(j:Nat) (u:Value) (x:V),C'[j]?=some u->X'[j]?=some x->En w ok U u x)/\∀x∈X',AF x=true:=by
 intro ps
 induction ps with
 | nil=>
  intro C X X' hs hR hc _ hf;simp only[GX,HX,AE] at hf;subst hf;exact⟨C,rfl,hs,rfl,hR,hc⟩
 | cons p ps ih=>
  intro C X X' hs hR hc hp hf;obtain⟨i,u,x⟩:=p;simp only[C7,HX] at hf;obtain⟨⟨off,sz⟩,N6,hf⟩:=A9.1 hf;obtain⟨cs,BO,hf⟩:=A9.1 hf;split at hf
  case isFalse=>cases hf
  rename_i V7;obtain⟨gC,LU⟩:=V7;have gC:cs.length=sz:=gC;have LU:off+sz<=X.length:=LU;simp only at hf;obtain⟨h1,h2,h3⟩:=fS (show En w ok U u x from hp (i,u,x) BJ) BO;have hpf:=Y9v (off:=off) u.cells C (by omega);obtain⟨C',V8,r1,r2,r3,r4⟩:=ih (u.cells.zipIdx.foldl (λcs (c,j)=>cs.setIfInBounds (off+j) c) C) (Dg X off cs) X' (by rw[hpf.1,Vl (by omega),hs]) (λj v y hv hy=>by
   rw[hpf.2 j] at hv;rcases fT (by omega) hy with⟨g1,g2,g3⟩|⟨g1,g2⟩
   .rw[Ah (by omega)] at hv
    exact h3 _ v y hv g3
   .rw[Ai (by omega)] at hv
    exact hR j v y hv g2) (λy hy=>by
   obtain⟨m,hm⟩:=H0 hy;rcases fT (by omega) hm with⟨_,_,g3⟩|⟨_,g2⟩
   .exact h2 y (Ep g3)
   .exact hc y (Ep g2)) (λq hq=>hp q (Co _ hq)) hf
  refine⟨C',?_,r1,by rw[r2,Vl (by omega)],r3,r4⟩;simp only[C7,Instr.fill,N6];rw[Ai]
  .exact V8
  .simp only[Nj,Bj,ne_eq]
   omega
end
section
variable {P:Program} {B:Nat} {io:Nat->Prop} {w:World} {a:Act} {s:St} {U:AY} {F:Id->List Nat} {fl:List Nat} {k:Nat} {o:Oper} {v:V}
theorem gD {t:TypeId} {z:List V} (h:EZ P t=some z):∃ti zv,P.info? t=some ti/\ti.zero=some zv/\z=zv.cells.toList.map .lit/\∀u∈zv.cells.toList,J8 u=true:=by
 unfold EZ at h;obtain⟨zv,Fi,hz⟩:=A9.1 h;obtain⟨ti,CN,Xf⟩:=A9.1 Fi;split at hz
 .rename_i K1
  simp only[AE] at hz;exact⟨ti,zv,CN,Xf,hz.symm,λu hu=>Cb.1 K1 u hu⟩
 .cases hz
theorem Y03 {ok:Nat->Prop} {C:Array Value} (hs:∀u∈C.toList,J8 u=true):∀(j:Nat) (u:Value) (x:V),C[j]?=some u->(C.toList.map V.lit)[j]?=some x->En w ok U u x:=by
 intro j u x hu hx;simp only[Dt,AL] at hx;obtain⟨y,hy,rfl⟩:=hx;have:u=y:=by
  have h1:C.toList[j]?=some u:=by simpa using hu
  rw[h1] at hy;injection hy
 subst this;exact .lit (hs u (Ep hy))
theorem Yx3:∀(fs:List Field),fs.all (λf=>(P.info? f.type).isSome)=true->fs.mapM (λf=>(P.info? f.type).map λi=>(f.offset,i.size))=some (fs.map λf=>(f.offset,P.cellsOf f.type)):=by
 intro fs
 induction fs with
 | nil=>intro _;rfl
 | cons f fs ih=>
  intro h;simp only[DT,Bg] at h;obtain⟨i,hi⟩:=EW.1 h.1;simp[List.mapM_cons,hi,ih h.2,Program.cellsOf]
theorem Y9f (h:Rel P B io w a.tmps s U F fl) {t:TypeId} {parts:Array (Nat×Operand)} {fs:Array Field} {z cs:List V} (ho:o.op=.build t parts) (hz:EZ P t=some z) (hu:P.underlying t=some (.struct fs))
  (K1:fs.toList.all (λf=>(P.info? f.type).isSome)=true)
  (hf:HX P (λi=>(fs[i]?).map λf=>(f.offset,P.cellsOf f.type)) z (parts.toList.map λp=>(p.1,s.AP p.2))=some cs):Ce P o a w (Cf P B io w a.tmps s U fl k (.agg cs) s):=by
 obtain⟨ti,zv,CN,Fi,rfl,Hc⟩:=gD hz;obtain⟨C',V8,r1,r2,r3,r4⟩:=Y0j (P:=P) (w:=w) (ok:=AH s U w) (U:=U) (λi=>(fs[i]?).map λf=>(f.offset,P.cellsOf f.type)) (parts.toList.map λp=>(p.1,a.eval p.2,s.AP p.2)) zv.cells (zv.cells.toList.map .lit) cs (by simp)
  (Y03 Hc) (λx hx=>by obtain⟨u,_,rfl⟩:=Dx.1 hx;rfl) (λp hp=>by obtain⟨q,_,rfl⟩:=Dx.1 hp;exact h.AP q.2) (by simpa [OW] using hf)
 have hb:P.built t (parts.map λ(i,x)=>(i,a.eval x)).toList=some C':=by
  unfold Program.built;simp only[CN,hu,Fi,Yx3 fs.toList K1];rw[<-V8]
  congr 1
  .funext i;simp
  .simp[OW]
 refine .value (v:=.agg C') ?_ (.same h (.agg r1 r4 r3));have:=run_build (P:=P) w t _ C' hb;simp[execOp,ho,this]
end
theorem Y3u {sz:Nat}:∀(n:Nat) (l:List V),l.length=n*sz->(HY sz n l).flatten=l/\(∀r∈HY sz n l,r.length=sz)/\(HY sz n l).length=n:=by
 intro n
 induction n with
 | zero=>
      intro l h;have:l=[]:=Gt (by omega);subst this;exact⟨rfl,by simp[HY],rfl⟩
 | succ n ih=>
  intro l h;rw[JN] at h;obtain⟨h1,h2,h3⟩:=ih (l.drop sz) (by simp;omega);refine⟨by simp[HY,h1],λr hr=>?_,by simp[HY,h3]⟩;simp only[HY,Cj] at hr;rcases hr with rfl|hr
  .simp;omega
  .exact h2 r hr
theorem uU {α:Type} {l:List α} {n k:Nat} (hk:k < n*l.length):(List.replicate n l).flatten[k]?=l[k % l.length]?:=by
 have hl:0 < l.length:=by
  rcases tE l.length with h|h
  .rw[h] at hk;simp at hk
  .exact h
 have hi:k / l.length < n:=(Nat.div_lt_iff_lt_mul hl).2 hk;have hm:=Nat.mod_lt k hl;have h1:l[k % l.length]?=some (l[k % l.length]'hm):=CB hm;have:=SH (sz:=l.length) (rows:=List.replicate n l) (i:=k / l.length) (j:=k % l.length) (λr hr=>by rw[(L2.1 hr).2]) (by rw[Veb,Ah hi]) h1;rw[Nat.mul_comm,Nat.div_add_mod] at this;rw[this,h1]
theorem uV (z:Array Value) (n:Nat):(madeCells z (n*z.size)).toList=(List.replicate n z.toList).flatten:=by
 apply UL;intro k;by_cases hk:k < n*z.size
 .rw[uU (by simpa using hk)]
  have hz:0 < z.size:=by
   rcases tE z.size with h|h
   .rw[h] at hk;simp at hk
   .exact h
  have hm:=Nat.mod_lt k hz;simp[madeCells,hk,hm]
 .have h1:(List.replicate n z.toList).flatten.length=n*z.size:=by
   rw[H8 (sz:=z.size) (λr hr=>by rw[(L2.1 hr).2];simp)];simp
  rw[S9 (by simp[madeCells];omega),S9 (by rw[h1];omega)]
theorem B5.V9 {w:World}:∀(l:List Value),(∀u∈l,J8 u=true)->B5 w l ((l.map V.lit).map EF) []:=by
 intro l
 induction l with
 | nil=>intro _;exact .nil
 | cons u l ih=>
  intro h;have h1:Ow w u (EF (.lit u)) []:=by
   unfold EF;split
   .rename_i he;injection he with he;subst he;exact .emp
   .exact .lit (h u BJ)
  have:=B5.cons h1 (ih λu hu=>h u (Co _ hu));simpa using this
theorem B5.Fl {w:World} {l:List Value} (h:∀u∈l,J8 u=true) (n:Nat):B5 w (List.replicate n l).flatten (List.replicate n ((l.map V.lit).map EF)).flatten []:=by
 induction n with
 | zero=>exact .nil
 | succ n ih=>
  have:=(B5.V9 (w:=w) l h).append ih;simpa [List.replicate_succ] using this
section
variable {P:Program} {B:Nat} {io:Nat->Prop} {w w':World} {a:Act} {tmps:Array Value} {s s':St} {U U':AY} {F F':Id->List Nat} {fl fl':List Nat} {k:Nat} {o:Oper} {v:V}
theorem Yyl:∀(rows:List (List V)) {us:List Value} {s:St} {fl:List Nat} {Bt:List (List V)} {c:Bool} {s':St},Rel P B io w tmps s U F fl->us.length=rows.flatten.length->
  (∀(k:Nat) (u:Value) (x:V),us[k]?=some u->rows.flatten[k]?=some x->En w (AH s U w) U u x)->s.Bp rows=some (Bt,c,s')->
  ∃fp,Rel P B io w tmps s' U F (fp++fl)/\Bt.length=rows.length/\(∀sz,(∀r∈rows,r.length=sz)->∀r∈Bt,r.length=sz)/\us.length=Bt.flatten.length/\(c=true->B5 w us Bt.flatten fp)/\
   (∀(k:Nat) (u:Value) (y:V),us[k]?=some u->Bt.flatten[k]?=some y->Rd w (AH s' U w) u y)/\
   s'.env=s.env/\s'.ep=s.ep/\(∀id b,s'.heap id=some b->s.heap id=some b)/\(∀g,AH s U w g->AH s' U w g):=by
 intro rows
 induction rows with
 | nil=>
  intro us s fl Bt c s' h hl X3 hs;simp only[St.Bp,AE,A6] at hs;obtain⟨rfl,rfl,rfl⟩:=hs;have:us=[]:=Gt (by simpa using hl);subst this;exact⟨[],h,rfl,λ_ _ r hr=>by simp at hr,rfl,λ_=>.nil,λk u y hu=>by simp at hu,rfl,rfl,λ_ _ h=>h,λ_ h=>h⟩
 | cons row rows ih=>
  intro us s fl Bt c s' h hl X3 hs;simp only[St.Bp] at hs;obtain⟨⟨ys,c1,s1⟩,Cc,hs⟩:=A9.1 hs;obtain⟨⟨zs,c2,s2⟩,Dj,hs⟩:=AL.1 hs;simp only[A6] at hs;obtain⟨rfl,rfl,rfl⟩:=hs;simp only at Dj;simp only[DS,Cw] at hl;have P2:(us.take row.length).length=row.length:=by simp;omega
  have CJ:(us.drop row.length).length=rows.flatten.length:=by rw[eZ];omega
  have Ns:us.take row.length++us.drop row.length=us:=eT _ _;obtain⟨f1,g1,g2,g3,g4,g5,g6,g7,g8⟩:=Y0r row h P2 (λj u x hu hx=>X3 j u x (by
    rw[Df] at hu;split at hu
    .exact hu
    .cases hu) (by
    rw[DS,EV (CX.1 hx).1];exact hx)) Cc
  obtain⟨f2,k1,k2,k3,k4,k5,k6,k7,k8,k9,uW⟩:=ih g1 CJ (λj u x hu hx=>by
    rw[D7] at hu;have:=X3 (row.length+j) u x hu (by rw[DS,FD (by omega)];simpa using hx);exact (show En w (λg=>(¬AJ s U g)/\g < w.heap.size) U u x from this).C8 (.same (λg ht=>by
     obtain⟨Aw,b,o,c,sz,hb,ho,hU⟩:=ht;exact⟨Aw,b,o,c,sz,g7 Aw b hb,ho,hU⟩)) (λ_ _ h=>h)) Dj
  refine⟨f1++f2,k1.perm ?_,by simp[k2],λsz Ww r hr=>?_,by rw[DS,Cw,<-g2,<-k4,P2,CJ];exact hl,λhc=>?_,λj u y hu hy=>?_,k7.trans g5,k8.trans g6,λid b hb=>g7 id b (k9 id b hb),λg hg=>uW g (g8 g hg)⟩
  .rw[List.append_assoc]
   exact (OQ _ _ _)
  .rcases Cj.1 hr with rfl|hr
   .rw[<-g2,P2];exact Ww row BJ
   .exact k3 sz (λr hr=>Ww r (Co _ hr)) r hr
  .rw[Bg] at hc
   have:=(g3 hc.1).append (k5 hc.2);rw[Ns] at this;exact this
  .rw[DS] at hy
   by_cases hj:j < ys.length
   .rw[EV hj] at hy
    have:=g4 j u y (by rw[Df,Ah (by omega)];exact hu) hy;exact this.mono (λ_ _ _=>rfl) uW
   .rw[FD (by omega)] at hy
    exact k6 (j - ys.length) u y (by rw[D7,show row.length+(j - ys.length)=j by omega];exact hu) hy
theorem uX {r:List Nat} {s1:St} (h:Rel P B io w a.tmps s1 U F (r++fl)) (CO:s1.env=s.env) (DU:s1.ep=s.ep) {id:Id} (Zu:U id=none) (Yk:id.1=s.ep) (hk:id.2 / 1024=k) {C:Array Value} {rows:List (List V)} {e:TypeId} {cl:Bool} {n:Nat}
  (hn:rows.length=n) (hm:n<=maxLen) (hu:∀q∈rows,q.length=P.cellsOf e)
  (Yn:C.size=rows.length*P.cellsOf e) (h1:cl=true->B5 w C.toList rows.flatten r) (h2:cl=false->r=[]/\∀(k:Nat) (x:V),rows.flatten[k]?=some x->∃v,C.toList[k]?=some v/\Rd w (AH s1 U w) v x):
  Cf P B io w a.tmps s U fl k (.sl id 0 n) (s1.A5 id ⟨false,true,cl,e,rows⟩) (.slice (some ⟨w.heap.size,0,none⟩) n n) (w.alloc (.cells C e)):=by
 subst hn;have hR:=h.grown (w':=w.alloc (.cells C e)) (c:=rows.length) (us:=C.toList) (zs:=[]) (e:=e) (cl:=cl) Zu (by rw[DU];exact Yk) (SK w _) (λg hg=>Below.heap_alloc w _ g hg) (by
  have:=fQ w (.cells C e);simpa using this) (B4 _) hm hu (by simpa using Yn) (by simpa using Yn) h1 h2
 refine⟨CO,DU,(J6.refl B io w).alloc h.base _,_,_,hR,?_,Et Zu,SO Yk hk⟩;have:=En.sl (w:=w.alloc (.cells C e)) (ok:=AH (s1.A5 id ⟨false,true,cl,e,rows⟩) (Bi U id (some (.Bl w.heap.size 0 rows.length (P.cellsOf e)))) (w.alloc (.cells C e)))
  (off:=0) (len:=rows.length) (Z7 U id (some (.Bl w.heap.size 0 rows.length (P.cellsOf e)))) (by omega)
 simpa using this
theorem Yq3 (h:Rel P B io w a.tmps s U F fl) {t e:TypeId} {n:Nat} {parts:Array (Nat×Operand)} {z cs:List V} {rows:List (List V)} {c:Bool} {s1:St} (ho:o.op=.buildSlice t n parts) (Qt:Qo P t=some e) (hz:(if n*Z2 P e=0 then some [] else EZ P e)=some z)
  (Ww:Z2 P e≠0) (hle:n*Z2 P e<=1048576) (LS:LD P e=true) (hf:HX P (λi=>some (i*Z2 P e,Z2 P e)) (List.replicate n z).flatten (parts.toList.map λp=>(p.1,s.AP p.2))=some cs)
  (hs:s.Bp (HY (Z2 P e) n cs)=some (rows,c,s1)) {id:Id} (Zu:U id=none) (Yk:id.1=s.ep) (hk:id.2 / 1024=k):
  Ce P o a w (Cf P B io w a.tmps s U fl k (.sl id 0 n) (s1.A5 id ⟨false,true,c,e,rows⟩)):=by
 have ht:=LH Qt;have Vz:n≠0->EZ P e=some z:=λhn=>by
  split at hz
  .rename_i h0;exact absurd h0 (Nat.mul_ne_zero hn Ww)
  .exact hz
 simp only[Z2] at Ww hle hf hs;have key:∃C',(Instr.buildSlice t n (parts.map λ(i,x)=>(i,a.eval x))).run P w=.ok (.slice (some ⟨w.heap.size,0,none⟩) n n) (w.alloc (.cells C' e))/\C'.size=cs.length/\cs.length=n*P.cellsOf e/\
   (∀(j:Nat) (u:Value) (x:V),C'[j]?=some u->cs[j]?=some x->En w (AH s U w) U u x):=by
  obtain⟨ti,CN,P5⟩:∃ti,P.info? e=some ti/\ti.size=P.cellsOf e:=by
   unfold Program.cellsOf at Ww ⊢;cases hq:P.info? e with
   | none=>rw[hq] at Ww;simp at Ww
   | some ti=>exact⟨ti,rfl,rfl⟩
  by_cases hn:n=0
  .subst hn
   have hpe:(List.replicate 0 z).flatten=[]:=rfl;rw[hpe] at hf;have Iu:parts.toList=[]/\cs=[]:=by
    cases hp:parts.toList with
    | nil=>rw[hp] at hf;simp[HX] at hf;exact⟨rfl,hf⟩
    | cons p ps=>
     rw[hp] at hf;simp only[C7,HX,Ag] at hf;obtain⟨G6,_,hf⟩:=A9.1 hf;split at hf
     .rename_i hc;simp only[Bq] at hc;omega
     .cases hf
   obtain⟨hp,rfl⟩:=Iu;refine⟨#[],?_,rfl,by simp,λj u x hu=>by simp at hu⟩;have hpa:parts=#[]:=by apply UX;simpa using hp
   subst hpa;simp[Instr.buildSlice,run_underlying ht,sizeOf,typeInfo,CN,P5,Instr.fill,newRow,Array.range_zero']
  .have hnz:n*P.cellsOf e≠0:=Nat.mul_ne_zero hn Ww
   obtain⟨ti',zv,gE,Fi,rfl,Hc⟩:=gD (Vz hn);rw[CN] at gE;injection gE with gE;subst gE;have Dy:zv.cells.size=P.cellsOf e:=by
    unfold LD at LS;rw[CN] at LS;simp only[Ag,Fi] at LS;simpa using LS
   have uY:(List.replicate n (zv.cells.toList.map V.lit)).flatten.length=n*P.cellsOf e:=by
    rw[H8 (sz:=P.cellsOf e) (λr hr=>by rw[(L2.1 hr).2];simp[Dy])];simp
   obtain⟨C',V8,r1,r2,r3,r4⟩:=Y0j (P:=P) (w:=w) (ok:=AH s U w) (U:=U) (λi=>some (i*P.cellsOf e,P.cellsOf e)) (parts.toList.map λp=>(p.1,a.eval p.2,s.AP p.2)) (madeCells zv.cells (n*zv.cells.size)) _ cs (by rw[size_madeCells,uY,Dy])
    (λj u x hu hx=>by
     have Z6:=(CX.1 hx).1;rw[uY] at Z6;have Ck:(madeCells zv.cells (n*zv.cells.size)).toList[j]?=some u:=by simpa using hu
     rw[uV,uU (by simpa [Dy] using Z6)] at Ck;rw[uU (by simpa [Dy] using Z6)] at hx;simp only[JL] at hx;have:=Y03 (w:=w) (ok:=AH s U w) (U:=U) Hc (j % zv.cells.toList.length) u x (by simpa using Ck) hx;exact this) (λx hx=>by
     obtain⟨r,hr,hx⟩:=e9.1 hx;rw[(L2.1 hr).2] at hx;obtain⟨u,_,rfl⟩:=Dx.1 hx;rfl) (λp hp=>by obtain⟨q,_,rfl⟩:=Dx.1 hp;exact h.AP q.2) (by simpa [OW] using hf)
   refine⟨C',?_,r1,by rw[r2,uY],r3⟩;refine run_buildSlice w t e n _ C' ti zv ht CN Fi (by rw[P5];omega) (by rw[P5];exact hnz) ?_;rw[<-V8,P5,<-Dy]
   congr 1
   simp[OW]
 obtain⟨C',Xu,uZ,Qd,X3⟩:=key;obtain⟨c1,c2,c3⟩:=Y3u n cs Qd;obtain⟨fp,k1,k2,k3,k4,k5,k6,k7,k8,k9,uW⟩:=Yyl (us:=C'.toList) _ h (by rw[c1];simpa using uZ) (λj u x hu hx=>X3 j u x (by simpa using hu) (by rw[c1] at hx;exact hx)) hs;have Di:rows.length=n:=by rw[k2,c3]
 refine .value (v:=.slice (some ⟨w.heap.size,0,none⟩) n n) (w':=w.alloc (.cells C' e)) (by simp[execOp,ho,Xu]) ?_;have Vy:n<=maxLen:=by
  have:n<=n*P.cellsOf e:=Nat.le_mul_of_pos_right _ (tD Ww);unfold maxLen;omega
 cases c with
 | true=>exact uX k1 k7 k8 Zu Yk hk Di Vy (k3 _ c2) (by rw[Di,uZ,Qd]) (λ_=>k5 rfl) (λhf=>by cases hf)
 | false=>
  refine uX (r:=[]) (k1.less (HT _ _)) k7 k8 Zu Yk hk Di Vy (k3 _ c2) (by rw[Di,uZ,Qd]) (λhf=>by cases hf) (λ_=>⟨rfl,λj x hx=>?_⟩);have Z6:=(CX.1 hx).1;have hu:C'.toList[j]?=some (C'.toList[j]'(by omega)):=CB (by omega);exact⟨_,hu,k6 j _ x hu hx⟩
theorem Ytf (h:Rel P B io w a.tmps s U F fl) {t e:TypeId} {l c:Operand} {n:Nat} {z:List V} (ho:o.op=.makeSlice t l c) (Qt:Qo P t=some e) (hz:EZ P e=some z) (hl:Wv (s.AP l)=some n) (hc:Wv (s.AP c)=some n)
  (P0:n*P.bytesOf e<=70368744177664) (h63:n<=9223372036854775807) (Iv:z.length=Z2 P e) (Ww:Z2 P e≠0) {id:Id} (Zu:U id=none) (Yk:id.1=s.ep) (hk:id.2 / 1024=k):
  Ce P o a w (Cf P B io w a.tmps s U fl k (.sl id 0 n) (s.A5 id ⟨false,true,true,e,List.replicate n (z.map EF)⟩)):=by
 have ht:=LH Qt;obtain⟨ti,zv,CN,Fi,rfl,Hc⟩:=gD hz;simp only[Z2] at Iv Ww;have Dy:zv.cells.size=P.cellsOf e:=by simpa using Iv
 have P5:ti.size=P.cellsOf e:=by simp[Program.cellsOf,CN]
 have hbi:ti.bytes=P.bytesOf e:=by simp[Program.bytesOf,CN]
 obtain⟨kl,hl⟩:=Vg (h.AP l) hl;obtain⟨kc,hc⟩:=Vg (h.AP c) hc;have Ew:(ti.bytes:Int)*(n:Int)<=281474976710656:=by
  rw[hbi];have h1:=Nat.mul_comm n (P.bytesOf e);have h2:((P.bytesOf e*n:Nat):Int)<=281474976710656:=by omega
  rwa [Int.natCast_mul] at h2
 have Xu:=run_make (P:=P) w t e ti zv ht CN Fi kl kc n n (by omega) (LA _) Ew (by omega);simp only[Nh] at Xu;refine .value (v:=.slice (some ⟨w.heap.size,0,none⟩) n n) (w':=w.alloc (.cells (madeCells zv.cells (n*ti.size)) e)) (by simp[execOp,ho,hl,hc,Xu]) ?_;have Qd:(madeCells zv.cells (n*ti.size)).toList=(List.replicate n zv.cells.toList).flatten:=by rw[P5,<-Dy];exact uV _ _
 exact uX (r:=[]) h rfl rfl Zu Yk hk (by simp) (by unfold maxLen;omega) (λq hq=>by rw[(L2.1 hq).2];simp[Dy]) (by rw[size_madeCells];simp[P5]) (λ_=>by rw[Qd];exact B5.Fl Hc n) (λhf=>by cases hf)
end
section
variable {P:Program} {B:Nat} {io:Nat->Prop} {w w':World} {a:Act} {tmps:Array Value} {s s':St} {U U':AY} {F F':Id->List Nat} {fl fl':List Nat} {k:Nat} {o:Oper} {v:V}
theorem Y2v {u:Value} (h:J8 u=true):u.oneCell'=true:=by
 cases u<;>simp_all [J8,Value.oneCell']
theorem Y48 {id:Id} {b:Bd} (h:s.heap id=some b):s.A5 id b=s:=by
 unfold St.A5
 congr 1
 funext x
 unfold Bi;split
 .rename_i e;rw[e,h]
 .rfl
theorem Y9t (h:Rel P B io w a.tmps s U F fl) {t e:TypeId} {x:Operand} {id:Id} {off n:Nat} {b:Bd} {z:List V} (ho:o.op=.call {callee:=.builtin .clear,args:=#[x],argTypes:=#[t]}) (Qt:Qo P t=some e) (hz:EZ P e=some z) (hx:s.AP x=.sl id off n)
  (hb:s.heap id=some b) (Yv:b.own=true) (Xl:b.box=false) (Yn:off+n<=b.rows.length) (Pz:b.el=e) (Iv:z.length=Z2 P e) (Ww:Z2 P e≠0):
  Ce P o a w (Cf P B io w a.tmps s U fl k (.AW []) (s.A5 id {b with rows:=b.rows.take off++List.replicate n (z.map EF)++b.rows.drop (off+n)})):=by
 have ht:=LH Qt;obtain⟨ti,zv,CN,Fi,rfl,Hc⟩:=gD hz;simp only[Z2] at Iv Ww;have Dy:zv.cells.size=P.cellsOf e:=by simpa using Iv
 have Eu:=h.AP x;rw[hx] at Eu;generalize hq:a.eval x=q at Eu;have Xx:n=0->(∃A c,q=.slice A 0 c)->Ce P o a w (Cf P B io w a.tmps s U fl k (.AW []) (s.A5 id {b with rows:=b.rows.take off++List.replicate n (zv.cells.toList.map V.lit |>.map EF)++b.rows.drop (off+n)})):=by
  rintro rfl ⟨A,c,rfl⟩;have VA:({b with rows:=b.rows.take off++List.replicate 0 (zv.cells.toList.map V.lit |>.map EF)++b.rows.drop (off+0)}:Bd)=b:=by simp
  rw[VA,Y48 hb];refine .value (v:=.tuple #[]) (w':=w) ?_ (.same h (.AW (by simp) (λk v x hv=>by simp at hv)));cases A<;>simp[execOp,ho,resolve,invoke,builtin,hq,Builtin.clear_,run_underlying ht]
 cases Eu with
 | @sle _ A _ hU=>exact Xx rfl ⟨A,0,rfl⟩
 | @sl _ g o0 c sz _ _ hU hoc=>
  by_cases hn:n=0
  .subst hn;exact Xx rfl ⟨_,_,rfl⟩
  have hB:=h.heap id b hb;rw[hU] at hB;unfold Xq at hB;rw[Xl,Yv] at hB;rcases hB with⟨Y2,_⟩|⟨g',o',c',cur,Y2,hg,hl,hm,BW,Vz,fp,CR,h1,h2⟩
  .cases Y2
  .cases Y2
   subst Pz
   let us:=(List.replicate n zv.cells.toList).flatten
   let ys:=(List.replicate n ((zv.cells.toList.map V.lit).map EF)).flatten
   have VB:us=(List.replicate n zv.cells.toList).flatten:=rfl;have u0:ys=(List.replicate n ((zv.cells.toList.map V.lit).map EF)).flatten:=rfl;have Pf:us.length=n*P.cellsOf b.el:=by rw[VB,H8 (sz:=P.cellsOf b.el) (λr hr=>by rw[(L2.1 hr).2];simp[Dy])];simp
   have SL:ys.length=n*P.cellsOf b.el:=by rw[u0,H8 (sz:=P.cellsOf b.el) (λr hr=>by rw[(L2.1 hr).2];simp[Dy])];simp
   have hO0:∀{w:World},B5 w us ys []:=B5.Fl Hc n;have u1:∀u∈us,u.oneCell'=true:=λu hu=>by
    obtain⟨r,hr,hu⟩:=e9.1 hu;rw[(L2.1 hr).2] at hu;exact Y2v (Hc u hu)
   have hrc:b.rows.length*P.cellsOf b.el<=c*P.cellsOf b.el:=Nf _ hl;have hon:(off+n)*P.cellsOf b.el<=b.rows.length*P.cellsOf b.el:=Nf _ Yn;rw[Nat.add_mul] at hon;have Fk:=run_storeCells_at P g (o0+off*P.cellsOf b.el) b.el us 0 cur w hg (by omega) u1;simp only[GW] at Fk;generalize Y7:(cur.toList.take (o0+off*P.cellsOf b.el)++us++cur.toList.drop (o0+off*P.cellsOf b.el+us.length)).toArray=new at Fk;have Xu:(execOp a.eval o).run P w=.ok (.value (.tuple #[])) (w.setRow g new):=by
    have hzt:(Builtin.zeroCells zv.cells n).toList=us:=by rw[VB];exact uV zv.cells n
    have hnn:n≠0:=hn;cases n with
    | zero=>exact absurd rfl hn
    | succ n=>simp[execOp,ho,resolve,invoke,builtin,hq,Builtin.clear_,run_underlying ht,zeroValue,typeInfo,CN,Fi,hzt,Fk]
   have JW:new.size=cur.size:=by rw[<-Y7];simp;omega
   have LO:∀k',k'≠g->(w.setRow g new).heap[k']?=w.heap[k']?:=λk' W2=>setRow_other w g k' _ W2;have N0:∀m,new[o0+m]?=if off*P.cellsOf b.el<=m/\m < off*P.cellsOf b.el+us.length then us[m - off*P.cellsOf b.el]? else cur[o0+m]?:=by
    intro m;rw[<-Y7];have:=Nv (cur:=cur.toList) (n:=o0+off*P.cellsOf b.el) (vs:=us) (by simp;omega) (j:=o0+m);rw[eQ,this];by_cases hc:off*P.cellsOf b.el<=m/\m < off*P.cellsOf b.el+us.length
    .rw[Ah (by omega),Ah hc];congr 1;omega
    .rw[Ai (by omega),Ai hc];simp
   have Nz:=H8 BW;have SM:(b.rows.take off++List.replicate n ((zv.cells.toList.map V.lit).map EF)++b.rows.drop (off+n)).flatten=b.rows.flatten.take (off*P.cellsOf b.el)++ys++b.rows.flatten.drop (off*P.cellsOf b.el+ys.length):=by
    rw[List.flatten_append,List.flatten_append,uB off BW,SL,<-Nat.add_mul,Vj (off+n) BW]
   have Pu:∀r'∈b.rows.take off++List.replicate n ((zv.cells.toList.map V.lit).map EF)++b.rows.drop (off+n),r'.length=P.cellsOf b.el:=λr' Ch=>by
    rcases BT.1 Ch with h4|h4
    .rcases BT.1 h4 with h4|h4
     .exact BW r' (FW h4)
     .rw[(L2.1 h4).2];simp[Dy]
    .exact BW r' (FV h4)
   have Pv:(b.rows.take off++List.replicate n ((zv.cells.toList.map V.lit).map EF)++b.rows.drop (off+n)).length=b.rows.length:=by simp;omega
   have Fg:(new.toList.drop o0).take (b.rows.length*P.cellsOf b.el)=((cur.toList.drop o0).take (b.rows.length*P.cellsOf b.el)).take (off*P.cellsOf b.el)++us++((cur.toList.drop o0).take (b.rows.length*P.cellsOf b.el)).drop (off*P.cellsOf b.el+us.length):=by
    apply UL;intro m;rw[Nv (by simp;omega),Df,Df,D7,D7];have hm:=N0 m;simp only[eS];rw[hm];by_cases hc:off*P.cellsOf b.el<=m/\m < off*P.cellsOf b.el+us.length
    .rw[Ah hc,Ah hc,Ah (by omega)]
    .rw[Ai hc,Ai hc]
   have Ip:g ∉ fp:=by
    have:=h.once id b hb Yv;rw[CR] at this;exact (ED.1 this).1
   let b':Bd:={b with rows:=b.rows.take off++List.replicate n ((zv.cells.toList.map V.lit).map EF)++b.rows.drop (off+n)}
   have X8:AJ s U g:=⟨id,b,_,_,_,hb,Yv,hU⟩;have Eh:∀{u:Value} {z:V},Rd w (AH s U w) u z->Rd (w.setRow g new) (AH (s.A5 id b') U (w.setRow g new)) u z:=λhu=>
    hu.mono (λg' Yd _=>LO g' (λe=>Yd.1 (e▸X8))) (λg' Yd=>⟨λht=>Yd.1 ((fU (b':=b') hb rfl g').1 ht),by simpa using Yd.2⟩)
   have fin:∀(Fs:List Nat),(∃r',Fs=g::r')->(∀k'∈Fs,k'∈F id)->Fs.Nodup->
     Xq P (w.setRow g new) (AH (s.A5 id b') U (w.setRow g new)) U (some (.Bl g o0 c (P.cellsOf b.el))) Fs b'->
     Ce P o a w (Cf P B io w a.tmps s U fl k (.AW []) (s.A5 id b')):=by
    intro Fs Ps Hd Ct uE;obtain⟨w1,w2,w3⟩:=h.write (b':=b') (Fs:=Fs) (fl':=fl) (new:=new) hb Yv Yv hU hg ⟨fp,CR⟩ Ps (λk hk=>.inl (Hd k hk)) Ct (λ_ h=>h) h.AT (λk' W2=>h.A7 id b hb Yv k' (Hd k' W2)) (by omega) uE;exact .value Xu ⟨rfl,rfl,w2,U,Bi F id Fs,w1,.AW (by simp) (λk v x hv=>by simp at hv),λ_ _ h=>h,λ_ h=>.inl h⟩
   show Ce P o a w (Cf P B io w a.tmps s U fl k (.AW []) (s.A5 id b'));cases Qd:b.cl with
   | true=>
    have uF:=(h1 Qd).frame (w':=w.setRow g new) (λk' W2=>LO k' (λe=>Ip (e▸W2)));obtain⟨f',hO,N1,uG⟩:=uF.put (hO0 (w:=w.setRow g new)) (off*P.cellsOf b.el);rw[<-Fg,show us.length=ys.length by omega,<-SM] at hO;have Ct:=h.once id b hb Yv;rw[CR] at Ct;have VC:∀k'∈f',k'∈fp:=λk' W2=>by
     rcases N1 k' W2 with h4|h4
     .exact h4
     .simp at h4
    refine fin (g::f') ⟨f',rfl⟩ (λk' W2=>?_) (ED.2 ⟨λhf=>Ip (VC g hf),uG (by simpa using (ED.1 Ct).2)⟩) (.Cq (fp:=f') Xl Yv rfl (setRow_heap w g cur new _ _ hg) (by show (b'.rows).length<=c;simp only[b'];rw[Pv];exact hl) hm Pu (by rw[JW];exact Vz) rfl (λ_=>by simp only[b'];rw[Pv];exact hO) (λhf=>by simp[b',Qd] at hf));rw[CR];rcases Cj.1 W2 with rfl|W2
    .exact BJ
    .exact Co _ (VC k' W2)
   | false=>
    refine fin [g] ⟨[],rfl⟩ (λk' W2=>by rw[List.mem_singleton.1 W2,CR];exact BJ) (by simp) (.Cq (fp:=[]) Xl Yv rfl (setRow_heap w g cur new _ _ hg) (by show (b'.rows).length<=c;simp only[b'];rw[Pv];exact hl) hm Pu (by rw[JW];exact Vz) rfl (λhf=>by simp[b',Qd] at hf) (λ_=>⟨rfl,λm z Hf=>?_⟩));simp only[b'] at Hf;rw[SM,Nv (by rw[Nz];omega)] at Hf;rw[N0 m,show us.length=ys.length by omega];split at Hf
    .rename_i hc
     rw[Ah hc];obtain⟨u,hu,hr⟩:=(hO0 (w:=w)).rd (ok:=AH s U w) (λg hg=>by simp at hg) Hf;exact⟨u,hu,Eh hr⟩
    .rename_i hc
     rw[Ai hc];obtain⟨u,hu,hr⟩:=(h2 Qd).2 m z Hf;exact⟨u,hu,Eh hr⟩
theorem Yyn:∀{rows:List (List V)} {bs:List UInt8},Nq rows=some bs->∃ns:List Int,rows=ns.map (λn=>[V.lit (.int .u8 n)])/\bs=ns.map λn=>UInt8.ofNat n.toNat:=by
 intro rows
 induction rows with
 | nil=>intro bs h;simp only[Nq,GX,SF,AE] at h;subst h;exact⟨[],rfl,rfl⟩
 | cons r rows ih=>
  intro bs h;simp only[Nq,C7] at h;split at h
  .rename_i n
   simp only[SF] at h;obtain⟨bs',hb,rfl⟩:=AL.1 h;obtain⟨ns,h1,h2⟩:=ih hb;exact⟨n::ns,by rw[h1];rfl,by rw[h2];rfl⟩
  .simp[SF] at h
theorem Y5y (ns:List Int) (s:ByteArray):ns.foldl (λr n=>r.push (UInt8.ofNat n.toNat)) s=⟨s.data++(ns.map λn=>UInt8.ofNat n.toNat).toArray⟩:=by
 induction ns generalizing s with
 | nil=>simp
 | cons n ns ih=>
  rw[H2,ih]
  congr 1
  apply UX;simp[ByteArray.push]
theorem Y9h (h:Rel P B io w a.tmps s U F fl) {src dst e:TypeId} {x:Operand} {rows:List (List V)} {bs:List UInt8} (ho:o.op=.convert src dst x) (hs:P.underlying src=some (.slice e)) (hd:P.underlying dst=some .string) (he:P.underlying e=some (.int .u8))
  (hr:s.rowsOf (s.AP x)=some rows) (hb:Nq rows=some bs):Ce P o a w (Cf P B io w a.tmps s U fl k (.lit (.string ⟨bs.toArray⟩)) s):=by
 obtain⟨ns,Wn,KA⟩:=Yyn hb;have Xu:(Conv.bytesToString (a.eval x)).run P w=.ok (.string ⟨bs.toArray⟩) w:=by
  have hu:=h.AP x;generalize a.eval x=u at hu;rcases uI h hu hr (sz:=1) (λq hq=>by
   rw[Wn] at hq;obtain⟨n,_,rfl⟩:=Dx.1 hq;rfl) with⟨rfl,A,c,rfl⟩|⟨us,hC⟩
  .have:ns=[]:=by cases ns with|nil=>rfl|cons n ns=>simp at Wn
   subst this;simp only[GX] at KA;subst KA;cases A with
   | none=>simp[Conv.bytesToString];rfl
   | some ad=>
    have:=run_bytesToString (P:=P) w ad 0 c [] (by simp[loadCells,loadCellsFrom]);rw[fE] at this;exact this
  .obtain⟨ad,c,rfl,hc⟩:=hC.val
   have u2:us=ns.map (Value.int .u8):=by
    apply UL;intro j;have Yn:us.length=ns.length:=by have:=hC.len;rw[Wn] at this;simpa using this
    by_cases hj:j < ns.length
    .have h1:rows.flatten[j]?=some (V.lit (.int .u8 ns[j])):=by
      rw[Wn];have:=SH (sz:=1) (rows:=ns.map λn=>[V.lit (.int .u8 n)]) (i:=j) (j:=0) (x:=V.lit (.int .u8 ns[j])) (λr hr=>by obtain⟨n,_,rfl⟩:=Dx.1 hr;rfl) (by rw[Dt,CB hj];rfl) rfl;simpa using this
     have u3:∃v,us[j]?=some v/\Rd w (AH s U w) v (V.lit (.int .u8 ns[j])):=by
      cases Qd:Fa rows with
      | true=>exact (hC.own Qd).rd (λg hg=>by simp at hg) h1
      | false=>exact (hC.see Qd).2 j _ h1
     obtain⟨v,hv,hr⟩:=u3;cases hr;rw[hv,Dt,CB hj];rfl
    .rw[S9 (by omega),S9 (by simp;omega)]
   have hld:(loadCells ad rows.length).run P w=.ok (ns.map (Value.int .u8)).toArray w:=by
    have:=run_loadCells_list (P:=P) (w:=w) ad us (λj u hj=>hc j u hj);rw[u2] at this;rw[Wn];simpa using this
   have:=run_bytesToString (P:=P) w ad rows.length c ns hld;rw[this,Y5y,KA];simp
 refine .value (v:=.string ⟨bs.toArray⟩) (w':=w) ?_ (.same h (.lit rfl));have P6:∃A n c,a.eval x=.slice A n c:=by
  have hu:=h.AP x;generalize a.eval x=u at hu;rcases uI h hu hr (sz:=1) (λq hq=>by
   rw[Wn] at hq;obtain⟨n,_,rfl⟩:=Dx.1 hq;rfl) with⟨_,A,c,rfl⟩|⟨us,hC⟩
  .exact⟨_,_,_,rfl⟩
  .obtain⟨ad,c,rfl,_⟩:=hC.val;exact⟨_,_,_,rfl⟩
 obtain⟨A,n,c,hq⟩:=P6;rw[hq] at Xu;simp[execOp,ho,hq,convert,run_underlying hs,run_underlying hd,run_underlying he,Xu]
def N7:BinOp->Bool|.neq=>true|_=>false
theorem gF (h:Rel P B io w a.tmps s U F fl) {op:BinOp} {t yt e:TypeId} {x y z:Operand} {rows:List (List V)} {r:List V} (ho:o.op=.binOp op t x y yt) (Qt:Qo P t=some e) (VD:op=.eql\/op=.neq)
  (hz:(z=x/\s.AP y=.lit (.slice none 0 0))\/(z=y/\s.AP x=.lit (.slice none 0 0))) (hr:s.rowsOf (s.AP z)=some (r::rows)) (he:v=.lit (.bool (N7 op))):
  Ce P o a w (Cf P B io w a.tmps s U fl k v s):=by
 have ht:=LH Qt;have Fi:∃ad n c,a.eval z=.slice (some ad) n c:=by
  have hR:=h.rowsOf (ok':=λg=>g < w.heap.size) (h.AP z) hr (λg hg=>hg.2) (λ_ _ _ _ _ _ _ _ _ _ _ _ hg _=>hg);generalize a.eval z=q at hR;cases hR with
  | tr=>exact⟨_,_,_,rfl⟩
 obtain⟨ad,n,c,Fi⟩:=Fi;have Iu:∀{y:Operand},s.AP y=.lit (.slice none 0 0)->a.eval y=.slice none 0 0:=λ{y} hy=>by
  have:=h.AP y;rw[hy] at this;generalize a.eval y=q at this;cases this;rfl
 subst he;refine .value (v:=.bool (N7 op)) (w':=w) ?_ (.same h (.lit rfl));have g1:∀d (u v:Value),(u=.slice (some ad) n c/\v=.slice none 0 0)\/(u=.slice none 0 0/\v=.slice (some ad) n c)->(Op.equalIn (d+1) t u v).run P w=.ok false w:=by
  rintro d u v (⟨rfl,rfl⟩|⟨rfl,rfl⟩)<;>simp[Op.equalIn,run_underlying ht]
 have g2:∀(u v:Value),(u=.slice (some ad) n c/\v=.slice none 0 0)\/(u=.slice none 0 0/\v=.slice (some ad) n c)->(Op.equal t u v).run P w=.ok false w:=λu v h=>g1 9999 u v h;have g3:∀(u v:Value) (x y:Operand),(u=.slice (some ad) n c/\v=.slice none 0 0)\/(u=.slice none 0 0/\v=.slice (some ad) n c)->(eqGuard op t x y u v).run P w=.ok () w:=by
  rintro u v x y (⟨rfl,rfl⟩|⟨rfl,rfl⟩)<;>rcases VD with rfl|rfl<;>simp[eqGuard]
 have g4:∀(u v:Value),(u=.slice (some ad) n c/\v=.slice none 0 0)\/(u=.slice none 0 0/\v=.slice (some ad) n c)->(binOp op t u v).run P w=.ok (.bool (N7 op)) w:=by
  intro u v h;have:=g2 u v h;rcases h with⟨rfl,rfl⟩|⟨rfl,rfl⟩<;>rcases VD with rfl|rfl<;>simp[binOp,this,N7]
 rcases hz with⟨rfl,hy⟩|⟨rfl,hx⟩
 .have hh:(a.eval z=.slice (some ad) n c/\a.eval y=.slice none 0 0)\/(a.eval z=.slice none 0 0/\a.eval y=.slice (some ad) n c):=.inl ⟨Fi,Iu hy⟩
  simp only[execOp,ho,Sem.run_bind,Sem.run_pure,Result.andThen_ok,g3 _ _ _ _ hh,g4 _ _ hh]
 .have hh:(a.eval x=.slice (some ad) n c/\a.eval z=.slice none 0 0)\/(a.eval x=.slice none 0 0/\a.eval z=.slice (some ad) n c):=.inr ⟨Iu hx,Fi⟩
  simp only[execOp,ho,Sem.run_bind,Sem.run_pure,Result.andThen_ok,g3 _ _ _ _ hh,g4 _ _ hh]
theorem Ypp (h:Rel P B io w a.tmps s U F fl) {op:BinOp} {t yt:TypeId} {x y:Operand} {id:Id} {i off:Nat} (ho:o.op=.binOp op t x y yt) (ht:OZ P t=true) (VD:op=.eql\/op=.neq)
  (hx:s.AP x=.ptr id i off) (hy:s.AP y=.lit (.pointer none)) (he:v=.lit (.bool (N7 op))):Ce P o a w (Cf P B io w a.tmps s U fl k v s):=by
 obtain⟨el,ht⟩:∃el,P.underlying t=some (.pointer el):=by
  unfold OZ at ht;split at ht
  .rename_i el hu;exact⟨el,hu⟩
  .cases ht
 obtain⟨ad,VE⟩:∃ad,a.eval x=.pointer (some ad):=by
  have:=h.AP x;rw[hx] at this;generalize a.eval x=u at this ⊢;generalize hq:V.ptr id i off=q at this;cases this<;>cases hq;exact⟨_,rfl⟩
 have hyv:a.eval y=.pointer none:=by
  have:=h.AP y;rw[hy] at this;generalize a.eval y=q at this;cases this;rfl
 subst he;refine .value (v:=.bool (N7 op)) (w':=w) ?_ (.same h (.lit rfl));have g1:∀d,(Op.equalIn (d+1) t (.pointer (some ad)) (.pointer none)).run P w=.ok false w:=λd=>by simp[Op.equalIn,run_underlying ht]
 have g2:(Op.equal t (.pointer (some ad)) (.pointer none)).run P w=.ok false w:=g1 9999;have g3:(eqGuard op t x y (.pointer (some ad)) (.pointer none)).run P w=.ok () w:=by rcases VD with rfl|rfl<;>simp[eqGuard]
 have g4:(binOp op t (.pointer (some ad)) (.pointer none)).run P w=.ok (.bool (N7 op)) w:=by rcases VD with rfl|rfl<;>simp[binOp,g2,N7]
 simp only[execOp,ho,VE,hyv,Sem.run_bind,Sem.run_pure,Result.andThen_ok,g3,g4]
end
def VF (P:Program) (o:Oper) (a:Act) (w:World) (C9:Value->World->Prop):Prop:=∀(K:Act->World->Prop) (Q:Exit->Act->World->Prop),(∀v w',C9 v w'->K (a.put o.dst v) w')->o.wp P a w K Q
theorem Ce.Cn {P:Program} {o:Oper} {a:Act} {w:World} {C9:Value->World->Prop} (h:Ce P o a w C9):VF P o a w C9:=λ_ _ hK=>h.wp hK
theorem gG {α:Type} {a:Array α} {x:α} (h:a.toList=[x]):a=#[x]:=by apply UX;simpa using h
theorem Ymo {α:Type} {a:Array α} {x y:α} (h:a.toList=[x,y]):a=#[x,y]:=by apply UX;simpa using h
def gH (P:Program) (B:Nat) (io:Nat->Prop) (w:World) (tmps:Array Value) (s:St) (U:AY) (fl:List Nat) (k:Nat) (v:V) (s':St) (M:X2) (C:Kf):Prop:=
 ∀(g:FuncId) (args:List V) (us:Array Value),us.size=args.length->(∀(j:Nat) (u:Value) (x:V),us[j]?=some u->args[j]?=some x->En w (AH s U w) U u x)->JQ P M C s k g args=some (v,s')->
  ∃fn,P.funcs[g]?=some fn/\fn.body.isSome=true/\(fn.name == "runtime.NumGoroutine")=false/\Calls P g us w (λe w'=>∃val,e=.returned val/\Cf P B io w tmps s U fl k v s' val w')
section
variable {P:Program} {B:Nat} {io:Nat->Prop} {w w':World} {a:Act} {s s':St} {U:AY} {F:Id->List Nat} {fl:List Nat} {k:Nat} {o:Oper} {v:V} {M:X2} {C:Kf}
theorem Xbk (h:Rel P B io w a.tmps s U F fl) {f:Operand} {Iw:Array Operand} {ts:Array TypeId} {g:FuncId} {Bu:List V} (ho:o.op=.call {callee:=.value f,args:=Iw,argTypes:=ts}) (hf:s.AP f=.fn g Bu)
  (he:JQ P M C s k g (Iw.toList.map s.AP++Bu)=some (v,s')) (VG:gH P B io w a.tmps s U fl k v s' M C):VF P o a w (Cf P B io w a.tmps s U fl k v s'):=by
 have u4:=h.AP f;rw[hf] at u4;generalize hq:a.eval f=q at u4;have key:∀(vs:Array Value),q=.func (.func g) #[] vs->vs.size=Bu.length->(∀(j:Nat) (u:Value) (x:V),vs[j]?=some u->Bu[j]?=some x->En w (AH s U w) U u x)->VF P o a w (Cf P B io w a.tmps s U fl k v s'):=by
  rintro vs rfl hl hr;obtain⟨fn,h1,h2,h3,h4⟩:=VG g _ (Iw.map a.eval++vs) (by simp[hl]) (λj u x hu hx=>by
   by_cases hj:j < Iw.size
   .rw[eN (by simpa using hj)] at hu
    rw[EV (by simpa using hj)] at hx;simp only[Array.getElem?_map,Dt,AL] at hu hx;obtain⟨y,hy,rfl⟩:=hu;obtain⟨z,hz,rfl⟩:=hx;have:y=z:=by
     have h1:Iw.toList[j]?=some y:=by simpa using hy
     rw[h1] at hz;injection hz
    subst this;exact h.AP y
   .rw[Array.getElem?_append_right (by simp;omega)] at hu
    rw[FD (by simp;omega)] at hx;simp only[Array.size_map,JL,Array.length_toList] at hu hx;exact hr _ u x hu hx) he
  have hb:fn.body.isNone=false:=by cases uD:fn.body with
   | none=>rw[uD] at h2;cases h2
   | some c=>rfl
  have Xu:(execOp a.eval o).run P w=.ok (.enter g (Iw.map a.eval++vs)) w:=by
   have h3':¬fn.name = "runtime.NumGoroutine" := by simpa using h3
   have Yx:¬fn.body=none:=λhh=>by rw[hh] at h2;cases h2
   simp[execOp,ho,resolve,hq,Deferred.ofValue,invoke,callFunc,h1,h3',Yx]
  intro K Q hK;unfold Oper.wp;rw[Xu,Oper.upon_enter];refine h4.mono ?_;rintro e w'' ⟨val,rfl,hp⟩;exact hK _ _ hp
 cases u4 with
 | fn hl hr=>exact key _ rfl hl hr
theorem Xaz (h:Rel P B io w a.tmps s U F fl) (he:Ib P M C s k o=some (v,s')) (Y7:∀id:Id,id.1=s.ep->id.2 / 1024=k->U id=none) (VG:gH P B io w a.tmps s U fl k v s' M C):
  VF P o a w (Cf P B io w a.tmps s U fl k v s'):=by
 have Zu:U (s.ep,1024*k)=none:=Y7 _ rfl (by simp);have VH:(s.ep,1024*k).2 / 1024=k:=by simp
 have sc:∀{x:Option V},x=W6 P s.AP o->(x.map λy=>(y,s))=some (v,s')->VF P o a w (Cf P B io w a.tmps s U fl k v s'):=by
  rintro _ rfl hx;obtain⟨y,hy,he⟩:=AL.1 hx;simp only[A6] at he;obtain⟨rfl,rfl⟩:=he;exact (Y7i h hy).Cn
 unfold Ib Xj at he;simp only at he;split at he
 .rename_i x ho
  split at he
  .cases he
  .simp only[AE,A6] at he
   obtain⟨hv,rfl⟩:=he;exact (Y0l h (.inl ho) hv).Cn
 .rename_i x ho
  split at he
  .cases he
  .simp only[AE,A6] at he
   obtain⟨hv,rfl⟩:=he;exact (Y0l h (.inr ho) hv).Cn
 .rename_i c x y ho
  split at he
  .rename_i t hc
   simp only[AE,A6] at he;obtain⟨hv,rfl⟩:=he;exact (Xbi h ho hc hv).Cn
  .cases he
 .rename_i t i ho
  split at he
  .rename_i vs ht
   obtain⟨y,hy,he⟩:=AL.1 he;simp only[A6] at he;obtain⟨rfl,rfl⟩:=he;exact (Y31 h ho ht hy).Cn
  .cases he
 .rename_i x ho
  split at he
  .rename_i i j n hx
   simp only[AE,A6] at he;obtain⟨rfl,rfl⟩:=he;exact (tS h ho hx (.inl ⟨_,_,_,rfl⟩)).Cn
  .rename_i b r n hx
   simp only[AE,A6] at he;obtain⟨rfl,rfl⟩:=he;exact (tS h ho hx (.inr (.inl ⟨_,_,_,rfl⟩))).Cn
  .rename_i f cs hx
   simp only[AE,A6] at he;obtain⟨rfl,rfl⟩:=he;exact (tS h ho hx (.inr (.inr ⟨_,_,rfl⟩))).Cn
  .cases he
 .rename_i t ho
  obtain⟨z,hz,he⟩:=AL.1 he;simp only[A6] at he;obtain⟨rfl,rfl⟩:=he;exact (Y8d h ho hz Zu rfl VH).Cn
 .rename_i t x ho
  obtain⟨cs,BO,he⟩:=A9.1 he;split at he
  .simp only[AE,A6] at he
   obtain⟨rfl,rfl⟩:=he;exact (Pr h ho BO Zu rfl VH).Cn
  .cases he
 .rename_i t parts ho
  obtain⟨z,hz,he⟩:=A9.1 he;split at he
  .rename_i fs hu
   split at he
   .cases he
   .rename_i K1
    obtain⟨cs,BO,he⟩:=AL.1 he;simp only[A6] at he;obtain⟨rfl,rfl⟩:=he;exact (Y9f h ho hz hu (by cases hh:fs.toList.all (λf=>(P.info? f.type).isSome) with|true=>rfl|false=>exact absurd hh K1) BO).Cn
  .cases he
 .rename_i t n parts ho
  obtain⟨e,Qt,he⟩:=A9.1 he;obtain⟨z,hz,he⟩:=A9.1 he;split at he
  .cases he
  .rename_i hc
   obtain⟨cs,BO,he⟩:=A9.1 he;obtain⟨⟨rows,c,s1⟩,hs,he⟩:=AL.1 he;simp only[A6] at he;obtain⟨rfl,rfl⟩:=he;have gC:Z2 P e≠0:=λhh=>hc (.inl hh);have LU:n*Z2 P e<=1048576:=by
    rcases L9 1048576 (n*Z2 P e) with hh|hh
    .exact absurd (.inr (.inl hh)) hc
    .exact hh
   have hc3:LD P e=true:=by
    cases hh:LD P e with
    | true=>rfl
    | false=>exact absurd (.inr (.inr hh)) hc
   exact (Yq3 h ho Qt hz gC LU hc3 BO hs Zu rfl VH).Cn
 .rename_i t x ho
  split at he
  .rename_i i j n hx
   obtain⟨b,hb,he⟩:=A9.1 he;obtain⟨row,Xg,he⟩:=A9.1 he;split at he
   .rename_i Yn
    obtain⟨y,hy,he⟩:=AL.1 he;simp only[A6] at he;obtain⟨rfl,rfl⟩:=he;exact (Y00 h ho (.inl ⟨i,j,n,b,row,hx,hb,Xg,Yn,hy⟩)).Cn
   .cases he
  .rename_i sh row n hx
   split at he
   .rename_i Yn
    obtain⟨y,hy,he⟩:=AL.1 he;simp only[A6] at he;obtain⟨rfl,rfl⟩:=he;exact (Y00 h ho (.inr ⟨sh,row,n,hx,Yn,hy⟩)).Cn
   .cases he
  .cases he
 .rename_i t x y ho
  split at he
  .rename_i i j n hx
   obtain⟨b,hb,he⟩:=A9.1 he;obtain⟨row,Xg,he⟩:=A9.1 he;obtain⟨cs,BO,he⟩:=A9.1 he;split at he
   .rename_i hc
    obtain⟨h1,h2,h3,h4⟩:=hc;split at he
    .rename_i Xl
     simp only[AE,A6] at he;obtain⟨rfl,rfl⟩:=he;exact (Yxn h ho hx hb Xg BO h1 Xl h2 h3 h4).Cn
    .rename_i Xl
     obtain⟨⟨ys,c,s1⟩,hs,he⟩:=A9.1 he;simp only at he;split at he
     .rename_i b1 CA
      simp only[AE,A6] at he;obtain⟨rfl,rfl⟩:=he;exact (Yzr h ho hx hb Xg BO h1 (by simpa using Xl) h2 h3 h4 hs CA).Cn
     .cases he
   .cases he
  .cases he
 .rename_i t x f ho
  obtain⟨off,VI,he⟩:=A9.1 he;split at he
  .rename_i i j n hx
   simp only[AE,A6] at he;obtain⟨rfl,rfl⟩:=he;exact (Yd6 h ho VI (.inl ⟨_,_,_,hx,rfl⟩)).Cn
  .rename_i b r n hx
   simp only[AE,A6] at he;obtain⟨rfl,rfl⟩:=he;exact (Yd6 h ho VI (.inr ⟨_,_,_,hx,rfl⟩)).Cn
  .cases he
 .rename_i t x ix ho
  obtain⟨e,Qt,he⟩:=A9.1 he;split at he
  .cases he
  .rename_i hz
   obtain⟨n,hn,he⟩:=A9.1 he;split at he
   .rename_i i off len hx
    split at he
    .rename_i Z6
     obtain⟨b,hb,he⟩:=A9.1 he;obtain⟨row,Xg,he⟩:=A9.1 he;split at he
     .rename_i Di
      simp only[AE,A6] at he;obtain⟨rfl,rfl⟩:=he;exact (tT h ho Qt hn (.inl ⟨i,off,len,b,row,hx,Z6,hb,Xg,Di,rfl⟩) hz).Cn
     .cases he
    .cases he
   .rename_i rows hx
    obtain⟨row,Xg,he⟩:=A9.1 he;split at he
    .rename_i Di
     simp only[AE,A6] at he;obtain⟨rfl,rfl⟩:=he;exact (tT h ho Qt hn (.inr ⟨true,rows,row,.inl hx,Xg,Di,rfl⟩) hz).Cn
    .cases he
   .rename_i rows hx
    obtain⟨row,Xg,he⟩:=A9.1 he;split at he
    .rename_i Di
     simp only[AE,A6] at he;obtain⟨rfl,rfl⟩:=he;exact (tT h ho Qt hn (.inr ⟨false,rows,row,.inr hx,Xg,Di,rfl⟩) hz).Cn
    .cases he
   .cases he
 .rename_i t x lo hi ho
  split at he
  .obtain⟨y,hy,he⟩:=AL.1 he
   simp only[A6] at he;obtain⟨rfl,rfl⟩:=he;exact (uS h ho hy).Cn
  .obtain⟨y,hy,he⟩:=AL.1 he
   simp only[A6] at he;obtain⟨rfl,rfl⟩:=he;exact (uS h ho hy).Cn
  .obtain⟨y,hy,he⟩:=AL.1 he
   simp only[A6] at he;obtain⟨rfl,rfl⟩:=he;exact (uS h ho hy).Cn
  .exact sc rfl he
 .rename_i t l c ho
  obtain⟨e,Qt,he⟩:=A9.1 he;obtain⟨z,hz,he⟩:=A9.1 he;obtain⟨n,hn,he⟩:=A9.1 he;obtain⟨m,hm,he⟩:=A9.1 he;split at he
  .rename_i hc
   obtain⟨rfl,h2,h3,h4,h5⟩:=hc;simp only[AE,A6] at he;obtain⟨rfl,rfl⟩:=he;exact (Ytf h ho Qt hz hn hm h2 h3 h4 h5 Zu rfl VH).Cn
  .cases he
 .rename_i f first Bu ho
  split at he
  .rename_i hf
   simp only[AE,A6] at he;obtain⟨rfl,rfl⟩:=he;have:first=#[]:=Array.eq_empty_of_size_eq_zero hf
   subst this;exact (Yx2 h ho rfl).Cn
  .cases he
 .rename_i src dst x ho
  split at he
  .exact sc rfl he
  .split at he
   .rename_i e hs hd
    split at he
    .rename_i hu
     obtain⟨rows,hr,he⟩:=A9.1 he;obtain⟨bs,hb,he⟩:=AL.1 he;simp only[A6] at he;obtain⟨rfl,rfl⟩:=he;exact (Y9h h ho hs hd hu hr hb).Cn
    .cases he
   .cases he
   .cases he
 .rename_i c ho
  obtain⟨callee,Iw,ts⟩:=c;simp only at he;split at he
  .split at he
   .rename_i b x t t' ha ht
    split at he
    .rename_i htt
     subst htt;have:=Ymo ha;subst this;have:=Ymo ht;subst this;exact (Y5k h ho he Zu rfl VH).Cn
    .cases he
   .cases he
  .split at he
   .rename_i x t ha ht
    have:=gG ha;subst this;have:=gG ht;subst this;split at he
    .rename_i i off n hx
     split at he
     .rename_i Qt
      simp only[AE,A6] at he;obtain⟨rfl,rfl⟩:=he;exact (tV h ho Qt (.inl ⟨i,off,hx⟩) rfl).Cn
     .cases he
    .rename_i rows hx
     split at he
     .rename_i Qt
      simp only[AE,A6] at he;obtain⟨rfl,rfl⟩:=he;exact (tV h ho Qt (.inr ⟨rows,.inl hx,rfl⟩) rfl).Cn
     .cases he
    .rename_i rows hx
     split at he
     .rename_i Qt
      simp only[AE,A6] at he;obtain⟨rfl,rfl⟩:=he;exact (tV h ho Qt (.inr ⟨rows,.inr hx,rfl⟩) rfl).Cn
     .cases he
    .exact sc rfl he
   .cases he
  .split at he
   .rename_i x t ha ht
    have:=gG ha;subst this;have:=gG ht;subst this;obtain⟨e,Qt,he⟩:=A9.1 he;obtain⟨z,hz,he⟩:=A9.1 he;split at he
    .rename_i i off n hx
     obtain⟨b,hb,he⟩:=A9.1 he;split at he
     .rename_i hc
      obtain⟨h1,h2,h3,h4,h5,h6⟩:=hc;simp only[AE,A6] at he;obtain⟨rfl,rfl⟩:=he;exact (Y9t h ho Qt hz hx hb h1 h2 h3 h4 h5 h6).Cn
     .cases he
    .cases he
   .cases he
  .exact sc rfl he
  .split at he
   .rename_i f g Bu hf
    exact Xbk h ho hf he VG
   .cases he
  .cases he
 .rename_i op t x y yt ho
  split at he
  .exact sc rfl he
  .exact sc rfl he
  .exact sc rfl he
  .rename_i id i off hx hy
   split at he
   .rename_i ht
    split at he
    .simp only[AE,A6] at he
     obtain⟨rfl,rfl⟩:=he;exact (Ypp h ho ht (.inl rfl) hx hy rfl).Cn
    .simp only[AE,A6] at he
     obtain⟨rfl,rfl⟩:=he;exact (Ypp h ho ht (.inr rfl) hx hy rfl).Cn
    .cases he
   .cases he
  .rename_i z1 z2 hx hy
   split at he
   .cases he
   .rename_i Qt
    obtain⟨e,Qt⟩:=EW.1 (show (Qo P t).isSome=true by cases hh:(Qo P t).isSome with|true=>rfl|false=>exact absurd hh Qt);split at he
    .rename_i r rows hr
     simp only[AE,A6] at he;obtain⟨rfl,rfl⟩:=he;exact (gF h ho Qt (.inl rfl) (.inl ⟨rfl,by assumption⟩) hr rfl).Cn
    .rename_i r rows hr
     simp only[AE,A6] at he;obtain⟨rfl,rfl⟩:=he;exact (gF h ho Qt (.inr rfl) (.inl ⟨rfl,by assumption⟩) hr rfl).Cn
    .cases he
  .rename_i z1 z2 hx hy
   split at he
   .cases he
   .rename_i Qt
    obtain⟨e,Qt⟩:=EW.1 (show (Qo P t).isSome=true by cases hh:(Qo P t).isSome with|true=>rfl|false=>exact absurd hh Qt);split at he
    .rename_i r rows hr
     simp only[AE,A6] at he;obtain⟨rfl,rfl⟩:=he;exact (gF h ho Qt (.inl rfl) (.inr ⟨rfl,by assumption⟩) hr rfl).Cn
    .rename_i r rows hr
     simp only[AE,A6] at he;obtain⟨rfl,rfl⟩:=he;exact (gF h ho Qt (.inr rfl) (.inr ⟨rfl,by assumption⟩) hr rfl).Cn
    .cases he
  .cases he
 .exact sc rfl he
end
theorem Rd.C2 {w:World} {ok ok':Nat->Prop} {v:Value} {x:V} (h:Rd w ok v x) (Yg:∀g,ok g->ok' g):Rd w ok' v x:=h.mono (λ_ _ _=>rfl) Yg
theorem En.ext {w:World} {ok ok':Nat->Prop} {U U':AY} {v:Value} {x:V} (h:En w ok U v x) (Yg:∀g,ok g->ok' g) (hU:∀id i,U id=some i->U' id=some i):En w ok' U' v x:=by
 induction h with
 | undef=>exact .undef
 | lit h=>exact .lit h
 | tr h=>exact .tr (h.C2 Yg)
 | vw h=>exact .vw (h.C2 Yg)
 | rp h=>exact .rp (h.C2 Yg)
 | ptr h=>exact .ptr (hU _ _ h)
 | sl h hc=>exact .sl (hU _ _ h) hc
 | sle h=>
  obtain⟨i,hi⟩:=EW.1 h;exact .sle (by rw[hU _ _ hi];rfl)
 | fn hl hr ih=>exact .fn hl ih
 | agg hl hc hr ih=>exact .agg hl hc ih
 | AW hl hr ih=>exact .AW hl ih
theorem En.world {w w':World} {ok:Nat->Prop} {U:AY} {v:Value} {x:V} (h:En w ok U v x) (hw:∀g,ok g->w'.heap[g]?=w.heap[g]?):En w' ok U v x:=by
 induction h with
 | undef=>exact .undef
 | lit h=>exact .lit h
 | tr h=>exact .tr (h.mono (λg hg _=>hw g hg) (λ_ h=>h))
 | vw h=>exact .vw (h.mono (λg hg _=>hw g hg) (λ_ h=>h))
 | rp h=>exact .rp (h.mono (λg hg _=>hw g hg) (λ_ h=>h))
 | ptr h=>exact .ptr h
 | sl h hc=>exact .sl h hc
 | sle h=>exact .sle h
 | fn hl hr ih=>exact .fn hl ih
 | agg hl hc hr ih=>exact .agg hl hc ih
 | AW hl hr ih=>exact .AW hl ih
theorem Xq.ext {P:Program} {w:World} {ok ok':Nat->Prop} {U U':AY} {i:Option G0} {F:List Nat} {b:Bd} (h:Xq P w ok U i F b) (Yg:∀g,ok g->ok' g) (hU:∀id i,U id=some i->U' id=some i):Xq P w ok' U' i F b:=by
 unfold Xq at h ⊢;split at h
 .obtain⟨h1,g,cur,e,row,hi,hg,hr,hs,he,Ve,rfl⟩:=h
  exact⟨h1,g,cur,e,row,hi,hg,hr,hs,λk v x hv hx=>(he k v x hv hx).ext Yg hU,Ve,rfl⟩
 .rcases h with h|⟨g,o,c,cur,hi,hg,hl,hm,hu,hz,fp,rfl,h1,h2⟩
  .exact .inl h
  .refine .inr ⟨g,o,c,cur,hi,hg,hl,hm,hu,hz,fp,rfl,h1,λhc=>⟨(h2 hc).1,λk x hx=>?_⟩⟩
   obtain⟨v,hv,hr⟩:=(h2 hc).2 k x hx;exact⟨v,hv,hr.C2 Yg⟩
 .obtain⟨h0,h⟩:=h
  refine⟨h0,?_⟩;rcases h with h|⟨g,o,c,sz,hi,hu,hr⟩
  .exact .inl h
  .exact .inr ⟨g,o,c,sz,hi,hu,hr.C2 Yg⟩
theorem Xq.world {P:Program} {w w':World} {ok:Nat->Prop} {U:AY} {i:Option G0} {F:List Nat} {b:Bd} (h:Xq P w ok U i F b) (hw:∀g,ok g->w'.heap[g]?=w.heap[g]?) (hF:∀g∈F,w'.heap[g]?=w.heap[g]?):Xq P w' ok U i F b:=by
 unfold Xq at h ⊢;split at h
 .obtain⟨h1,g,cur,e,row,hi,hg,hr,hs,he,Ve,rfl⟩:=h
  exact⟨h1,g,cur,e,row,hi,by rw[hF g BJ];exact hg,hr,hs,λk v x hv hx=>(he k v x hv hx).world hw,Ve,rfl⟩
 .rcases h with h|⟨g,o,c,cur,hi,hg,hl,hm,hu,hz,fp,rfl,h1,h2⟩
  .exact .inl h
  .refine .inr ⟨g,o,c,cur,hi,by rw[hF g BJ];exact hg,hl,hm,hu,hz,fp,rfl,λhc=>(h1 hc).frame λk hk=>hF k (Co _ hk),λhc=>⟨(h2 hc).1,λk x hx=>?_⟩⟩
   obtain⟨v,hv,hr⟩:=(h2 hc).2 k x hx;exact⟨v,hv,hr.mono (λg hg _=>hw g hg) (λ_ h=>h)⟩
 .obtain⟨h0,h⟩:=h
  refine⟨h0,?_⟩;rcases h with h|⟨g,o,c,sz,hi,hu,hr⟩
  .exact .inl h
  .exact .inr ⟨g,o,c,sz,hi,hu,hr.mono (λg hg _=>hw g hg) (λ_ h=>h)⟩
structure Jo (P:Program) (B:Nat) (io:Nat->Prop) (w:World) (tmps:Array Value) (s:St) (U:AY) (F:Id->List Nat) (fl:List Nat) (ok:Nat->Prop):Prop where
 env:∀(t:Nat) (v:Value),tmps[t]?=some v->En w ok U v (s.env t)
 out:∀t,tmps.size<=t->s.env t=.undef
 heap:∀id b,s.heap id=some b->Xq P w ok U (U id) (F id) b
 CI:∀id b,s.heap id=some b->b.own=true->∀g∈F id,g < w.heap.size
 top:∀id b,s.heap id=some b->b.own=true->Pc (U id)->∀g,(F id).head?=some g->io g\/B<=g
 apart:∀id Aw b b',s.heap id=some b->b.own=true->s.heap Aw=some b'->b'.own=true->id≠Aw->∀g∈F id,g ∉ F Aw
 once:∀id b,s.heap id=some b->b.own=true->(F id).Nodup
 C5:∀id,(U id).isSome=true->id.1<=s.ep
 Cr:Vd B io w
 AR:∀g∈fl,g < w.heap.size
 A7:∀id b,s.heap id=some b->b.own=true->∀g∈F id,g ∉ fl
 AT:fl.Nodup
inductive CY (P:Program) (w:World) (ok top:Nat->Prop):Value->V->List Nat->Prop
 | lit {v:Value} (h:J8 v=true):CY P w ok top v (.lit v) []
 | tr {v:Value} {rows:List (List V)} (h:Rd w ok v (.tr rows)):CY P w ok top v (.tr rows) []
 | own {v:Value} {e:TypeId} {rows:List (List V)} {fp:List Nat} (h:Nt P w e v rows fp) (ht:∀g,fp.head?=some g->top g):CY P w ok top v (.own e rows) fp
inductive Fm (P:Program) (w:World) (ok top:Nat->Prop):List Value->List V->List Nat->Prop
 | nil:Fm P w ok top [] [] []
 | cons {v:Value} {x:V} {vs:List Value} {xs:List V} {f1 f2:List Nat} (h:CY P w ok top v x f1) (hs:Fm P w ok top vs xs f2):Fm P w ok top (v::vs) (x::xs) (f1++f2)
theorem Fm.length {P:Program} {w:World} {ok top:Nat->Prop} {vs:List Value} {xs:List V} {fp:List Nat} (h:Fm P w ok top vs xs fp):vs.length=xs.length:=by
 induction h with
 | nil=>rfl
 | cons _ _ ih=>simp[ih]
def Dz (P:Program) (w:World) (ok top:Nat->Prop) (u:Value):V->List Nat->Prop
 | .agg cs,fp=>∃us:Array Value,u=.agg us/\Fm P w ok top us.toList cs fp
 | .CM cs,fp=>∃g cur e BQ,u=.pointer (some ⟨g,0,none⟩)/\w.heap[g]?=some (.cells cur e (0,0))/\Fm P w ok top cur.toList cs BQ/\fp=g::BQ/\top g
 | x,fp=>CY P w ok top u x fp
inductive N8 (P:Program) (w:World) (ok top:Nat->Prop):Value->V->List Nat->Prop
 | one {v:Value} {x:V} {fp:List Nat} (h:CY P w ok top v x fp):N8 P w ok top v x fp
 | box {v:Value} {cs:List V} {fp:List Nat} (h:Dz P w ok top v (.CM cs) fp):N8 P w ok top v (.CM cs) fp
inductive FI (P:Program) (w:World) (ok top:Nat->Prop):List Value->List V->List Nat->Prop
 | nil:FI P w ok top [] [] []
 | cons {v:Value} {x:V} {vs:List Value} {xs:List V} {f1 f2:List Nat} (h:N8 P w ok top v x f1) (hs:FI P w ok top vs xs f2):FI P w ok top (v::vs) (x::xs) (f1++f2)
theorem FI.length {P:Program} {w:World} {ok top:Nat->Prop} {vs:List Value} {xs:List V} {fp:List Nat} (h:FI P w ok top vs xs fp):vs.length=xs.length:=by
 induction h with
 | nil=>rfl
 | cons _ _ ih=>simp[ih]
def Ix (P:Program) (w:World) (ok top:Nat->Prop) (u:Value) (cs:List V) (fp:List Nat):Prop:=∃g cur e BQ,u=.pointer (some ⟨g,0,none⟩)/\w.heap[g]?=some (.cells cur e (0,0))/\FI P w ok top cur.toList cs BQ/\fp=g::BQ/\top g
section
variable {P:Program} {B:Nat} {io:Nat->Prop} {w w':World} {tmps:Array Value} {s s':St} {U U':AY} {F F':Id->List Nat} {fl fl':List Nat} {ok ok' top:Nat->Prop}
theorem Jo.Iy (h:Jo P B io w tmps s U F fl ok) (Yg:∀g,ok g->AH s U w g):Rel P B io w tmps s U F fl:=
 {h with
  env:=λt v hv=>(h.env t v hv).ext Yg (λ_ _ h=>h)
  heap:=λid b hb=>(h.heap id b hb).ext Yg (λ_ _ h=>h)}
theorem Jo.less (h:Jo P B io w tmps s U F fl ok) (hs:fl'.Sublist fl):Jo P B io w tmps s U F fl' ok:=
 {h with
  AR:=λg hg=>h.AR g (hs.subset hg)
  A7:=λid b hb ho g hg Yd=>h.A7 id b hb ho g hg (hs.subset Yd)
  AT:=h.AT.sublist hs}
theorem Jo.perm (h:Jo P B io w tmps s U F fl ok) (hs:fl'.Perm fl):Jo P B io w tmps s U F fl' ok:=
 {h with
  AR:=λg hg=>h.AR g (hs.mem_iff.1 hg)
  A7:=λid b hb ho g hg Yd=>h.A7 id b hb ho g hg (hs.mem_iff.1 Yd)
  AT:=hs.nodup_iff.2 h.AT}
theorem Jo.put (h:Jo P B io w tmps s U F fl ok) {p:Nat} {x:V} {u:Value} (hp:tmps[p]?=some u) (hx:En w ok U u x):Jo P B io w tmps (s.put (some p) x) U F fl ok:=
 {h with
  env:=λt v hv=>by
   simp only[St.put,Bi];split
   .rename_i e;subst e;rw[hp] at hv;injection hv with hv;subst hv;exact hx
   .exact h.env t v hv
  out:=λt ht=>by
   simp only[St.put,Bi];split
   .rename_i e;subst e
    have:=(Hz.1 hp).1;omega
   .exact h.out t ht}
theorem Jo.add {fp:List Nat} (h:Jo P B io w tmps s U F (fp++fl) ok) {id:Id} (hs:s.heap id=none) (Yk:id.1<=s.ep) (hU:∀Aw i,U Aw=some i->U' Aw=some i) (JT:∀Aw,Aw≠id->U' Aw=U Aw) {b:Bd} (hB:Xq P w ok U' (U' id) fp b)
  (X8:Pc (U' id)->∀g,fp.head?=some g->io g\/B<=g):Jo P B io w tmps (s.A5 id b) U' (Bi F id fp) fl ok:=by
 have Ct:=EC.1 h.AT;refine⟨λt v hv=>(h.env t v hv).ext (λ_ h=>h) hU,h.out,λAw b' hb=>?_,λAw b' hb ho g hg=>?_,λAw b' hb ho Cl g hg=>?_,λu5 Gc b1 b2 CA Ph Ew H9 Yh g VJ Iz=>?_,λAw b' hb ho=>?_,λAw hi=>?_,h.Cr,λg hg=>h.AR g (Ds _ hg),λAw b' hb ho g hg Yd=>?_,Ct.2.1⟩
 .by_cases e:Aw=id
  .subst e;rw[JV] at hb;injection hb with hb;subst hb;rw[Z7];exact hB
  .rw[X1 e] at hb;rw[JT Aw e,X5 e];exact (h.heap Aw b' hb).ext (λ_ h=>h) hU
 .by_cases e:Aw=id
  .subst e;rw[Z7] at hg;exact h.AR g (CC _ hg)
  .rw[X1 e] at hb;rw[X5 e] at hg;exact h.CI Aw b' hb ho g hg
 .by_cases e:Aw=id
  .subst e;rw[Z7] at hg;exact X8 Cl g hg
  .rw[X1 e] at hb;rw[X5 e] at hg;rw[JT Aw e] at Cl;exact h.top Aw b' hb ho Cl g hg
 .by_cases e1:u5=id
  .subst e1
   rw[Z7] at VJ;rw[X1 (Ne.symm Yh)] at Ew;rw[X5 (Ne.symm Yh)] at Iz;exact h.A7 Gc b2 Ew H9 g Iz (CC _ VJ)
  .rw[X1 e1] at CA
   rw[X5 e1] at VJ;by_cases e2:Gc=id
   .subst e2
    rw[Z7] at Iz;exact h.A7 u5 b1 CA Ph g VJ (CC _ Iz)
   .rw[X1 e2] at Ew;rw[X5 e2] at Iz
    exact h.apart u5 Gc b1 b2 CA Ph Ew H9 Yh g VJ Iz
 .by_cases e:Aw=id
  .subst e;rw[Z7];exact Ct.1
  .rw[X1 e] at hb;rw[X5 e];exact h.once Aw b' hb ho
 .by_cases e:Aw=id
  .subst e;exact Yk
  .rw[JT Aw e] at hi;exact h.C5 Aw hi
 .by_cases e:Aw=id
  .subst e;rw[Z7] at hg;exact Ct.2.2 g hg g Yd rfl
  .rw[X1 e] at hb;rw[X5 e] at hg;exact h.A7 Aw b' hb ho g hg (Ds _ Yd)
structure C3 (P:Program) (B:Nat) (io:Nat->Prop) (w:World) (tmps:Array Value) (s:St) (U:AY) (fl:List Nat) (ok top:Nat->Prop) (J:Id->Prop) (s':St) (U':AY) (F':Id->List Nat):Prop where
 rel:Jo P B io w tmps s' U' F' fl ok
 ext:∀id i,U id=some i->U' id=some i
 C5:∀id,(U' id).isSome=true->(U id).isSome=true\/J id
 env:s'.env=s.env
 ep:s'.ep=s.ep
 heap:∀id,¬J id->s'.heap id=s.heap id
 AJ:∀g,Ev.AJ s' U' g->Ev.AJ s U g\/top g
theorem C3.trans {fl1:List Nat} {J K:Id->Prop} {s1 s2:St} {U1 U2:AY} {F1 F2:Id->List Nat} (h1:C3 P B io w tmps s U fl1 ok top J s1 U1 F1) (h2:C3 P B io w tmps s1 U1 fl ok top K s2 U2 F2):C3 P B io w tmps s U fl ok top (λid=>J id\/K id) s2 U2 F2 where
 rel:=h2.rel
 ext:=λid i h=>h2.ext id i (h1.ext id i h)
 C5:=λid h=>by
  rcases h2.C5 id h with h|h
  .rcases h1.C5 id h with h|h
   .exact .inl h
   .exact .inr (.inl h)
  .exact .inr (.inr h)
 env:=h2.env.trans h1.env
 ep:=h2.ep.trans h1.ep
 heap:=λid h=>(h2.heap id λhk=>h (.inr hk)).trans (h1.heap id λhj=>h (.inl hj))
 AJ:=λg h=>by
  rcases h2.AJ g h with h|h
  .exact h1.AJ g h
  .exact .inr h
theorem C3.mono {J K:Id->Prop} {s1:St} {U1:AY} {F1:Id->List Nat} (h:C3 P B io w tmps s U fl ok top J s1 U1 F1) (hJ:∀id,J id->K id):C3 P B io w tmps s U fl ok top K s1 U1 F1:=
 {h with
  C5:=λid hi=>(h.C5 id hi).imp (λh=>h) (hJ id)
  heap:=λid hk=>h.heap id λhj=>hk (hJ id hj)}
theorem C3.refl (h:Jo P B io w tmps s U F fl ok):C3 P B io w tmps s U fl ok top (λ_=>False) s U F:=
 ⟨h,λ_ _ h=>h,λ_ h=>.inl h,rfl,rfl,λ_ _=>rfl,λ_ h=>.inl h⟩
theorem VK {id:Id} {b:Bd} (JT:∀Aw,Aw≠id->U' Aw=U Aw) {g:Nat} (h:AJ (s.A5 id b) U' g):AJ s U g\/(b.own=true/\∃o c sz,U' id=some (.Bl g o c sz)):=by
 obtain⟨Aw,b',o,c,sz,hb,ho,hU⟩:=h;by_cases e:Aw=id
 .subst e;rw[JV] at hb;injection hb with hb;subst hb;exact .inr ⟨ho,o,c,sz,hU⟩
 .rw[X1 e] at hb;rw[JT Aw e] at hU;exact .inl ⟨Aw,b',o,c,sz,hb,ho,hU⟩
theorem Y8c {fp:List Nat} (h:Jo P B io w tmps s U F (fp++fl) ok) {u:Value} {e:TypeId} {rows:List (List V)} (hO:Nt P w e u rows fp) (ht:∀g,fp.head?=some g->top g) (X8:∀g,top g->io g\/B<=g) {id:Id} (Zu:U id=none) (hs:s.heap id=none) (Yk:id.1<=s.ep):
  ∃U' F',C3 P B io w tmps s U fl ok top (λAw=>Aw=id) (s.A5 id ⟨false,true,true,e,rows⟩) U' F'/\En w ok U' u (.sl id 0 rows.length):=by
 rcases hO with⟨A,rfl,rfl,rfl⟩|⟨g,o,c,cur,BQ,rfl,hg,hl,hm,BW,hz,hO,rfl⟩
 .refine⟨Bi U id (some .emp),Bi F id [],⟨h.add hs Yk (Et Zu) (λAw e=>X5 e) (by rw[Z7];exact .Ih rfl rfl rfl rfl rfl) (λ_ g hg=>by simp at hg),Et Zu,λAw hi=>?_,rfl,rfl,λAw e=>X1 e,λg hg=>?_⟩,.sle (by rw[Z7];rfl)⟩
  .by_cases e:Aw=id
   .exact .inr e
   .rw[X5 e] at hi;exact .inl hi
  .rcases VK (λAw e=>X5 e) hg with h1|⟨_,o,c,sz,h1⟩
   .exact .inl h1
   .rw[Z7] at h1;cases h1
 .refine⟨Bi U id (some (.Bl g o c (P.cellsOf e))),Bi F id (g::BQ),⟨h.add hs Yk (Et Zu) (λAw e=>X5 e) (by
   rw[Z7];exact .Cq rfl rfl rfl hg hl hm BW hz rfl (λ_=>hO) (λhf=>by cases hf)) (λ_ g' Yd=>X8 g' (ht g' Yd)),Et Zu,λAw hi=>?_,rfl,rfl,λAw e=>X1 e,λg' Yd=>?_⟩,?_⟩
  .by_cases e:Aw=id
   .exact .inr e
   .rw[X5 e] at hi;exact .inl hi
  .rcases VK (λAw e=>X5 e) Yd with h1|⟨_,o',c',sz,h1⟩
   .exact .inl h1
   .rw[Z7] at h1
    injection h1 with h1;injection h1 with h1;subst h1;exact .inr (ht _ rfl)
  .have:=En.sl (w:=w) (ok:=ok) (off:=0) (len:=rows.length) (Z7 U id (some (.Bl g o c (P.cellsOf e)))) (by omega)
   simpa using this
theorem u6 {fp:List Nat} (h:Jo P B io w tmps s U F (fp++fl) ok) {u:Value} {x y:V} (hg:CY P w ok top u x fp) (X8:∀g,top g->io g\/B<=g) {id:Id} (Zu:U id=none) (hs:s.heap id=none) (Yk:id.1<=s.ep) (ht:s.AS id x=some (y,s')):
  ∃U' F',C3 P B io w tmps s U fl ok top (λAw=>Aw=id) s' U' F'/\En w ok U' u y/\AF y=true:=by
 cases hg with
 | lit Hc=>
  simp only[St.AS,AE,A6] at ht;obtain⟨rfl,rfl⟩:=ht;exact⟨U,F,(C3.refl h).mono (λ_ h=>h.elim),.lit Hc,rfl⟩
 | tr hr=>
  simp only[St.AS,AE,A6] at ht;obtain⟨rfl,rfl⟩:=ht;exact⟨U,F,(C3.refl h).mono (λ_ h=>h.elim),.tr hr,rfl⟩
 | own hO htp=>
  simp only[St.AS,AE,A6] at ht;obtain⟨rfl,rfl⟩:=ht;obtain⟨U',F',h1,h2⟩:=Y8c h hO htp X8 Zu hs Yk;exact⟨U',F',h1,h2,rfl⟩
theorem u7 {e:Nat}:∀(xs:List V) {us:List Value} {k:Nat} {fp fl:List Nat} {s s':St} {U:AY} {F:Id->List Nat} {ys:List V},Jo P B io w tmps s U F (fp++fl) ok->Fm P w ok top us xs fp->(∀g,top g->io g\/B<=g)->e<=s.ep->
  (∀j,k<=j->j < k+xs.length->U (e,j)=none/\s.heap (e,j)=none)->s.AN e k xs=some (ys,s')->
  ∃U' F',C3 P B io w tmps s U fl ok top (λid=>id.1=e/\k<=id.2/\id.2 < k+xs.length) s' U' F'/\us.length=ys.length/\(∀y∈ys,AF y=true)/\(∀(j:Nat) (u:Value) (y:V),us[j]?=some u->ys[j]?=some y->En w ok U' u y):=by
 intro xs
 induction xs with
 | nil=>
  intro us k fp fl s s' U F ys h hg X8 Yk Y7 ht;cases hg;simp only[St.AN,AE,A6] at ht;obtain⟨rfl,rfl⟩:=ht;exact⟨U,F,(C3.refl h).mono (λ_ h=>h.elim),rfl,by simp,λj u y hu=>by simp at hu⟩
 | cons x xs ih=>
  intro us k fp fl s s' U F ys h hg X8 Yk Y7 ht;cases hg with
  | @cons u _ us _ f1 f2 hg VL=>
   simp only[St.AN] at ht;obtain⟨⟨y,s1⟩,h1,ht⟩:=A9.1 ht;obtain⟨⟨zs,s2⟩,h2,ht⟩:=AL.1 ht;simp only[A6] at ht;obtain⟨rfl,rfl⟩:=ht;simp only at h2;obtain⟨VM,P7⟩:=Y7 k (B4 _) (by simp);obtain⟨U1,F1,t1,e1,c1⟩:=u6 (fl:=f2++fl) (by rw[<-List.append_assoc];exact h) hg X8 VM P7 Yk h1;obtain⟨U2,F2,t2,l2,c2,e2⟩:=ih t1.rel VL X8 (by rw[t1.ep];exact Yk) (λj hj Z6=>by
    obtain⟨a1,a2⟩:=Y7 j (by omega) (by simp only[AV];omega);have Yh:¬((e,j):Id)=(e,k):=λhh=>by injection hh with _ hh;omega
    refine⟨?_,by rw[t1.heap _ Yh];exact a2⟩;cases hr:U1 (e,j) with
    | none=>rfl
    | some i=>
     rcases t1.C5 (e,j) (by rw[hr];rfl) with hh|hh
     .rw[a1] at hh;cases hh
     .exact absurd hh Yh) h2
   refine⟨U2,F2,(t1.trans t2).mono (λid Zu=>?_),by simp[l2],λz hz=>?_,λj u' z hu hz=>?_⟩
   .rcases Zu with rfl|⟨a,b,c⟩
    .exact⟨rfl,B4 _,by simp⟩
    .exact⟨a,by omega,by simp only[AV];omega⟩
   .rcases Cj.1 hz with rfl|hz
    .exact c1
    .exact c2 z hz
   .cases j with
    | zero=>
     have a1:u=u':=by simpa using hu
     have a2:y=z:=by simpa using hz
     subst a1;subst a2;exact e1.ext (λ_ h=>h) t2.ext
    | succ j=>exact e2 j u' z (by simpa using hu) (by simpa using hz)
theorem u9 {g:Nat} {J:Id->Prop} {s1:St} {U1:AY} {F1:Id->List Nat} (t:C3 P B io w tmps s U ([g]++fl) ok top J s1 U1 F1) {id:Id} (Yk:id.1<=s.ep) (n1:U id=none) (n2:s.heap id=none) (hJ:¬J id) (X8:∀g,top g->io g\/B<=g) (I0:top g)
  {cur:Array Value} {e':TypeId} {ys:List V} (DW:w.heap[g]?=some (.cells cur e' (0,0))) (l:cur.toList.length=ys.length) (c:∀y∈ys,AF y=true) (en:∀(j:Nat) (u:Value) (y:V),cur.toList[j]?=some u->ys[j]?=some y->En w ok U1 u y):
  ∃U' F',C3 P B io w tmps s U fl ok top (λi=>J i\/i=id) (s1.A5 id ⟨true,true,true,0,[ys]⟩) U' F'/\En w ok U' (.pointer (some ⟨g,0,none⟩)) (.ptr id 0 0):=by
 have VM:U1 id=none:=by
  cases hr:U1 id with
  | none=>rfl
  | some i=>
   rcases t.C5 _ (by rw[hr];rfl) with hh|hh
   .rw[n1] at hh;cases hh
   .exact absurd hh hJ
 have P7:s1.heap id=none:=by rw[t.heap _ hJ];exact n2
 have HA:=t.rel.add (fp:=[g]) (fl:=fl) (id:=id) (U':=Bi U1 id (some (.Bl g 0 1 ys.length))) (b:=⟨true,true,true,0,[ys]⟩) P7 (by rw[t.ep];exact Yk) (Et VM) (λAw e=>X5 e) (by
  rw[Z7];exact .Ig rfl rfl rfl DW rfl (by simpa using l) (λj v z hv hz=>(en j v z (by simpa using hv) hz).ext (λ_ h=>h) (Et VM)) c rfl) (λ_ g' Yd=>by
  have:g=g':=by simpa using Yd
  subst this;exact X8 g I0)
 refine⟨_,_,⟨HA,λid i hi=>Et VM id i (t.ext id i hi),λi hi=>?_,t.env,t.ep,λi Zu=>?_,λg' Yd=>?_⟩,?_⟩
 .by_cases e1:i=id
  .exact .inr (.inr e1)
  .rw[X5 e1] at hi
   exact (t.C5 i hi).imp (λh=>h) .inl
 .rw[X1 (λhh=>Zu (.inr hh))]
  exact t.heap i (λhh=>Zu (.inl hh))
 .rcases VK (λAw e=>X5 e) Yd with h3|⟨_,o,c',sz,h3⟩
  .exact t.AJ g' h3
  .rw[Z7] at h3
   injection h3 with h3;injection h3 with h3;subst h3;exact .inr I0
 .have:=En.ptr (w:=w) (ok:=ok) (i:=0) (off:=0) (Z7 U1 id (some (.Bl g 0 1 ys.length)))
  simpa using this
theorem vA {fp:List Nat} (h:Jo P B io w tmps s U F (fp++fl) ok) {u:Value} {x y:V} (hg:Dz P w ok top u x fp) (X8:∀g,top g->io g\/B<=g) {e k:Nat} (Yk:e<=s.ep) (Y7:∀j,k<=j->j < k+64->U (e,j)=none/\s.heap (e,j)=none) (ht:s.Bb e k x=some (y,s')):
  ∃U' F',C3 P B io w tmps s U fl ok top (λid=>id.1=e/\k<=id.2/\id.2 < k+64) s' U' F'/\En w ok U' u y:=by
 have one:∀{x},CY P w ok top u x fp->s.AS (e,k) x=some (y,s')->∃U' F',C3 P B io w tmps s U fl ok top (λid=>id.1=e/\k<=id.2/\id.2 < k+64) s' U' F'/\En w ok U' u y:=by
  intro x hg ht;obtain⟨a1,a2⟩:=Y7 k (B4 _) (by omega);obtain⟨U',F',h1,h2,_⟩:=u6 h hg X8 a1 a2 Yk ht;exact⟨U',F',h1.mono (λid Zu=>by subst Zu;exact⟨rfl,B4 _,by omega⟩),h2⟩
 unfold St.Bb at ht;split at ht
 .rename_i cs
  split at ht
  .rename_i hl
   obtain⟨⟨ys,s1⟩,h1,ht⟩:=AL.1 ht;simp only[A6] at ht;obtain⟨rfl,rfl⟩:=ht;obtain⟨us,rfl,G7⟩:=hg;obtain⟨U',F',t,l,c,en⟩:=u7 cs h G7 X8 Yk (λj hj Z6=>Y7 j hj (by omega)) h1;exact⟨U',F',t.mono (λid Zu=>⟨Zu.1,Zu.2.1,by omega⟩),.agg (by simpa using l) c (λj v z hv hz=>en j v z (by simpa using hv) hz)⟩
  .cases ht
 .rename_i cs
  split at ht
  .rename_i hl
   obtain⟨⟨ys,s1⟩,h1,ht⟩:=AL.1 ht;simp only[A6] at ht;obtain⟨rfl,rfl⟩:=ht;obtain⟨g,cur,e',BQ,rfl,DW,G7,rfl,I0⟩:=hg;have vB:((BQ++([g]++fl)):List Nat).Perm (g::BQ++fl):=by
    exact SC
   obtain⟨U1,F1,t,l,c,en⟩:=u7 cs (fl:=[g]++fl) (h.perm vB) G7 X8 Yk (λj hj Z6=>Y7 j hj (by omega)) h1;obtain⟨n1,n2⟩:=Y7 (k+63) (by omega) (by omega);obtain⟨U',F',t2,e2⟩:=u9 t (id:=(e,k+63)) Yk n1 n2 (λhh=>by have:=hh.2.2;simp only at this;omega) X8 I0 DW l c en;refine⟨U',F',t2.mono λid Zu=>?_,e2⟩;rcases Zu with hh|rfl
   .exact⟨hh.1,hh.2.1,by omega⟩
   .exact⟨rfl,by simp,by simp⟩
  .cases ht
 .rename_i h1 h2
  exact one (by
   cases x with
   | agg cs=>exact absurd rfl (h1 cs)
   | CM cs=>exact absurd rfl (h2 cs)
   | _=>exact hg) ht
theorem Yvd {fp:List Nat} (h:Jo P B io w tmps s U F (fp++fl) ok) {u:Value} {x y:V} (hg:N8 P w ok top u x fp) (X8:∀g,top g->io g\/B<=g) {e k:Nat} (Yk:e<=s.ep) (Y7:∀j,k<=j->j < k+JP x->U (e,j)=none/\s.heap (e,j)=none) (ht:s.B1 e k x=some (y,s')):
  ∃U' F',C3 P B io w tmps s U fl ok top (λid=>id.1=e/\k<=id.2/\id.2 < k+JP x) s' U' F'/\En w ok U' u y/\AF y=true:=by
 cases hg with
 | one hg=>
  have hx:JP x=1/\s.B1 e k x=s.AS (e,k) x:=by cases hg<;>exact⟨rfl,rfl⟩
  rw[hx.2] at ht;obtain⟨a1,a2⟩:=Y7 k (B4 _) (by omega);obtain⟨U',F',h1,h2,h3⟩:=u6 h hg X8 a1 a2 Yk ht;exact⟨U',F',h1.mono (λid Zu=>by subst Zu;exact⟨rfl,B4 _,by rw[hx.1];omega⟩),h2,h3⟩
 | @box cs _ hg=>
  simp only[St.B1] at ht;obtain⟨⟨ys,s1⟩,h1,ht⟩:=AL.1 ht;simp only[A6] at ht;obtain⟨rfl,rfl⟩:=ht;obtain⟨g,cur,e',BQ,rfl,DW,G7,rfl,I0⟩:=hg;simp only[JP] at Y7 ⊢;obtain⟨U1,F1,t,l,c,en⟩:=u7 cs (fl:=[g]++fl) (h.perm SC) G7 X8 Yk (λj hj Z6=>Y7 j (by omega) (by omega)) h1;obtain⟨n1,n2⟩:=Y7 k (B4 _) (by omega);obtain⟨U',F',t2,e2⟩:=u9 t (id:=(e,k)) Yk n1 n2 (λhh=>by have:=hh.2.1;simp only at this;omega) X8 I0 DW l c en;refine⟨U',F',t2.mono λid Zu=>?_,e2,rfl⟩;rcases Zu with hh|rfl
  .exact⟨hh.1,by omega,by omega⟩
  .exact⟨rfl,B4 _,by simp only;omega⟩
theorem Yan {e:Nat}:∀(xs:List V) {us:List Value} {k:Nat} {fp fl:List Nat} {s s':St} {U:AY} {F:Id->List Nat} {ys:List V},Jo P B io w tmps s U F (fp++fl) ok->FI P w ok top us xs fp->(∀g,top g->io g\/B<=g)->e<=s.ep->
  (∀j,k<=j->j < k+wt xs->U (e,j)=none/\s.heap (e,j)=none)->s.AX e k xs=some (ys,s')->
  ∃U' F',C3 P B io w tmps s U fl ok top (λid=>id.1=e/\k<=id.2/\id.2 < k+wt xs) s' U' F'/\us.length=ys.length/\(∀y∈ys,AF y=true)/\(∀(j:Nat) (u:Value) (y:V),us[j]?=some u->ys[j]?=some y->En w ok U' u y):=by
 intro xs
 induction xs with
 | nil=>
  intro us k fp fl s s' U F ys h hg X8 Yk Y7 ht;cases hg;simp only[St.AX,AE,A6] at ht;obtain⟨rfl,rfl⟩:=ht;exact⟨U,F,(C3.refl h).mono (λ_ h=>h.elim),rfl,by simp,λj u y hu=>by simp at hu⟩
 | cons x xs ih=>
  intro us k fp fl s s' U F ys h hg X8 Yk Y7 ht;simp only[wt] at Y7 ⊢;cases hg with
  | @cons u _ us _ f1 f2 hg VL=>
   simp only[St.AX] at ht;obtain⟨⟨y,s1⟩,h1,ht⟩:=A9.1 ht;obtain⟨⟨zs,s2⟩,h2,ht⟩:=AL.1 ht;simp only[A6] at ht;obtain⟨rfl,rfl⟩:=ht;simp only at h2;obtain⟨U1,F1,t1,e1,c1⟩:=Yvd (fl:=f2++fl) (by rw[<-List.append_assoc];exact h) hg X8 Yk (λj hj Z6=>Y7 j hj (by omega)) h1;obtain⟨U2,F2,t2,l2,c2,e2⟩:=ih t1.rel VL X8 (by rw[t1.ep];exact Yk) (λj hj Z6=>by
    obtain⟨a1,a2⟩:=Y7 j (by omega) (by omega);have Yh:¬(((e,j):Id).1=e/\k<=((e,j):Id).2/\((e,j):Id).2 < k+JP x):=λhh=>by have:=hh.2.2;simp only at this;omega
    refine⟨?_,by rw[t1.heap _ Yh];exact a2⟩;cases hr:U1 (e,j) with
    | none=>rfl
    | some i=>
     rcases t1.C5 (e,j) (by rw[hr];rfl) with hh|hh
     .rw[a1] at hh;cases hh
     .exact absurd hh Yh) h2
   refine⟨U2,F2,(t1.trans t2).mono (λid Zu=>?_),by simp[l2],λz hz=>?_,λj u' z hu hz=>?_⟩
   .rcases Zu with⟨a,b,c⟩|⟨a,b,c⟩
    .exact⟨a,b,by omega⟩
    .exact⟨a,by omega,by omega⟩
   .rcases Cj.1 hz with rfl|hz
    .exact c1
    .exact c2 z hz
   .cases j with
    | zero=>
     have a1:u=u':=by simpa using hu
     have a2:y=z:=by simpa using hz
     subst a1;subst a2;exact e1.ext (λ_ h=>h) t2.ext
    | succ j=>exact e2 j u' z (by simpa using hu) (by simpa using hz)
theorem Y3c {fp:List Nat} (h:Jo P B io w tmps s U F (fp++fl) ok) {u:Value} {cs:List V} {y:V} (hg:Ix P w ok top u cs fp) (X8:∀g,top g->io g\/B<=g) {e k:Nat} (Yk:e<=s.ep) (Y7:∀j,k<=j->j < k+64->U (e,j)=none/\s.heap (e,j)=none) (ht:s.BC e k cs=some (y,s')):
  ∃U' F',C3 P B io w tmps s U fl ok top (λid=>id.1=e/\k<=id.2/\id.2 < k+64) s' U' F'/\En w ok U' u y/\y=.ptr (e,k+63) 0 0:=by
 unfold St.BC at ht;split at ht
 .rename_i hl
  obtain⟨⟨ys,s1⟩,h1,ht⟩:=AL.1 ht;simp only[A6] at ht;obtain⟨rfl,rfl⟩:=ht;obtain⟨g,cur,e',BQ,rfl,DW,G7,rfl,I0⟩:=hg;obtain⟨U1,F1,t,l,c,en⟩:=Yan cs (fl:=[g]++fl) (h.perm SC) G7 X8 Yk (λj hj Z6=>Y7 j hj (by omega)) h1;obtain⟨n1,n2⟩:=Y7 (k+63) (by omega) (by omega);obtain⟨U',F',t2,e2⟩:=u9 t (id:=(e,k+63)) Yk n1 n2 (λhh=>by have:=hh.2.2;simp only at this;omega) X8 I0 DW l c en;refine⟨U',F',t2.mono λid Zu=>?_,e2,rfl⟩;rcases Zu with hh|rfl
  .exact⟨hh.1,hh.2.1,by omega⟩
  .exact⟨rfl,by simp,by simp⟩
 .cases ht
end
def DA (s s':St) (U:AY) (F:Id->List Nat) (g:Nat):Prop:=∃id b,s.heap id=some b/\b.own=true/\s'.heap id=none/\(F id).head?=some g/\Pc (U id)
structure Wa (s s':St):Prop where
 env:s'.env=s.env
 ep:s'.ep=s.ep
 sub:∀id b,s'.heap id=some b->s.heap id=some b
theorem Wa.refl (s:St):Wa s s:=⟨rfl,rfl,λ_ _ h=>h⟩
theorem Wa.trans {a b c:St} (h:Wa a b) (k:Wa b c):Wa a c:=⟨k.env.trans h.env,k.ep.trans h.ep,λid x hx=>h.sub id x (k.sub id x hx)⟩
theorem Wa.none {a b:St} (h:Wa a b) {id:Id} (hn:a.heap id=none):b.heap id=none:=by
 cases hb:b.heap id with
 | none=>rfl
 | some x=>rw[h.sub id x hb] at hn;cases hn
theorem Wa.kill (s:St) (id:Id):Wa s (s.kill id):=⟨rfl,rfl,λ_ _ h=>Ij h⟩
theorem DA.left {a b c:St} {U:AY} {F:Id->List Nat} {g:Nat} (h:DA a b U F g) (k:Wa b c):DA a c U F g:=by
 obtain⟨id,x,h1,h2,h3,h4⟩:=h;exact⟨id,x,h1,h2,k.none h3,h4⟩
theorem DA.right {a b c:St} {U:AY} {F:Id->List Nat} {g:Nat} (h:DA b c U F g) (k:Wa a b):DA a c U F g:=by
 obtain⟨id,x,h1,h2,h3,h4⟩:=h;exact⟨id,x,k.sub id x h1,h2,h3,h4⟩
theorem CY.top {P:Program} {w:World} {ok top top':Nat->Prop} {v:Value} {x:V} {fp:List Nat} (h:CY P w ok top v x fp) (ht:∀g,top g->top' g):CY P w ok top' v x fp:=by
 cases h with
 | lit h=>exact .lit h
 | tr h=>exact .tr h
 | own h k=>exact .own h λg hg=>ht g (k g hg)
theorem Fm.top {P:Program} {w:World} {ok top top':Nat->Prop} {v:List Value} {x:List V} {fp:List Nat} (h:Fm P w ok top v x fp) (ht:∀g,top g->top' g):Fm P w ok top' v x fp:=by
 induction h with
 | nil=>exact .nil
 | cons h _ ih=>exact .cons (h.top ht) ih
theorem Dz.top {P:Program} {w:World} {ok top top':Nat->Prop} {v:Value} {x:V} {fp:List Nat} (h:Dz P w ok top v x fp) (ht:∀g,top g->top' g):Dz P w ok top' v x fp:=by
 cases x
 case agg cs=>obtain⟨us,h1,h2⟩:=h;exact⟨us,h1,h2.top ht⟩
 case CM cs=>obtain⟨g,cur,e,BQ,h1,h2,h3,h4,h5⟩:=h;exact⟨g,cur,e,BQ,h1,h2,h3.top ht,h4,ht g h5⟩
 all_goals exact CY.top h ht
theorem N8.top {P:Program} {w:World} {ok top top':Nat->Prop} {v:Value} {x:V} {fp:List Nat} (h:N8 P w ok top v x fp) (ht:∀g,top g->top' g):N8 P w ok top' v x fp:=by
 cases h with
 | one h=>exact .one (h.top ht)
 | box h=>exact .box (Dz.top h ht)
theorem FI.top {P:Program} {w:World} {ok top top':Nat->Prop} {v:List Value} {x:List V} {fp:List Nat} (h:FI P w ok top v x fp) (ht:∀g,top g->top' g):FI P w ok top' v x fp:=by
 induction h with
 | nil=>exact .nil
 | cons h _ ih=>exact .cons (h.top ht) ih
theorem Ix.top {P:Program} {w:World} {ok top top':Nat->Prop} {u:Value} {cs:List V} {fp:List Nat} (h:Ix P w ok top u cs fp) (ht:∀g,top g->top' g):Ix P w ok top' u cs fp:=by
 obtain⟨g,cur,e,BQ,h1,h2,h3,h4,h5⟩:=h;exact⟨g,cur,e,BQ,h1,h2,h3.top ht,h4,ht g h5⟩
section
variable {P:Program} {B:Nat} {io:Nat->Prop} {w w':World} {tmps:Array Value} {s s' s1:St} {U U':AY} {F F':Id->List Nat} {fl fl':List Nat} {ok ok' top:Nat->Prop}
theorem P8 (h:Wa s s') {g:Nat} (hg:AH s U w g):AH s' U w g:=
 ⟨λ⟨id,b,o,c,sz,h1,h2,h3⟩=>hg.1 ⟨id,b,o,c,sz,h.sub id b h1,h2,h3⟩,hg.2⟩
theorem Rel.Ei (h:Rel P B io w tmps s U F fl) {id:Id} {b:Bd} {g:Nat} (hb:s.heap id=some b) (ho:b.own=true) (hg:(F id).head?=some g):AJ s U g:=by
 have hB:=h.heap id b hb;unfold Xq at hB;split at hB
 .obtain⟨_,g',cur,e,row,hi,_,_,_,_,_,hF⟩:=hB
  rw[hF] at hg;have:g'=g:=by simpa using hg
  subst this;exact⟨id,b,_,_,_,hb,ho,hi⟩
 .rcases hB with⟨_,_,hF⟩|⟨g',o',c',cur,hi,_,_,_,_,_,fp,hF,_⟩
  .rw[hF] at hg;simp at hg
  .rw[hF] at hg
   have:g'=g:=by simpa using hg
   subst this;exact⟨id,b,_,_,_,hb,ho,hi⟩
 .rename_i h2;rw[ho] at h2;cases h2
theorem gI (h:Rel P B io w tmps s U F fl) {u:Value} {x y:V} {t:Option TypeId} (hu:En w ok U u x) (Yg:∀g,ok g->AH s U w g) (hg:s.AA t x=some (y,s')):
  ∃fp,Rel P B io w tmps s' U F (fp++fl)/\CY P w ok (DA s s' U F) u y fp/\Wa s s':=by
 unfold St.AA at hg;split at hg
 .obtain⟨e,_,he⟩:=AL.1 hg
  simp only[A6] at he;obtain⟨rfl,rfl⟩:=he;cases hu;exact⟨[],h,.own (.inl ⟨none,rfl,rfl,rfl⟩) (λg hg=>by simp at hg),.refl _⟩
 .simp only[AE,A6] at hg
  obtain⟨rfl,rfl⟩:=hg;cases hu with|lit hs=>exact⟨[],h,.lit hs,.refl _⟩
 .simp only[AE,A6] at hg
  obtain⟨rfl,rfl⟩:=hg;cases hu with|tr hr=>exact⟨[],h,.tr hr,.refl _⟩
 .simp only[AE,A6] at hg
  obtain⟨rfl,rfl⟩:=hg;cases hu with|vw hr=>exact⟨[],h,.tr hr,.refl _⟩
 .rename_i id off len
  obtain⟨⟨e,rows⟩,hw,he⟩:=AL.1 hg;simp only[A6] at he;obtain⟨rfl,rfl⟩:=he;obtain⟨fp,hR,hO,hh⟩:=h.FZ (hu.ext Yg (λ_ _ h=>h)) hw;refine⟨fp,hR,.own hO (λg hg=>?_),.kill s id⟩;unfold St.whole at hw;obtain⟨b,hb,hw⟩:=A9.1 hw;split at hw
  .rename_i hc
   exact⟨id,b,hb,hc.2.1,Q5,(hh g hg).1,(hh g hg).2⟩
  .cases hw
 .cases hg
theorem Yck:∀(xs:List V) {us:List Value} {ts:List (Option TypeId)} {s s':St} {fl:List Nat} {ys:List V},Rel P B io w tmps s U F fl->us.length=xs.length->(∀(j:Nat) (u:Value) (x:V),us[j]?=some u->xs[j]?=some x->En w ok U u x)->
  (∀g,ok g->AH s U w g)->s.AK ts xs=some (ys,s')->∃fp,Rel P B io w tmps s' U F (fp++fl)/\Fm P w ok (DA s s' U F) us ys fp/\Wa s s'/\ys.length=xs.length:=by
 intro xs
 induction xs with
 | nil=>
  intro us ts s s' fl ys h hl X3 Yg hg;have:us=[]:=Gt (by simpa using hl);subst this;simp only[St.AK,AE,A6] at hg;obtain⟨rfl,rfl⟩:=hg;exact⟨[],h,.nil,.refl _,rfl⟩
 | cons x xs ih=>
  intro us ts s s' fl ys h hl X3 Yg hg
  match us,hl with
  | u::us,hl=>
   simp only[St.AK] at hg;obtain⟨⟨y,s1⟩,h1,hg⟩:=A9.1 hg;obtain⟨⟨zs,s2⟩,h2,hg⟩:=AL.1 hg;simp only[A6] at hg;obtain⟨rfl,rfl⟩:=hg;simp only at h2;obtain⟨f1,r1,g1,l1⟩:=gI h (X3 0 u x rfl rfl) Yg h1;obtain⟨f2,r2,g2,l2,l3⟩:=ih r1 (by simpa using hl) (λj v z hv hz=>X3 (j+1) v z (by simpa using hv) (by simpa using hz)) (λg hg=>P8 l1 (Yg g hg)) h2;refine⟨f1++f2,r2.perm ?_,.cons (g1.top λg hg=>hg.left l2) (g2.top λg hg=>hg.right l1),l1.trans l2,by simp[l3]⟩;rw[List.append_assoc];exact (OQ _ _ _)
theorem vC (h:Rel P B io w tmps s U F fl) {ts:List (Option TypeId)} {u:Value} {x y:V} (hu:En w ok U u x) (Yg:∀g,ok g->AH s U w g) (hg:s.Ba ts x=some (y,s')):
  ∃fp,Rel P B io w tmps s' U F (fp++fl)/\Dz P w ok (DA s s' U F) u y fp/\Wa s s':=by
 unfold St.Ba at hg;split at hg
 .rename_i cs
  obtain⟨⟨ys,s1⟩,h1,he⟩:=AL.1 hg;simp only[A6] at he;obtain⟨rfl,rfl⟩:=he;cases hu with
  | @agg vs _ hl hc hr=>
   obtain⟨fp,a,b,c,_⟩:=Yck cs (us:=vs.toList) h (by simpa using hl) (λj v z hv hz=>hr j v z (by simpa using hv) hz) Yg h1;exact⟨fp,a,⟨vs,rfl,b⟩,c⟩
 .rename_i Yh
  obtain⟨fp,a,b,c⟩:=gI h hu Yg hg;refine⟨fp,a,?_,c⟩;cases b with
  | lit h=>exact .lit h
  | tr h=>exact .tr h
  | own h k=>exact .own h k
theorem Ykp (h:Rel P B io w tmps s U F fl) {ts:List (Option TypeId)} {u:Value} {id:Id} {ys:List V} (hu:En w ok U u (.ptr id 0 0)) (Yg:∀g,ok g->AH s U w g) (FJ:∀b row,s.heap id=some b->b.rows=[row]->b.box=true->∀(j:Nat) (cur:Array Value) (e:TypeId) (g o c sz:Nat) (v:Value) (x:V),U id=some (.Bl g o c sz)->w.heap[g]?=some (.cells cur e (0,0))->cur[j]?=some v->row[j]?=some x->En w ok U v x)
  (hg:s.Bv ts id=some (ys,s')):∃fp,Rel P B io w tmps s' U F (fp++fl)/\Dz P w ok (DA s s' U F) u (.CM ys) fp/\Wa s s'/\∃g,U id=some (.Bl g 0 1 ys.length):=by
 unfold St.Bv at hg;obtain⟨b,hb,hg⟩:=A9.1 hg;split at hg
 .rename_i hc
  obtain⟨Xl,Yv⟩:=hc;split at hg
  .rename_i row hr
   have hB:=h.heap id b hb;unfold Xq at hB;rw[Xl] at hB;obtain⟨_,g,cur,e,Cg,hi,DW,Ch,hs,he,G1,hF⟩:=hB;rw[hr] at Ch;injection Ch with Ch _;subst Ch;have BM:=h.float hb Yv;obtain⟨fp,a,b',c,d⟩:=Yck row (us:=cur.toList) BM (by simpa using hs) (λj v z hv hz=>FJ b row hb hr Xl j cur e g _ _ _ v z hi DW (by simpa using hv) hz) (λg hg=>P8 (.kill s id) (Yg g hg)) hg;rw[hF] at a;refine⟨g::fp,a.perm (SC (l₁:=fp) (l₂:=fl)).symm,?_,(Wa.kill s id).trans c,g,by rw[d];exact hi⟩;generalize hq:(V.ptr id 0 0)=q at hu;cases hu<;>cases hq;rename_i g' o' c' sz hU;rw[hi] at hU;injection hU with hU;injection hU with h1 h2 h3 h4;subst h1;subst h2;refine⟨g,cur,e,fp,by simp,DW,b'.top (λg hg=>hg.right (.kill s id)),rfl,⟨id,b,hb,Yv,c.none Q5,by rw[hF];rfl,g,0,1,_,hi,Nat.one_pos⟩⟩
  .cases hg
 .cases hg
def P9 (w:World) (ok:Nat->Prop) (U:AY) (s:St):Prop:=∀(id:Id) b row,s.heap id=some b->b.rows=[row]->b.box=true->∀(j:Nat) (cur:Array Value) (e:TypeId) (g o c sz:Nat) (v:Value) (x:V),U id=some (.Bl g o c sz)->w.heap[g]?=some (.cells cur e (0,0))->cur[j]?=some v->row[j]?=some x->En w ok U v x
theorem P9.less (h:P9 w ok U s) (hl:Wa s s'):P9 w ok U s':=λid b row hb=>h id b row (hl.sub id b hb)
theorem Ysn (h:Rel P B io w tmps s U F fl) {u:Value} {x y:V} {t:Option TypeId} (hu:En w ok U u x) (Yg:∀g,ok g->AH s U w g) (FJ:P9 w ok U s) (hg:s.Bh t x=some (y,s')):
  ∃fp,Rel P B io w tmps s' U F (fp++fl)/\N8 P w ok (DA s s' U F) u y fp/\Wa s s':=by
 unfold St.Bh at hg;split at hg
 .rename_i id
  obtain⟨⟨cs,s4⟩,h3,he⟩:=AL.1 hg;simp only[A6] at he;obtain⟨rfl,rfl⟩:=he;obtain⟨fp,a,b,c,_⟩:=Ykp h hu Yg (FJ id) h3;exact⟨fp,a,.box b,c⟩
 .obtain⟨fp,a,b,c⟩:=gI h hu Yg hg
  exact⟨fp,a,.one b,c⟩
theorem Yr0:∀(xs:List V) {us:List Value} {ts:List (Option TypeId)} {s s':St} {fl:List Nat} {ys:List V},Rel P B io w tmps s U F fl->us.length=xs.length->(∀(j:Nat) (u:Value) (x:V),us[j]?=some u->xs[j]?=some x->En w ok U u x)->
  (∀g,ok g->AH s U w g)->P9 w ok U s->s.AQ ts xs=some (ys,s')->∃fp,Rel P B io w tmps s' U F (fp++fl)/\FI P w ok (DA s s' U F) us ys fp/\Wa s s'/\ys.length=xs.length:=by
 intro xs
 induction xs with
 | nil=>
  intro us ts s s' fl ys h hl X3 Yg _ hg;have:us=[]:=Gt (by simpa using hl);subst this;simp only[St.AQ,AE,A6] at hg;obtain⟨rfl,rfl⟩:=hg;exact⟨[],h,.nil,.refl _,rfl⟩
 | cons x xs ih=>
  intro us ts s s' fl ys h hl X3 Yg FJ hg
  match us,hl with
  | u::us,hl=>
   simp only[St.AQ] at hg;obtain⟨⟨y,s1⟩,h1,hg⟩:=A9.1 hg;obtain⟨⟨zs,s2⟩,h2,hg⟩:=AL.1 hg;simp only[A6] at hg;obtain⟨rfl,rfl⟩:=hg;simp only at h2;obtain⟨f1,r1,g1,l1⟩:=Ysn h (X3 0 u x rfl rfl) Yg FJ h1;obtain⟨f2,r2,g2,l2,l3⟩:=ih r1 (by simpa using hl) (λj v z hv hz=>X3 (j+1) v z (by simpa using hv) (by simpa using hz)) (λg hg=>P8 l1 (Yg g hg)) (FJ.less l1) h2;refine⟨f1++f2,r2.perm ?_,.cons (g1.top λg hg=>hg.left l2) (g2.top λg hg=>hg.right l1),l1.trans l2,by simp[l3]⟩;rw[List.append_assoc];exact (OQ _ _ _)
theorem Ygx (h:Rel P B io w tmps s U F fl) {ts:List (Option TypeId)} {u:Value} {id:Id} {ys:List V} (hu:En w ok U u (.ptr id 0 0)) (Yg:∀g,ok g->AH s U w g) (FJ:P9 w ok U s)
  (hg:s.Be ts id=some (ys,s')):∃fp,Rel P B io w tmps s' U F (fp++fl)/\Ix P w ok (DA s s' U F) u ys fp/\Wa s s'/\∃g,U id=some (.Bl g 0 1 ys.length):=by
 unfold St.Be at hg;obtain⟨b,hb,hg⟩:=A9.1 hg;split at hg
 .rename_i hc
  obtain⟨Xl,Yv⟩:=hc;split at hg
  .rename_i row hr
   have hB:=h.heap id b hb;unfold Xq at hB;rw[Xl] at hB;obtain⟨_,g,cur,e,Cg,hi,DW,Ch,hs,he,G1,hF⟩:=hB;rw[hr] at Ch;injection Ch with Ch _;subst Ch;have BM:=h.float hb Yv;obtain⟨fp,a,b',c,d⟩:=Yr0 row (us:=cur.toList) BM (by simpa using hs) (λj v z hv hz=>FJ id b row hb hr Xl j cur e g _ _ _ v z hi DW (by simpa using hv) hz) (λg hg=>P8 (.kill s id) (Yg g hg)) (FJ.less (.kill s id)) hg;rw[hF] at a;refine⟨g::fp,a.perm (SC (l₁:=fp) (l₂:=fl)).symm,?_,(Wa.kill s id).trans c,g,by rw[d];exact hi⟩;generalize hq:(V.ptr id 0 0)=q at hu;cases hu<;>cases hq;rename_i g' o' c' sz hU;rw[hi] at hU;injection hU with hU;injection hU with h1 h2 h3 h4;subst h1;subst h2;refine⟨g,cur,e,fp,by simp,DW,b'.top (λg hg=>hg.right (.kill s id)),rfl,⟨id,b,hb,Yv,c.none Q5,by rw[hF];rfl,g,0,1,_,hi,Nat.one_pos⟩⟩
  .cases hg
 .cases hg
end
end Go.Proofs.YthdljdelfgofdaaGreatDoor.Ev
