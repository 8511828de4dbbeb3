/- A part of the proof of FnDesk: see the text YthdljdelfgofdaaGreatDoorLawFnDesk for what is proved and its conditions. Conditions here: those in each line. -/
import Derived.Below
import Derived.Calls
import Derived.Great.BuildSlice
import Derived.Laws.Append
import Derived.Laws.AppendOwn
import Derived.Laws.BytesString
import Derived.Laws.Cells
import Derived.Laws.CopyRow
import Derived.Laws.Entries
import Derived.Laws.MakeOwn
import Derived.Laws.NewBlocks
import Derived.Laws.Rows
import Derived.Laws.Sem
import Derived.Laws.Slices
import Derived.Laws.Tables
import Derived.Orders
import Derived.Test.YthdljdelfgofdaaGreatDoorProg
set_option linter.unusedSimpArgs false
set_option linter.unusedVariables false
set_option linter.unusedSectionVars false
namespace Go.Proofs.YthdljdelfgofdaaGreatDoor.Ev
open Go
abbrev AP:=@List.length_cons
abbrev Bf:=@List.length_nil
abbrev B6:=@List.getElem_mem
abbrev BI:=@List.mem_cons_self
abbrev Cg:=@List.mem_cons_of_mem
abbrev C6:=@List.getElem?_eq_getElem
abbrev BW:=@List.length_append
abbrev B2:=@Nat.le_refl
abbrev Cq:=@List.length_pos_iff
abbrev BP:=@List.mem_append
abbrev CH:=@List.mem_append_left
abbrev DG:=@List.drop_eq_getElem_cons
abbrev BX:=@List.mem_cons
abbrev D3:=@List.mem_append_right
abbrev BM:=@Nat.zero_le
abbrev DH:=@List.take_of_length_le
abbrev Dr:=@List.getElem?_take
abbrev Var:=@Array.getElem?_eq_getElem
abbrev EW:=@List.getElem?_append_left
abbrev D4:=@List.getElem?_drop
abbrev Fq:=@List.getElem?_append_right
abbrev CD:=@List.map_cons
abbrev D5:=@List.getElem?_map
abbrev Ft:=@Option.isSome_iff_exists
abbrev GK:=@List.eq_nil_of_length_eq_zero
abbrev E8:=@List.mem_of_getElem?
abbrev Fu:=@List.drop_eq_nil_of_le
abbrev Ee:=@List.flatten_cons
abbrev DI:=@Option.map_some
abbrev D6:=@Bool.not_true
abbrev Ey:=@List.length_take
abbrev HM:=@Array.getElem?_eq_some_iff
abbrev EX:=@List.nodup_append
abbrev E9:=@List.take_length
abbrev D7:=@List.mem_map
abbrev Gp:=@List.mem_of_mem_drop
abbrev Gq:=@List.mem_of_mem_take
abbrev Ix:=@List.sublist_append_right
abbrev Ef:=@List.all_cons
abbrev FY:=@List.flatMap_cons
abbrev EY:=@List.nodup_cons
abbrev HN:=@List.getElem?_of_mem
abbrev FZ:=@List.append_nil
abbrev Gr:=@Option.getD_some
abbrev Gs:=@List.not_mem_nil
abbrev Hq:=@Nat.lt_of_lt_of_le
abbrev Gt:=@List.map_append
abbrev Ga:=@Bool.not_false
abbrev GL:=@List.length_map
abbrev Hr:=@List.cons_append
abbrev Fv:=@Nat.add_zero
abbrev Pw:=@Array.getD_eq_getD_getElem?
abbrev Px:=@List.perm_append_comm_assoc
abbrev Iy:=@Int.toNat_natCast
abbrev Py:=@List.getD_eq_getElem?_getD
abbrev HO:=@List.foldl_cons
abbrev Hs:=@Bool.true_and
abbrev LY:=@List.mem_replicate
abbrev N8:=@Nat.mul_le_mul_right
abbrev KO:=@List.length_drop
abbrev Ht:=@List.map_nil
abbrev Hu:=@List.map_map
abbrev Iz:=@Bool.false_and
abbrev I0:=@List.drop_zero
abbrev KQ:=@List.length_set
abbrev Pz:=@List.length_filter_le
abbrev P0:=@Bool.or_eq_false_iff
abbrev N9:=@List.Sublist.refl
abbrev NA:=@Bool.not_eq_true'
abbrev LZ:=@List.nil_append
abbrev P1:=@List.map_congr_left
abbrev P2:=@List.getElem_of_mem
abbrev I1:=@Nat.le_trans
abbrev Tr:=@List.getElem?_eq_none
abbrev P3:=@Option.isSome_some
abbrev Vx:=@List.mem_or_eq_of_mem_set
abbrev KR:=@Nat.succ_mul
abbrev NB:=@Bool.or_eq_true
abbrev P4:=@Function.comp_def
abbrev Ma:=@Bool.and_true
abbrev Mb:=@Bool.and_self
abbrev Vy:=@Nat.add_sub_cancel_left
abbrev hZ:=@Array.getElem?_setIfInBounds
abbrev GM:=@Eq.trans
abbrev Vz:=@List.drop_of_length_le
abbrev Mc:=@Nat.lt_or_ge
abbrev Ts:=@Int.emod_lt_of_pos
abbrev V0:=@Classical.choose_spec
abbrev P5:=@List.mem_filter
abbrev iA:=@Array.getElem?_append_left
abbrev NC:=@List.any_cons
abbrev Tt:=@List.foldl_append
abbrev V1:=@Nat.pow_le_pow_right
abbrev Md:=@Int.le_refl
abbrev Tu:=@List.perm_middle
abbrev V2:=@List.Sublist.append
abbrev V3:=@List.filter_append
abbrev Tv:=@Int.emod_nonneg
abbrev V4:=@List.ext_getElem?
abbrev iB:=@List.getElem?_toArray
abbrev iC:=@List.perm_append_comm
abbrev P6:=@Nat.zero_add
abbrev iD:=@Array.getElem?_toList
abbrev iE:=@List.length_replicate
abbrev V5:=@Nat.mod_eq_of_lt
abbrev iF:=@BitVec.ofInt_natCast
abbrev V6:=@List.flatten_nil
abbrev V7:=@List.flatMap_def
abbrev V8:=@List.cons.injEq
abbrev Tw:=@Nat.pow_succ
abbrev Tx:=@Int.mul_comm
abbrev iG:=@BitVec.toNat_ofNat
abbrev V9:=@List.mem_range
abbrev VA:=@Bool.and_false
abbrev vH:=@Classical.axiomOfChoice
abbrev vI:=@Int.eq_ofNat_of_zero_le
abbrev vJ:=@Array.getElem?_eq_none
abbrev VB:=@Bool.false_or
abbrev iH:=@Nat.le_of_not_lt
abbrev iI:=@List.mem_flatten
abbrev iJ:=@List.cons_ne_nil
abbrev iK:=@List.countP_cons
abbrev iL:=@List.getElem_map
abbrev VC:=@Nat.sub_self
abbrev VD:=@List.all_nil
abbrev iM:=@Option.map_none
abbrev vK:=@List.range_eq_range'
abbrev VE:=@Int.min_comm
abbrev Vdu:=@List.take_append_of_le_length
abbrev vL:=@List.drop_succ_cons
abbrev vM:=@List.getElem?_range
abbrev vN:=@List.flatMap_append
abbrev iN:=@List.foldl_nil
abbrev vO:=@List.getElem_range
abbrev vP:=@Nat.pos_of_ne_zero
abbrev vQ:=@Nat.eq_zero_or_pos
abbrev Vd2:=@Int.tmod_eq_emod_of_nonneg
abbrev vR:=@List.length_range
abbrev vS:=@Array.size_append
abbrev vT:=@List.count_append
abbrev VF:=@Array.ext'
abbrev Vd7:=@List.pairwise_iff_getElem
abbrev vU:=@Nat.lt_of_not_le
abbrev iO:=@Nat.add_comm
abbrev iP:=@Nat.zero_mul
abbrev iQ:=@Nat.sub_zero
abbrev vV:=@List.range'_succ
abbrev Ved:=@List.getElem?_cons_succ
abbrev Vee:=@List.getElem?_replicate
abbrev vW:=@Nat.min_eq_left
abbrev vX:=@UInt8.toNat_inj
abbrev Veh:=@List.Perm.append_right
abbrev Vei:=@List.sublist_cons_self
abbrev vY:=@List.take_take
abbrev Vek:=@Array.mem_of_getElem?
abbrev Vel:=@List.countP_le_length
abbrev vZ:=@Int.mul_nonneg
abbrev Ven:=@List.dropLast_sublist
abbrev wA:=@Bool.or_false
abbrev wB:=@Bool.not_not
theorem Ag {α β : Type} {a : α} {f : α -> Option β} : (some a).bind f = f a := rfl
theorem AA {α β : Type} {x : Option α} {f : α -> Option β} {b : β} : x.bind f = some b ↔ ∃ a, x = some a /\ f a = some b := Option.bind_eq_some_iff
theorem AM {α β : Type} {x : Option α} {f : α -> β} {b : β} : x.map f = some b ↔ ∃ a, x = some a /\ f a = b := Option.map_eq_some_iff
theorem AF {α : Type} (a b : α) : (some a = some b) = (a = b) := Option.some.injEq a b
theorem Bp : (false = true) = False := Bool.false_eq_true
theorem Bh (a b : Bool) : ((a && b) = true) = (a = true /\ b = true) := Bool.and_eq_true a b
theorem Dg {α : Type} {l : List α} {i : Nat} {a : α} : l[i]? = some a ↔ ∃ h : i < l.length, l[i] = a := List.getElem?_eq_some_iff
theorem Ai {c : Prop} {h : Decidable c} (hn : ¬c) {α : Type} {t e : α} : ite c t e = e := if_neg hn
theorem Ah {c : Prop} {h : Decidable c} (hn : c) {α : Type} {t e : α} : ite c t e = t := if_pos hn
theorem Cf {α : Type} {p : α -> Bool} {l : List α} : l.all p = true ↔ ∀ x, x ∈ l -> p x = true := List.all_eq_true
theorem Bl {p : Prop} [Decidable p] : (decide p = true) = p := decide_eq_true_eq
theorem A7 {α β : Type} (a : α) (b : β) (c : α) (d : β) : ((a, b) = (c, d)) = (a = c /\ b = d) := Prod.mk.injEq a b c d
abbrev Id:=Nat×Nat
inductive V where
 | undef
 | lit (v:Value)
 | agg (cs:List V)
 | AX (vs:List V)
 | ptr (id:Id) (i off:Nat)
 | rp (sh:Bool) (row:List V) (off:Nat)
 | sl (id:Id) (off len:Nat)
 | tr (rows:List (List V))
 | vw (rows:List (List V))
 | own (e:TypeId) (rows:List (List V))
 | CQ (cs:List V)
 | fn (f:FuncId) (Bv:List V)
 deriving Inhabited
structure Be where
 box:Bool
 own:Bool
 cl:Bool
 el:TypeId
 rows:List (List V)
structure St where
 env:Nat->V
 heap:Id->Option Be
 ep:Nat
def Bm {α β:Type} [DecidableEq α] (f:α->β) (a:α) (b:β):α->β:=λx=>if x=a then b else f x
def St.put (s:St) (dst:Option Tmp) (v:V):St:=match dst with|some d=>{s with env:=Bm s.env d v}|none=>s
def St.A6 (s:St) (id:Id) (b:Be):St:={s with heap:=Bm s.heap id (some b)}
def St.kill (s:St) (id:Id):St:={s with heap:=Bm s.heap id none}
def eval? {α:Type} (P:Program):Sem α->Option α
 | .pure a=>some a
 | .program k=>eval? P (k P)
 | _=>none
def DJ:Value->Bool
 | .bool _|.int _ _|.string _|.float _ _|.pointer none|.slice none 0 0|.nilFunc|.nilIface=>true
 | _=>false
def EZ:List V->Option (List Value)
 | []=>some []
 | .lit v::r=>(EZ r).map (v::·)
 | _=>none
def Qu:V->Option Value
 | .lit v=>some v
 | .agg cs=>(EZ cs).map λl=>.agg l.toArray
 | _=>none
def GN:Value->Option V
 | .agg cs=>if cs.toList.all DJ then some (.agg (cs.toList.map .lit)) else none
 | v=>if DJ v then some (.lit v) else none
def St.AQ (s:St):Operand->V
 | .tmp t=>s.env t
 | .const v=>(GN v).getD .undef
 | .func f=>.fn f []
 | .global _=>.undef
def Ty {α:Type}:List (Option α)->Option (List α)
 | []=>some []
 | some a::r=>(Ty r).map (a::·)
 | none::_=>none
def ND:Op->Bool
 | .binOp ..|.unOp ..|.convert ..|.index ..|.slice ..|.field ..=>true
 | .call {callee:=.builtin .len,..}|.call {callee:=.builtin .min,..}|.call {callee:=.builtin .max,..}=>true
 | _=>false
def Qj (P:Program) (v:Operand->V) (o:Oper):Option V:=
 if ND o.op&&o.op.operands.toList.all (λx=>(Qu (v x)).isSome) then
  match eval? P (execOp (λx=>(Qu (v x)).getD undef) o) with
  | some (.value v)=>GN v
  | _=>none
 else none
def HP (P:Program) (t:TypeId):Bool:=match P.underlying t with|some (.struct _)|some (.array _ _)=>true|_=>false
def P7 (P:Program) (t:TypeId):Bool:=match P.underlying t with|some (.pointer _)=>true|_=>false
def Z5 (P:Program) (t:TypeId):Nat:=P.cellsOf t
def Fw (P:Program) (t:TypeId):Option (List V):=((P.info? t).bind (·.zero)).bind λz=>if z.cells.toList.all DJ then some (z.cells.toList.map .lit) else none
def Q0 (P:Program) (t:TypeId):Option TypeId:=match P.underlying t with|some (.slice e)=>some e|_=>none
def wC (P:Program) (t:TypeId) (k:Nat):Option Nat:=match P.underlying t with|some (.struct fs)=>(fs[k]?).bind λf=>if P.cellsOf f.type=0 then none else some f.offset|_=>none
def Fa:V->V
 | .lit (.slice none 0 0)=>.tr []
 | x=>x
def Me:V->Option (List V)
 | .agg cs=>some cs
 | .AX _|.undef|.own _ _|.CQ _=>none
 | x=>some [x]
def AG:V->Bool
 | .lit _|.tr _|.vw _|.rp ..|.ptr ..|.sl ..|.fn ..=>true
 | _=>false
def St.rowsOf (s:St):V->Option (List (List V))
 | .sl id off len=>(s.heap id).bind λb=>if b.box=false/\off+len<=b.rows.length then some ((b.rows.drop off).take len) else none
 | .tr rows|.vw rows=>some rows
 | .lit (.slice none 0 0)=>some []
 | _=>none
def St.whole (s:St) (id:Id) (off len:Nat):Option (TypeId×List (List V)):=
 (s.heap id).bind λb=>if b.box=false/\b.own=true/\b.cl=true/\off+len<=b.rows.length then some (b.el,(b.rows.drop off).take len) else none
def St.sink (s:St):List V->Option (List V×Bool×St)
 | []=>some ([],true,s)
 | x::r=>
  match x with
  | .lit (.slice none 0 0)=>(s.sink r).map λy=>(.tr []::y.1,y.2)
  | .lit v=>(s.sink r).map λy=>(.lit v::y.1,y.2)
  | .tr rows|.vw rows=>(s.sink r).map λy=>(.tr rows::y.1,false,y.2.2)
  | .sl id off len=>match s.whole id off len with
   | some er=>((s.kill id).sink r).map λy=>(.tr er.2::y.1,y.2)
   | none=>match s.heap id with
    | some b=>if b.own=false then (s.rowsOf (.sl id off len)).bind λrows=>(s.sink r).map λy=>(.tr rows::y.1,false,y.2.2) else none
    | none=>none
  | _=>none
def St.Br (s:St):List (List V)->Option (List (List V)×Bool×St)
 | []=>some ([],true,s)
 | row::r=>(s.sink row).bind λy=>(y.2.2.Br r).map λz=>(y.1::z.1,y.2.1&&z.2.1,z.2.2)
def Ds (l:List V) (off:Nat) (vs:List V):List V:=l.take off++vs++l.drop (off+vs.length)
def KT (P:Program) (t:TypeId) (cs:List V):Option V:=
 if (P.underlying t).isSome then if HP P t then some (.agg cs) else match cs with|[x]=>some x|_=>none else none
def iR (P:Program):Nat->TypeId->List (Option TypeId)
 | 0,_=>[]
 | n+1,t=>match P.underlying t with
  | some (.struct fs)=>fs.toList.flatMap λf=>iR P n f.type
  | some (.array k e)=>(List.replicate k (iR P n e)).flatten
  | some (.slice e)=>[some e]
  | _=>[none]
def Tz (P:Program) (t:TypeId):List (Option TypeId):=match P.underlying t with|some (.pointer e)=>iR P 9 e|_=>iR P 9 t
inductive Yw where
 | rd|io|mv|EA
 deriving DecidableEq
def St.BA (s:St):V->Option V
 | .lit (.slice none 0 0)=>some (.tr [])
 | .lit v=>some (.lit v)
 | .tr rows|.vw rows=>some (.tr rows)
 | .sl id off len=>(s.rowsOf (.sl id off len)).map .tr
 | .rp _ row off=>some (.rp true row off)
 | _=>none
def St.B3 (s:St):List V->Option (List V)
 | []=>some []
 | x::r=>(s.BA x).bind λy=>(s.B3 r).map (y::·)
def St.Bs (s:St):V->Option V
 | .ptr id i off=>(s.heap id).bind λb=>if b.own=true then (b.rows[i]?).bind λrow=>(s.B3 row).map λcs=>.rp true cs off else none
 | x=>s.BA x
def St.Bz (s:St):List V->Option (List V)
 | []=>some []
 | x::r=>(s.Bs x).bind λy=>(s.Bz r).map (y::·)
def St.C7 (s:St):V->Option V
 | .agg cs=>(s.B3 cs).map .agg
 | .fn f Bv=>(s.Bz Bv).map (.fn f)
 | x=>s.Bs x
def St.Cr (s:St) (m:Yw) (x:V):Option V:=match m with|.rd=>s.C7 x|_=>some x
def St.BN (s:St):List Yw->List V->Option (List V)
 | _,[]=>some []
 | ms,x::r=>(s.Cr (ms.headD .rd) x).bind λy=>(s.BN ms.tail r).map (y::·)
def St.AB (s:St) (t:Option TypeId):V->Option (V×St)
 | .lit (.slice none 0 0)=>t.map λe=>(.own e [],s)
 | .lit v=>some (.lit v,s)
 | .tr rows|.vw rows=>some (.tr rows,s)
 | .sl id off len=>(s.whole id off len).map λer=>(.own er.1 er.2,s.kill id)
 | _=>none
def St.AL (s:St):List (Option TypeId)->List V->Option (List V×St)
 | _,[]=>some ([],s)
 | ts,x::r=>(s.AB (ts.headD none) x).bind λy=>(y.2.AL ts.tail r).map λz=>(y.1::z.1,z.2)
def St.Bb (s:St) (ts:List (Option TypeId)):V->Option (V×St)
 | .agg cs=>(s.AL ts cs).map λy=>(.agg y.1,y.2)
 | x=>s.AB (ts.headD none) x
def BY:V->V
 | .sl _ _ 0=>.tr []
 | x=>x
def thin:V->V
 | .agg cs=>.agg (cs.map BY)
 | x=>BY x
def St.Bw (s:St) (ts:List (Option TypeId)) (id:Id):Option (List V×St):=
 (s.heap id).bind λb=>if b.box=true/\b.own=true then match b.rows with
  | [row]=>(s.kill id).AL ts row
  | _=>none else none
def St.Bj (s:St) (t:Option TypeId):V->Option (V×St)
 | .ptr id 0 0=>(s.Bw [] id).map λy=>(.CQ y.1,y.2)
 | x=>s.AB t x
def St.AR (s:St):List (Option TypeId)->List V->Option (List V×St)
 | _,[]=>some ([],s)
 | ts,x::r=>(s.Bj (ts.headD none) x).bind λy=>(y.2.AR ts.tail r).map λz=>(y.1::z.1,z.2)
def St.Bg (s:St) (ts:List (Option TypeId)) (id:Id):Option (List V×St):=
 (s.heap id).bind λb=>if b.box=true/\b.own=true then match b.rows with
  | [row]=>(s.kill id).AR ts row
  | _=>none else none
def St.Dl (s:St) (ts:List (Option TypeId)) (m:Yw) (x:V):Option (V×St):=
 match m with
 | .rd=>some (x,s)
 | .io=>match x with
  | .ptr id 0 0=>(s.Bg ts id).map λy=>(.agg y.1,y.2)
  | _=>none
 | .mv=>s.Bb ts x
 | .EA=>s.Bb ts (thin x)
def St.Bt (P:Program) (s:St):List TypeId->List Yw->List V->Option (List V×St)
 | _,_,[]=>some ([],s)
 | ts,ms,x::r=>(s.Dl (Tz P (ts.headD 0)) (ms.headD .rd) x).bind λy=>(y.2.Bt P ts.tail ms.tail r).map λz=>(y.1::z.1,z.2)
def St.AT (s:St) (id:Id):V->Option (V×St)
 | .own e rows=>some (.sl id 0 rows.length,s.A6 id ⟨false,true,true,e,rows⟩)
 | .lit v=>some (.lit v,s)
 | .tr rows=>some (.tr rows,s)
 | _=>none
def St.AN (s:St) (e:Nat):(k:Nat)->List V->Option (List V×St)
 | _,[]=>some ([],s)
 | k,x::r=>(s.AT (e,k) x).bind λy=>(y.2.AN e (k+1) r).map λz=>(y.1::z.1,z.2)
def St.Bc (s:St) (e k:Nat):V->Option (V×St)
 | .agg cs=>if cs.length<=62 then (s.AN e k cs).map λy=>(.agg y.1,y.2) else none
 | .CQ cs=>if cs.length<=62 then (s.AN e k cs).map λy=>(.ptr (e,k+63) 0 0,y.2.A6 (e,k+63) ⟨true,true,true,0,[y.1]⟩) else none
 | x=>s.AT (e,k) x
def St.Bx (s:St) (e:Nat):(k:Nat)->List V->Option (List V×St)
 | _,[]=>some ([],s)
 | k,x::r=>(s.Bc e (64*k) x).bind λy=>(y.2.Bx e (k+1) r).map λz=>(y.1::z.1,z.2)
def St.BB (s:St) (e k:Nat):V->Option (V×St)
 | .AX vs=>if vs.length<=8 then (s.Bx e k vs).map λy=>(.AX y.1,y.2) else none
 | x=>s.Bc e (64*k) x
def KU:V->Nat
 | .CQ cs=>cs.length+1
 | _=>1
def wt:List V->Nat
 | []=>0
 | x::r=>KU x+wt r
def St.B4 (s:St) (e k:Nat):V->Option (V×St)
 | .CQ cs=>(s.AN e (k+1) cs).map λy=>(.ptr (e,k) 0 0,y.2.A6 (e,k) ⟨true,true,true,0,[y.1]⟩)
 | x=>s.AT (e,k) x
def St.AY (s:St) (e:Nat):(k:Nat)->List V->Option (List V×St)
 | _,[]=>some ([],s)
 | k,x::r=>(s.B4 e k x).bind λy=>(y.2.AY e (k+KU x) r).map λz=>(y.1::z.1,z.2)
def St.BC (s:St) (e k:Nat) (cs:List V):Option (V×St):=
 if wt cs<=62 then (s.AY e k cs).map λy=>(.ptr (e,k+63) 0 0,y.2.A6 (e,k+63) ⟨true,true,true,0,[y.1]⟩) else none
def St.AO (s:St):List V->List V->Option St
 | [],_=>some s
 | .sl id 0 _::os,.own e rows::ns=>(s.A6 id ⟨false,true,true,e,rows⟩).AO os ns
 | _::os,_::ns=>s.AO os ns
 | _::_,[]=>none
def St.back (s:St) (m:Yw) (e k:Nat) (x o:V):Option St:=
 match m with
 | .rd|.mv=>some s
 | .io=>match x,o with
  | .ptr id 0 0,.agg cs=>if wt cs<=62 then (s.AY e (64*k) cs).map λy=>y.2.A6 id ⟨true,true,true,0,[y.1]⟩ else none
  | _,_=>none
 | .EA=>match thin x,o with
  | .agg cs,.agg ns=>s.AO cs ns
  | x,o=>s.AO [x] [o]
def St.BF (s:St) (e:Nat):List Yw->(k:Nat)->List V->List V->Option St
 | _,_,[],_=>some s
 | ms,k,x::xs,o::os=>(s.back (ms.headD .rd) e k x o).bind λs=>s.BF e ms.tail (k+1) xs os
 | _,_,_::_,[]=>none
abbrev Kr:=FuncId->List V->Option (V×List V)
def Hv (n:Nat) (rows:List (List V)):Bool:=rows.all λr=>r.length == n
def Mf:V->Bool|.lit _=>true|_=>false
def Fx (rows:List (List V)):Bool:=rows.all λr=>r.all Mf
def St.Ct (s:St) (all:Bool):V->Option (List (List V)×Bool×St)
 | .sl id off len=>match (if id.1=s.ep\/all=true then s.whole id off len else none) with
  | some er=>some (er.2,true,s.kill id)
  | none=>(s.rowsOf (.sl id off len)).map λrows=>(rows,Fx rows,s)
 | x=>(s.rowsOf x).map λrows=>(rows,Fx rows,s)
def Mg (P:Program) (e:TypeId):Bool:=match (P.info? e).bind (·.zero) with|some z=>z.cells.size == P.cellsOf e|none=>false
def NF (P:Program) (all:Bool) (s:St) (id:Id) (t:TypeId) (b x:V):Option (V×St):=
 (Q0 P t).bind λe=>
 (s.Ct all x).bind λm=>
 if Hv (Z5 P e) m.1=true/\Z5 P e≠0/\Mg P e=true then
  match b with
  | .lit (.slice none 0 0)=>if m.1.length*P.bytesOf e<=140737488355328/\m.1.length<=9223372036854775807 then some (.sl id 0 m.1.length,m.2.2.A6 id ⟨false,true,m.2.1,e,m.1⟩) else none
  | .sl i off len=>(m.2.2.heap i).bind λk=>
   if k.box=false/\k.own=true/\off+len=k.rows.length/\k.el=e/\(len+m.1.length)*P.bytesOf e<=140737488355328/\len+m.1.length<=9223372036854775807 then
    some (.sl id 0 (len+m.1.length),(m.2.2.kill i).A6 id ⟨false,true,k.cl&&m.2.1,e,k.rows.drop off++m.1⟩)
   else none
  | _=>none
 else none
def W1:V->Option Nat
 | .lit (.int _ n)=>if 0<=n then some n.toNat else none
 | _=>none
def NG (P:Program) (s:St) (t:TypeId) (x:V) (lo hi:Option V):Option V:=
 (Q0 P t).bind λe=>(s.rowsOf x).bind λrows=>
 let l:=match lo with|some v=>W1 v|none=>some 0
 let h:=match hi with|some v=>W1 v|none=>some rows.length
 l.bind λl=>h.bind λh=>if l<=h/\h<=rows.length/\Hv (Z5 P e) rows=true/\Z5 P e≠0 then
  match x with
  | .sl id off _=>some (.sl id (off+l) (h - l))
  | .tr rows=>some (.tr ((rows.drop l).take (h - l)))
  | .vw rows=>some (.vw ((rows.drop l).take (h - l)))
  | _=>none
 else none
def I2 (P:Program) (place:Nat->Option (Nat×Nat)) (cells:List V):List (Nat×V)->Option (List V)
 | []=>some cells
 | (i,v)::rest=>(place i).bind λp=>(Me v).bind λcs=>
  if cs.length=p.2/\p.1+p.2<=cells.length then I2 P place (Ds cells p.1 cs) rest else none
def I3 (sz:Nat):Nat->List V->List (List V)
 | 0,_=>[]
 | n+1,l=>l.take sz::I3 sz n (l.drop sz)
def NH (rows:List (List V)):Option (List UInt8):=Ty (rows.map λr=>match r with|[.lit (.int .u8 n)]=>some (UInt8.ofNat n.toNat)|_=>none)
def wD (P:Program) (t:TypeId):Bool:=match P.underlying t with|some (.int _)=>true|_=>false
structure X9 where
 AV:FuncId->List Yw
 mv:String->Bool
def P8:V->Bool|.tr _=>true|_=>false
def I4:V->Bool|.CQ cs=>cs.any P8|x=>P8 x
def HQ:V->Bool|.agg cs|.CQ cs=>cs.any I4|x=>I4 x
def P9:V->Bool|.AX vs=>vs.any HQ|x=>HQ x
def NI:V->Bool
 | .lit _|.tr _|.vw _|.rp ..=>true
 | _=>false
def plain:V->Bool
 | .agg cs|.fn _ cs=>cs.all NI
 | x=>NI x
def wE (m:Yw) (x:V):Bool:=match m with|.rd=>plain x|_=>true
def I5:List Yw->List V->Bool
 | _,[]=>true
 | ms,x::r=>wE (ms.headD .rd) x&&I5 ms.tail r
def KV (P:Program) (M:X9) (C:Kr) (s:St) (k:Nat) (g:FuncId) (args:List V):Option (V×St):=
 if args.length<=8 then
  (s.Bt P (((P.funcs[g]?).map (·.params.toList)).getD []) (M.AV g) args).bind λy=>(y.2.BN (M.AV g) y.1).bind λxs=>(C g xs).bind λr=>
   if (P9 r.1||r.2.any HQ)&&!I5 (M.AV g) args then none else
   (y.2.BF s.ep (M.AV g) (16*k+8) args r.2).bind λs'=>s'.BB s.ep (16*k) r.1
 else none
def Xn (P:Program) (M:X9) (C:Kr) (v:Operand->V) (s:St) (k:Nat) (o:Oper):Option (V×St):=
 let CI (x:Option V):Option (V×St):=x.map λy=>(y,s)
 let id:Id:=(s.ep,1024*k)
 match o.op with
 | .move x|.assign x=>match v x with|.undef=>none|y=>some (y,s)
 | .pick c a b=>match v c with|.lit (.bool c)=>some (if c then v a else v b,s)|_=>none
 | .extract t i=>match v t with|.AX vs=>CI vs[i]?|_=>none
 | .nilCheck x=>match v x with|.ptr i j n=>some (.ptr i j n,s)|.rp b r n=>some (.rp b r n,s)|.fn f cs=>some (.fn f cs,s)|_=>none
 | .alloc t=>(Fw P t).map λz=>(.ptr id 0 0,s.A6 id ⟨true,true,true,t,[z]⟩)
 | .box t x=>(Me (v x)).bind λcs=>if cs.length=Z5 P t then some (.ptr id 0 0,s.A6 id ⟨true,true,true,t,[cs]⟩) else none
 | .build t parts=>(Fw P t).bind λz=>match P.underlying t with
  | some (.struct fs)=>if fs.toList.all (λf=>(P.info? f.type).isSome)=false then none else (I2 P (λi=>(fs[i]?).map λf=>(f.offset,P.cellsOf f.type)) z (parts.toList.map λp=>(p.1,v p.2))).map λcs=>(.agg cs,s)
  | _=>none
 | .buildSlice t n parts=>(Q0 P t).bind λe=>
  let sz:=Z5 P e
  (if n*sz=0 then some [] else Fw P e).bind λz=>
  if sz=0\/n*sz > 1048576\/Mg P e=false then none else
  (I2 P (λi=>some (i*sz,sz)) (List.replicate n z).flatten (parts.toList.map λp=>(p.1,v p.2))).bind λcs=>
   (s.Br (I3 sz n cs)).map λy=>(.sl id 0 n,y.2.2.A6 id ⟨false,true,y.2.1,e,y.1⟩)
 | .load t a=>match v a with
  | .ptr i j n=>(s.heap i).bind λb=>(b.rows[j]?).bind λrow=>if n+Z5 P t<=row.length then CI (KT P t ((row.drop n).take (Z5 P t))) else none
  | .rp sh row n=>if n+Z5 P t<=row.length then CI (KT P t ((row.drop n).take (Z5 P t))) else none
  | _=>none
 | .store t a x=>match v a with
  | .ptr i j n=>(s.heap i).bind λb=>(b.rows[j]?).bind λrow=>(Me (v x)).bind λcs=>
   if b.own=true/\cs.length=Z5 P t/\n+Z5 P t<=row.length/\Z5 P t≠0 then
    if b.box then some (.undef,s.A6 i {b with rows:=b.rows.set j (Ds row n cs)})
    else (s.sink cs).bind λy=>match y.2.2.heap i with
     | some b=>some (.undef,y.2.2.A6 i {b with cl:=b.cl&&y.2.1,rows:=b.rows.set j (Ds row n y.1)})
     | none=>none
   else none
  | _=>none
 | .fieldAddr t x f=>(wC P t f).bind λoff=>match v x with
  | .ptr i j n=>some (.ptr i j (n+off),s)
  | .rp b row n=>some (.rp b row (n+off),s)
  | _=>none
 | .indexAddr t x ix=>(Q0 P t).bind λe=>if Z5 P e=0 then none else (W1 (v ix)).bind λn=>match v x with
  | .sl i off len=>if n < len then (s.heap i).bind λb=>(b.rows[off+n]?).bind λrow=>if row.length=Z5 P e then some (.ptr i (off+n) 0,s) else none else none
  | .tr rows=>(rows[n]?).bind λrow=>if row.length=Z5 P e then some (.rp true row 0,s) else none
  | .vw rows=>(rows[n]?).bind λrow=>if row.length=Z5 P e then some (.rp false row 0,s) else none
  | _=>none
 | .slice t x lo hi none=>match v x with
  | .sl ..|.tr _|.vw _=>CI (NG P s t (v x) (lo.map v) (hi.map v))
  | _=>CI (Qj P v o)
 | .makeSlice t l c=>(Q0 P t).bind λe=>(Fw P e).bind λz=>(W1 (v l)).bind λn=>(W1 (v c)).bind λm=>
  if n=m/\n*P.bytesOf e<=70368744177664/\n<=9223372036854775807/\z.length=Z5 P e/\Z5 P e≠0 then some (.sl id 0 n,s.A6 id ⟨false,true,true,e,List.replicate n (z.map Fa)⟩) else none
 | .makeFunc (.func f) first Bv=>if first.size=0 then some (.fn f (Bv.toList.map v),s) else none
 | .convert src dst x=>match v x with
  | .lit _=>CI (Qj P v o)
  | y=>match P.underlying src,P.underlying dst with
   | some (.slice e),some .string=>match P.underlying e with
    | some (.int .u8)=>(s.rowsOf y).bind λrows=>(NH rows).map λbs=>(.lit (.string ⟨bs.toArray⟩),s)
    | _=>none
   | some (.slice _),some (.slice _)=>none
   | _,_=>none
 | .call c=>match c.callee with
  | .builtin .append=>match c.args.toList,c.argTypes.toList with
   | [b,x],[t,t']=>if t=t' then NF P (M.mv o.pos) s id t (v b) (v x) else none
   | _,_=>none
  | .builtin .len=>match c.args.toList,c.argTypes.toList with
   | [x],[t]=>match v x with
    | .sl _ _ n=>if (Q0 P t).isSome then some (.lit (.int .i64 n),s) else none
    | .tr rows|.vw rows=>if (Q0 P t).isSome then some (.lit (.int .i64 rows.length),s) else none
    | _=>CI (Qj P v o)
   | _,_=>none
  | .builtin .clear=>match c.args.toList,c.argTypes.toList with
   | [x],[t]=>(Q0 P t).bind λe=>(Fw P e).bind λz=>match v x with
    | .sl i off n=>(s.heap i).bind λb=>if b.own=true/\b.box=false/\off+n<=b.rows.length/\b.el=e/\z.length=Z5 P e/\Z5 P e≠0 then
      some (.AX [],s.A6 i {b with rows:=b.rows.take off++List.replicate n (z.map Fa)++b.rows.drop (off+n)}) else none
    | _=>none
   | _,_=>none
  | .builtin _=>CI (Qj P v o)
  | .value f=>match v f with
   | .fn g Bv=>KV P M C s k g (c.args.toList.map v++Bv)
   | _=>none
  | _=>none
 | .binOp op t x y _=>match v x,v y with
  | .lit _,.lit _|.agg _,_|_,.agg _=>CI (Qj P v o)
  | .ptr ..,.lit (.pointer none)=>if P7 P t then match op with
   | .eql=>some (.lit (.bool false),s)
   | .neq=>some (.lit (.bool true),s)
   | _=>none
   else none
  | a,.lit (.slice none 0 0)|.lit (.slice none 0 0),a=>if (Q0 P t).isSome=false then none else match op,s.rowsOf a with
   | .eql,some (_::_)=>some (.lit (.bool false),s)
   | .neq,some (_::_)=>some (.lit (.bool true),s)
   | _,_=>none
  | _,_=>none
 | _=>CI (Qj P v o)
def I6 (P:Program) (M:X9) (C:Kr) (s:St) (k:Nat) (o:Oper):Option (V×St):=Xn P M C s.AQ s k o
def wanted (s:St) (ops:Array Oper) (o:Oper):Option Bool:=
 match o.guard with
 | none=>some true
 | some (j,b)=>match ((ops[j]?).bind (·.dst)).map s.env with
  | some (.lit (.bool c))=>some (c == b)
  | some (.AX [])=>some false
  | _=>none
def Gb (P:Program) (M:X9) (C:Nat->Kr) (ops:Array Oper) (s:St):(k:Nat)->List Oper->Option St
 | _,[]=>some s
 | k,o::rest=>
  (wanted s ops o).bind λg=>
  if g then (I6 P M (C k) s k o).bind λy=>Gb P M C ops (y.2.put o.dst y.1) (k+1) rest
  else Gb P M C ops (s.put o.dst (.AX [])) (k+1) rest
def VG:V->List Id
 | .sl id _ _|.ptr id _ _=>[id]
 | _=>[]
def ids:V->List Id
 | .agg cs|.fn _ cs=>cs.flatMap VG
 | x=>VG x
def St.deep (s:St) (id:Id):List Id:=match s.heap id with|some b=>if b.box then b.rows.flatMap (λr=>r.flatMap ids) else []|none=>[]
def St.storeT (s:St) (d:List Id):V->List Id
 | .ptr i _ _=>match s.heap i with
  | some b=>match b.box,b.rows with
   | true,[_]=>[i]
   | _,_=>d
  | none=>d
 | _=>d
def BZ (s:St) (o:Oper):List Id:=
 let d:=o.op.operands.toList.flatMap λx=>ids (s.AQ x)
 match o.op with
 | .store _ a _=>s.storeT d (s.AQ a)
 | .load ..|.indexAddr ..|.slice ..|.convert ..|.buildSlice ..|.binOp ..=>d
 | .call {callee:=.value _,..}=>let e:=d.flatMap s.deep;d++e++e.flatMap s.deep
 | .call _=>d
 | _=>[]
def I7 (M:X9) (f:Operand->V) (o:Oper):Bool:=
 match o.op with
 | .store ..|.buildSlice ..=>true
 | .call c=>match c.callee with
  | .builtin .append|.builtin .clear=>true
  | .value x=>match f x with|.fn g _=>(M.AV g).any λm=>m != .rd|_=>true
  | _=>false
 | _=>false
structure Rec where
 pre:List Nat
 T:List Id
 w:Bool
def St.only (s:St) (T:List Id):St:={s with heap:=λid=>if T.contains id then s.heap id else none}
def W8 (e k:Nat) (id:Id):Bool:=id.1 == e&&id.2 / 1024 == k
def St.merge (s:St) (k:Nat) (T:List Id) (w:Bool) (y:St):St:={s with heap:=λid=>if W8 s.ep k id||(w&&T.contains id) then y.heap id else s.heap id}
def KW (recs:List Rec) (o:Oper):List Nat:=((o.after.toList.filter (Region.binds .any ·)).flatMap λe=>e.on::((recs[e.on]?).map (·.pre)).getD []).eraseDups
def Mh (ops:Array Oper) (e:Nat) (recs:List Rec) (pr:List Nat) (k:Nat) (o:Oper) (T:List Id) (w:Bool):Bool:=
 (o.after.toList.all λa=>!Region.binds .any a||decide (a.on < k))&&T.all (λid=>!(id.1 == e&&decide (k<=id.2 / 1024)))&&
 recs.zipIdx.all λp=>pr.contains p.2||
  (match ops[p.2]? with|some q=>q.apart ops o|none=>false)&&T.all (λid=>!W8 e p.2 id)&&p.1.T.all (λid=>!W8 e k id)&&(!(p.1.w||w)||T.all (λid=>!p.1.T.contains id))
def Fy (P:Program) (M:X9) (C:Nat->Kr) (ops:Array Oper) (s:St) (recs:List Rec):(k:Nat)->List Oper->Option St
 | _,[]=>some s
 | k,o::rest=>
  let pr:=KW recs o
  (wanted s ops o).bind λg=>
  if g then
   let T:=BZ s o
   let w:=I7 M s.AQ o
   if Mh ops s.ep recs pr k o T w then (Xn P M (C k) s.AQ (s.only T) k o).bind λy=>Fy P M C ops ((s.merge k T w y.2).put o.dst y.1) (recs++[⟨pr,T,w⟩]) (k+1) rest else none
  else if Mh ops s.ep recs pr k o [] false then Fy P M C ops (s.put o.dst (.AX [])) (recs++[⟨pr,[],false⟩]) (k+1) rest else none
inductive Ex where
 | normal|ret|exit (n:Nat)
 deriving DecidableEq
def GO (P:Program) (s:St):List ResultVar->Option (List V)
 | []=>some []
 | .tmp t::r=>match s.env t with|.undef=>none|x=>(GO P s r).map (x::·)
 | .cell a t::r=>match s.env a with
  | .ptr i j n=>(s.heap i).bind λb=>(b.rows[j]?).bind λrow=>if n+Z5 P t<=row.length then (KT P t ((row.drop n).take (Z5 P t))).bind λx=>(GO P s r).map (x::·) else none
  | _=>none
def St.BD (s:St) (ts:List (Option TypeId)):V->Option (V×St)
 | .agg cs=>(s.AL ts cs).map λy=>(.agg y.1,y.2)
 | .ptr id 0 0=>(s.Bw ts id).map λy=>(.CQ y.1,y.2)
 | x=>s.AB (ts.headD none) x
def St.liftAll (P:Program) (s:St):List TypeId->List V->Option (List V×St)
 | _,[]=>some ([],s)
 | ts,x::r=>(s.BD (Tz P (ts.headD 0)) x).bind λy=>(y.2.liftAll P ts.tail r).map λz=>(y.1::z.1,z.2)
def St.enter (s:St) (p:Nat) (m:Yw) (x:V):Option St:=
 if p < 1000 then match m with
 | .rd=>some (s.put (some p) x)
 | .io=>match x with
  | .agg cs=>(s.BC 0 (64*p) cs).map λy=>y.2.put (some p) y.1
  | _=>none
 | .mv|.EA=>match x with
  | .CQ _=>none
  | x=>(s.Bc 0 (64*p) x).map λy=>y.2.put (some p) y.1
 else none
def St.enters (s:St):(p:Nat)->List Yw->List V->Option St
 | _,_,[]=>some s
 | p,ms,x::r=>(s.enter p (ms.headD .rd) x).bind λs=>s.enters (p+1) ms.tail r
def St.Ba (s:St) (p:Nat):(k:Nat)->List V->Option (List V×St)
 | _,[]=>some ([],s)
 | k,.own e rows::r=>(s.whole (0,64*p+k) 0 rows.length).bind λer=>if er.1=e then ((s.kill (0,64*p+k)).Ba p (k+1) r).map λz=>(.own er.1 er.2::z.1,z.2) else none
 | k,_::r=>(s.Ba p (k+1) r).map λz=>(.undef::z.1,z.2)
def St.out (s:St) (p:Nat) (ts:List (Option TypeId)) (m:Yw) (x:V):Option (V×St):=
 match m with
 | .rd|.mv=>some (.undef,s)
 | .io=>match x with
  | .agg cs=>(s.Bg ts (0,64*p+63)).bind λy=>if y.1.length=cs.length then some (.agg y.1,y.2) else none
  | _=>none
 | .EA=>match x with
  | .agg cs=>(s.Ba p 0 cs).map λy=>(.agg y.1,y.2)
  | x=>(s.Ba p 0 [x]).bind λy=>(y.1.head?).map λv=>(v,y.2)
def St.outs (P:Program) (s:St):(p:Nat)->List TypeId->List Yw->List V->Option (List V)
 | _,_,_,[]=>some []
 | p,ts,ms,x::r=>(s.out p (Tz P (ts.headD 0)) (ms.headD .rd) x).bind λy=>(y.2.outs P (p+1) ts.tail ms.tail r).map (y.1::·)
def VH:List V->V
 | [x]=>x
 | l=>.AX l
end Go.Proofs.YthdljdelfgofdaaGreatDoor.Ev
namespace Go.Proofs.YthdljdelfgofdaaGreatDoor.Ev
open Go Go.RowKit
inductive Rd (w:World) (ok:Nat->Prop):Value->V->Prop
 | lit {v:Value} (h:DJ v=true):Rd w ok v (.lit v)
 | emp {A:Option Addr} {c:Nat}:Rd w ok (.slice A 0 c) (.tr [])
 | tr {g o n c sz:Nat} {rows:List (List V)} {u:Nat->Value} (hn:rows.length=n) (hc:n<=c) (hm:c<=maxLen) (hs:∀r∈rows,r.length=sz) (hg:ok g)
   (hu:∀(k:Nat) (x:V),rows.flatten[k]?=some x->w.cell? ⟨g,o+k,none⟩=some (u k)) (hr:∀(k:Nat) (x:V),rows.flatten[k]?=some x->Rd w ok (u k) x):
   Rd w ok (.slice (some ⟨g,o,none⟩) n c) (.tr rows)
 | rp {g o off:Nat} {sh:Bool} {row:List V} {u:Nat->Value} (hg:ok g)
   (hu:∀(k:Nat) (x:V),row[k]?=some x->w.cell? ⟨g,o+k,none⟩=some (u k)) (hr:∀(k:Nat) (x:V),row[k]?=some x->Rd w ok (u k) x):
   Rd w ok (.pointer (some ⟨g,o+off,none⟩)) (.rp sh row off)
 | fn {f:FuncId} {vs:Array Value} {Bv:List V} (hl:vs.size=Bv.length) (hr:∀(k:Nat) (v:Value) (x:V),vs[k]?=some v->Bv[k]?=some x->Rd w ok v x):
   Rd w ok (.func (.func f) #[] vs) (.fn f Bv)
theorem iS {w:World} {g o:Nat} {v:Value} (h:w.cell? ⟨g,o,none⟩=some v):g < w.heap.size:=by
 unfold World.cell? at h;split at h
 .rename_i c e f hc
  exact (HM.1 hc).1
 .cases h
theorem wF {w w':World} {g o:Nat} (h:w'.heap[g]?=w.heap[g]?):w'.cell? ⟨g,o,none⟩=w.cell? ⟨g,o,none⟩:=by
 unfold World.cell?;rw[h]
theorem Rd.frame {w w':World} {ok ok':Nat->Prop} {v:Value} {x:V} (h:Rd w ok v x) (hw:∀g,ok g->g < w.heap.size->w'.heap[g]?=w.heap[g]?) (Yl:∀g,ok g->g < w.heap.size->ok' g) (Yj:∀g,ok g->g < w.heap.size\/ok' g):Rd w' ok' v x:=by
 induction h with
 | lit h=>exact .lit h
 | emp=>exact .emp
 | @tr g o n c sz rows u hn hc hm hs hg hu hr ih=>
  refine .tr hn hc hm hs ?_ (λk x hk=>?_) ih
  .rcases Yj g hg with h1|h1
   .exact Yl g hg h1
   .exact h1
  .have:=hu k x hk
   rw[wF (hw g hg (iS this))];exact this
 | @rp g o off sh row u hg hu hr ih=>
  refine .rp ?_ (λk x hk=>?_) ih
  .rcases Yj g hg with h1|h1
   .exact Yl g hg h1
   .exact h1
  .have:=hu k x hk
   rw[wF (hw g hg (iS this))];exact this
 | fn hl hr ih=>exact .fn hl ih
theorem Rd.mono {w w':World} {ok ok':Nat->Prop} {v:Value} {x:V} (h:Rd w ok v x) (hw:∀g,ok g->g < w.heap.size->w'.heap[g]?=w.heap[g]?) (Yl:∀g,ok g->ok' g):Rd w' ok' v x:=
 h.frame hw (λg h _=>Yl g h) (λg h=>.inr (Yl g h))
mutual
inductive Ow (w:World):Value->V->List Nat->Prop
 | lit {v:Value} (h:DJ v=true):Ow w v (.lit v) []
 | emp {A:Option Addr}:Ow w (.slice A 0 0) (.tr []) []
 | tr {g o n c sz:Nat} {cur:Array Value} {e:TypeId} {rows:List (List V)} {fp:List Nat} (hb:w.heap[g]?=some (.cells cur e (0,0))) (hn:rows.length=n) (hc:n<=c) (hm:c<=maxLen) (hs:∀r∈rows,r.length=sz)
   (hz:o+c*sz=cur.size) (hl:B7 w ((cur.toList.drop o).take (n*sz)) rows.flatten fp):Ow w (.slice (some ⟨g,o,none⟩) n c) (.tr rows) (g::fp)
inductive B7 (w:World):List Value->List V->List Nat->Prop
 | nil:B7 w [] [] []
 | cons {v:Value} {x:V} {vs:List Value} {xs:List V} {f1 f2:List Nat} (h:Ow w v x f1) (hs:B7 w vs xs f2):B7 w (v::vs) (x::xs) (f1++f2)
end
theorem Ow.frame {w w':World} {v:Value} {x:V} {fp:List Nat} (h:Ow w v x fp):(∀g∈fp,w'.heap[g]?=w.heap[g]?)->Ow w' v x fp:=by
 apply Ow.rec (motive_1:=λv x fp _=>(∀g∈fp,w'.heap[g]?=w.heap[g]?)->Ow w' v x fp) (motive_2:=λvs xs fp _=>(∀g∈fp,w'.heap[g]?=w.heap[g]?)->B7 w' vs xs fp) ?_ ?_ ?_ ?_ ?_ h
 .intro v h _;exact .lit h
 .intro A _;exact .emp
 .intro g o n c sz cur e rows fp hb hn hc hm hs hz hl ih hw
  exact .tr (by rw[hw g BI];exact hb) hn hc hm hs hz (ih λk hk=>hw k (Cg _ hk))
 .intro _;exact .nil
 .intro v x vs xs f1 f2 h hs VI VJ hw
  exact .cons (VI λk hk=>hw k (CH _ hk)) (VJ λk hk=>hw k (D3 _ hk))
theorem B7.frame {w w':World} {vs:List Value} {xs:List V} {fp:List Nat} (h:B7 w vs xs fp):(∀g∈fp,w'.heap[g]?=w.heap[g]?)->B7 w' vs xs fp:=by
 induction xs generalizing vs fp with
 | nil=>intro _;cases h;exact .nil
 | cons x xs ih=>
  intro hw;cases h with
  | cons h hs=>exact .cons (h.frame λg hg=>hw g (CH _ hg)) (ih hs λg hg=>hw g (D3 _ hg))
theorem B7.get {w:World} {vs:List Value} {xs:List V} {fp:List Nat} (h:B7 w vs xs fp):∀(k:Nat) (x:V),xs[k]?=some x->∃v f,vs[k]?=some v/\Ow w v x f/\∀g∈f,g∈fp:=by
 induction xs generalizing vs fp with
 | nil=>intro k x hk;simp at hk
 | cons y ys ih=>
  intro k x hk;cases h with
  | @cons v _ vs _ f1 f2 h hs=>
   cases k with
   | zero=>
    have wG:y=x:=by simpa using hk
    subst wG;exact⟨v,f1,rfl,h,λg hg=>CH _ hg⟩
   | succ k=>
    obtain⟨v',f,h1,h2,h3⟩:=ih hs k x (by simpa using hk);exact⟨v',f,by simpa using h1,h2,λg hg=>D3 _ (h3 g hg)⟩
theorem B7.length {w:World} {vs:List Value} {xs:List V} {fp:List Nat} (h:B7 w vs xs fp):vs.length=xs.length:=by
 induction xs generalizing vs fp with
 | nil=>cases h;rfl
 | cons y ys ih=>cases h with|cons h hs=>simp[ih hs]
theorem Ow.rd {w:World} {ok:Nat->Prop} {v:Value} {x:V} {fp:List Nat} (h:Ow w v x fp):(∀g∈fp,ok g)->Rd w ok v x:=by
 apply Ow.rec (motive_1:=λv x fp _=>(∀g∈fp,ok g)->Rd w ok v x) (motive_2:=λvs xs fp _=>(∀g∈fp,ok g)->∀(k:Nat) (x:V),xs[k]?=some x->∃v,vs[k]?=some v/\Rd w ok v x) ?_ ?_ ?_ ?_ ?_ h
 .intro v h _;exact .lit h
 .intro A _;exact .emp
 .intro g o n c sz cur e rows fp hb hn hc hm hs hz hl ih hw
  have ih':=ih λk hk=>hw k (Cg _ hk);refine .tr (u:=λk=>((cur.toList.drop o).take (n*sz)).getD k undef) hn hc hm hs (hw g BI) (λk x hk=>?_) (λk x hk=>?_)
  .obtain⟨v,hv,_⟩:=ih' k x hk
   rw[cell_of_row w g _ cur e (0,0) hb,Py,hv];rw[Dr] at hv;split at hv
   .simpa using hv
   .cases hv
  .obtain⟨v,hv,hr⟩:=ih' k x hk
   rw[Py,hv];exact hr
 .intro _ k x hk;simp at hk
 .intro v x vs xs f1 f2 h hs VI VJ hw k y hk
  cases k with
  | zero=>
   have:x=y:=by simpa using hk
   subst this;exact⟨v,rfl,VI λg hg=>hw g (CH _ hg)⟩
  | succ k=>
   obtain⟨v',h1,h2⟩:=VJ (λg hg=>hw g (D3 _ hg)) k y (by simpa using hk);exact⟨v',by simpa using h1,h2⟩
theorem B7.rd {w:World} {ok:Nat->Prop} {vs:List Value} {xs:List V} {fp:List Nat} (h:B7 w vs xs fp) (hg:∀g∈fp,ok g) {k:Nat} {x:V} (hk:xs[k]?=some x):∃v,vs[k]?=some v/\Rd w ok v x:=by
 obtain⟨v,f,h1,h2,h3⟩:=h.get k x hk;exact⟨v,h1,h2.rd λg h=>hg g (h3 g h)⟩
theorem Ow.lt {w:World} {v:Value} {x:V} {fp:List Nat} (h:Ow w v x fp):∀g∈fp,g < w.heap.size:=by
 apply Ow.rec (motive_1:=λv x fp _=>∀g∈fp,g < w.heap.size) (motive_2:=λvs xs fp _=>∀g∈fp,g < w.heap.size) ?_ ?_ ?_ ?_ ?_ h
 .intro v h g hg;simp at hg
 .intro A g hg;simp at hg
 .intro g o n c sz cur e rows fp hb hn hc hm hs hz hl ih k hk
  rcases BX.1 hk with rfl|hk
  .exact (HM.1 hb).1
  .exact ih k hk
 .intro g hg;simp at hg
 .intro v x vs xs f1 f2 h hs VI VJ g hg
  rcases BP.1 hg with hg|hg
  .exact VI g hg
  .exact VJ g hg
theorem B7.lt {w:World} {vs:List Value} {xs:List V} {fp:List Nat} (h:B7 w vs xs fp):∀g∈fp,g < w.heap.size:=by
 induction xs generalizing vs fp with
 | nil=>cases h;intro g hg;simp at hg
 | cons x xs ih=>
  cases h with
  | cons h hs=>
   intro g hg;rcases BP.1 hg with hg|hg
   .exact h.lt g hg
   .exact ih hs g hg
theorem B7.append {w:World} {vs us:List Value} {xs ys:List V} {f1 f2:List Nat} (h1:B7 w vs xs f1) (h2:B7 w us ys f2):B7 w (vs++us) (xs++ys) (f1++f2):=by
 induction xs generalizing vs f1 with
 | nil=>cases h1;exact h2
 | cons x xs ih=>
  cases h1 with
  | cons h hs=>rw[List.append_assoc];exact .cons h (ih hs)
theorem Ow.one {w:World} {v:Value} {x:V} {fp:List Nat} (h:Ow w v x fp):v.oneCell'=true:=by
 cases h with
 | lit h=>cases v<;>simp_all [DJ,Value.oneCell']
 | emp=>rfl
 | tr=>rfl
theorem B7.one {w:World} {vs:List Value} {xs:List V} {fp:List Nat} (h:B7 w vs xs fp):∀u∈vs,u.oneCell'=true:=by
 induction xs generalizing vs fp with
 | nil=>cases h;intro u hu;simp at hu
 | cons x xs ih=>
  cases h with
  | cons h hs=>
   intro u hu;rcases BX.1 hu with rfl|hu
   .exact h.one
   .exact ih hs u hu
theorem Rd.one {w:World} {ok:Nat->Prop} {v:Value} {x:V} (h:Rd w ok v x):v.oneCell'=true:=by
 cases h with
 | lit h=>cases v<;>simp_all [DJ,Value.oneCell']
 | emp=>rfl
 | tr=>rfl
 | rp=>rfl
 | fn=>rfl
inductive GP where
 | emp
 | Bn (g o c sz:Nat)
abbrev AZ:=Id->Option GP
inductive En (w:World) (ok:Nat->Prop) (U:AZ):Value->V->Prop
 | undef {v:Value}:En w ok U v .undef
 | lit {v:Value} (h:DJ v=true):En w ok U v (.lit v)
 | tr {v:Value} {rows:List (List V)} (h:Rd w ok v (.tr rows)):En w ok U v (.tr rows)
 | vw {v:Value} {rows:List (List V)} (h:Rd w ok v (.tr rows)):En w ok U v (.vw rows)
 | rp {v:Value} {sh:Bool} {row:List V} {off:Nat} (h:Rd w ok v (.rp sh row off)):En w ok U v (.rp sh row off)
 | ptr {id:Id} {g o c sz i off:Nat} (h:U id=some (.Bn g o c sz)):En w ok U (.pointer (some ⟨g,o+i*sz+off,none⟩)) (.ptr id i off)
 | sl {id:Id} {g o c sz off len:Nat} (h:U id=some (.Bn g o c sz)) (hc:off+len<=c):En w ok U (.slice (some ⟨g,o+off*sz,none⟩) len (c - off)) (.sl id off len)
 | sle {id:Id} {A:Option Addr} {off:Nat} (h:(U id).isSome=true):En w ok U (.slice A 0 0) (.sl id off 0)
 | fn {f:FuncId} {vs:Array Value} {Bv:List V} (hl:vs.size=Bv.length) (hr:∀(k:Nat) (v:Value) (x:V),vs[k]?=some v->Bv[k]?=some x->En w ok U v x):En w ok U (.func (.func f) #[] vs) (.fn f Bv)
 | agg {vs:Array Value} {cs:List V} (hl:vs.size=cs.length) (hc:∀x∈cs,AG x=true) (hr:∀(k:Nat) (v:Value) (x:V),vs[k]?=some v->cs[k]?=some x->En w ok U v x):En w ok U (.agg vs) (.agg cs)
 | AX {vs:Array Value} {cs:List V} (hl:vs.size=cs.length) (hr:∀(k:Nat) (v:Value) (x:V),vs[k]?=some v->cs[k]?=some x->En w ok U v x):En w ok U (.tuple vs) (.AX cs)
structure I8 (w w':World) (ok ok':Nat->Prop):Prop where
 heap:∀g,ok g->g < w.heap.size->w'.heap[g]?=w.heap[g]?
 VK:∀g,ok g->g < w.heap.size->ok' g
 size:w.heap.size<=w'.heap.size
theorem Rd.CE {w w':World} {ok ok':Nat->Prop} (hk:I8 w w' ok ok') {v:Value} {x:V} (h:Rd w (λg=>ok g/\g < w.heap.size) v x):Rd w' (λg=>ok' g/\g < w'.heap.size) v x:=
 h.mono (λg hg _=>hk.heap g hg.1 hg.2) (λg hg=>⟨hk.VK g hg.1 hg.2,Hq hg.2 hk.size⟩)
theorem En.CE {w w':World} {ok ok':Nat->Prop} {U U':AZ} (hk:I8 w w' ok ok') (hU:∀id i,U id=some i->U' id=some i) {v:Value} {x:V} (h:En w (λg=>ok g/\g < w.heap.size) U v x):
  En w' (λg=>ok' g/\g < w'.heap.size) U' v x:=by
 induction h with
 | undef=>exact .undef
 | lit h=>exact .lit h
 | tr h=>exact .tr (h.CE hk)
 | vw h=>exact .vw (h.CE hk)
 | rp h=>exact .rp (h.CE hk)
 | ptr h=>exact .ptr (hU _ _ h)
 | sl h hc=>exact .sl (hU _ _ h) hc
 | sle h=>
  refine .sle ?_;obtain⟨i,hi⟩:=Ft.1 h;rw[hU _ _ hi];rfl
 | fn hl hr ih=>exact .fn hl ih
 | agg hl hc hr ih=>exact .agg hl hc ih
 | AX hl hr ih=>exact .AX hl ih
def AK (s:St) (U:AZ) (g:Nat):Prop:=∃id b o c sz,s.heap id=some b/\b.own=true/\U id=some (.Bn g o c sz)
def AI (s:St) (U:AZ) (w:World) (g:Nat):Prop:=¬AK s U g/\g < w.heap.size
def Xw (P:Program) (w:World) (ok:Nat->Prop) (U:AZ) (i:Option GP) (F:List Nat) (b:Be):Prop:=
 match b.box,b.own with
 | true,_=>b.own=true/\∃g cur e row,i=some (.Bn g 0 1 row.length)/\w.heap[g]?=some (.cells cur e (0,0))/\b.rows=[row]/\cur.size=row.length/\
   (∀(k:Nat) (v:Value) (x:V),cur[k]?=some v->row[k]?=some x->En w ok U v x)/\(∀x∈row,AG x=true)/\F=[g]
 | false,true=>(i=some .emp/\b.rows=[]/\F=[])\/
   ∃g o c cur,i=some (.Bn g o c (P.cellsOf b.el))/\w.heap[g]?=some (.cells cur b.el (0,0))/\b.rows.length<=c/\c<=maxLen/\(∀r∈b.rows,r.length=P.cellsOf b.el)/\o+c*P.cellsOf b.el=cur.size/\
    ∃fp,F=g::fp/\(b.cl=true->B7 w ((cur.toList.drop o).take (b.rows.length*P.cellsOf b.el)) b.rows.flatten fp)/\
     (b.cl=false->fp=[]/\∀(k:Nat) (x:V),b.rows.flatten[k]?=some x->∃v,cur[o+k]?=some v/\Rd w ok v x)
 | false,false=>F=[]/\((i=some .emp/\b.rows=[])\/∃g o c sz,i=some (.Bn g o c sz)/\(∀r∈b.rows,r.length=sz)/\Rd w ok (.slice (some ⟨g,o,none⟩) b.rows.length c) (.tr b.rows))
theorem Xw.I9 {P:Program} {w:World} {ok:Nat->Prop} {U:AZ} {i:Option GP} {F:List Nat} {b:Be} (Xp:b.box=true) (Yz:b.own=true) {g:Nat} {cur:Array Value} {e:TypeId} {row:List V} (hi:i=some (.Bn g 0 1 row.length)) (hg:w.heap[g]?=some (.cells cur e (0,0))) (hr:b.rows=[row]) (hs:cur.size=row.length)
  (he:∀(k:Nat) (v:Value) (x:V),cur[k]?=some v->row[k]?=some x->En w ok U v x) (hc:∀x∈row,AG x=true) (hF:F=[g]):Xw P w ok U i F b:=by
 unfold Xw;rw[Xp];exact⟨Yz,g,cur,e,row,hi,hg,hr,hs,he,hc,hF⟩
theorem Xw.Cu {P:Program} {w:World} {ok:Nat->Prop} {U:AZ} {i:Option GP} {F:List Nat} {b:Be} (Xp:b.box=false) (Yz:b.own=true) {g o c:Nat} {cur:Array Value} {fp:List Nat} (hi:i=some (.Bn g o c (P.cellsOf b.el))) (hg:w.heap[g]?=some (.cells cur b.el (0,0))) (hl:b.rows.length<=c) (hm:c<=maxLen)
  (hu:∀r∈b.rows,r.length=P.cellsOf b.el) (hz:o+c*P.cellsOf b.el=cur.size) (hF:F=g::fp) (h1:b.cl=true->B7 w ((cur.toList.drop o).take (b.rows.length*P.cellsOf b.el)) b.rows.flatten fp)
  (h2:b.cl=false->fp=[]/\∀(k:Nat) (x:V),b.rows.flatten[k]?=some x->∃v,cur[o+k]?=some v/\Rd w ok v x):Xw P w ok U i F b:=by
 unfold Xw;rw[Xp,Yz];exact .inr ⟨g,o,c,cur,hi,hg,hl,hm,hu,hz,fp,hF,h1,h2⟩
theorem Xw.IA {P:Program} {w:World} {ok:Nat->Prop} {U:AZ} {i:Option GP} {F:List Nat} {b:Be} (Xp:b.box=false) (Yz:b.own=true) (hi:i=some .emp) (hr:b.rows=[]) (hF:F=[]):Xw P w ok U i F b:=by
 unfold Xw;rw[Xp,Yz];exact .inl ⟨hi,hr,hF⟩
def PA (i:Option GP):Prop:=∃g o c sz,i=some (.Bn g o c sz)/\0 < c
class Anchor where
 w:World
def Mi [A:Anchor] (w:World) (T:Nat->Prop):Prop:=A.w.heap.size<=w.heap.size/\(∀k,k < A.w.heap.size->w.heap[k]?=A.w.heap[k]?)/\∀g,T g->A.w.heap.size<=g
structure VL [Anchor] (B:Nat) (io:Nat->Prop) (w:World):Prop where
 base:B<=w.heap.size
 Fz:Mi w (λg=>io g\/B<=g)
variable [Anchor]
structure Rel (P:Program) (B:Nat) (io:Nat->Prop) (w:World) (tmps:Array Value) (s:St) (U:AZ) (F:Id->List Nat) (fl:List Nat):Prop where
 env:∀(t:Nat) (v:Value),tmps[t]?=some v->En w (AI s U w) U v (s.env t)
 out:∀t,tmps.size<=t->s.env t=.undef
 heap:∀id b,s.heap id=some b->Xw P w (AI s U w) U (U id) (F id) b
 CR:∀id b,s.heap id=some b->b.own=true->∀g∈F id,g < w.heap.size
 top:∀id b,s.heap id=some b->b.own=true->PA (U id)->∀g,(F id).head?=some g->io g\/B<=g
 apart:∀id Ax b b',s.heap id=some b->b.own=true->s.heap Ax=some b'->b'.own=true->id≠Ax->∀g∈F id,g ∉ F Ax
 once:∀id b,s.heap id=some b->b.own=true->(F id).Nodup
 CB:∀id,(U id).isSome=true->id.1<=s.ep
 Cv:VL B io w
 AS:∀g∈fl,g < w.heap.size
 A8:∀id b,s.heap id=some b->b.own=true->∀g∈F id,g ∉ fl
 AU:fl.Nodup
structure C3 (B:Nat) (io:Nat->Prop) (w w':World):Prop where
 os:w'.os=w.os
 tape:w'.tape=w.tape
 output:w'.output=w.output
 size:w.heap.size<=w'.heap.size
 block:∀k,k < B->¬io k->w'.heap[k]?=w.heap[k]?
theorem VL.step {B:Nat} {io:Nat->Prop} {w w':World} (h:VL B io w) (hs:w.heap.size<=w'.heap.size) (hA:∀k,k < B->¬io k->w'.heap[k]?=w.heap[k]?):VL B io w':=
 ⟨I1 h.base hs,I1 h.Fz.1 hs,λk hk=>by
  rw[hA k (by
   refine vU (λhle=>?_);have:=h.Fz.2.2 k (.inr hle);omega) (λHw=>by have:=h.Fz.2.2 k (.inl Hw);omega)]
  exact h.Fz.2.1 k hk,h.Fz.2.2⟩
theorem Rel.base {P:Program} {B:Nat} {io:Nat->Prop} {w:World} {tmps:Array Value} {s:St} {U:AZ} {F:Id->List Nat} {fl:List Nat} (h:Rel P B io w tmps s U F fl):B<=w.heap.size:=h.Cv.base
theorem C3.refl (B:Nat) (io:Nat->Prop) (w:World):C3 B io w w:=⟨rfl,rfl,rfl,B2 _,λ_ _ _=>rfl⟩
theorem C3.trans {B:Nat} {io:Nat->Prop} {a b c:World} (h:C3 B io a b) (k:C3 B io b c):C3 B io a c:=
 ⟨k.os.trans h.os,k.tape.trans h.tape,k.output.trans h.output,I1 h.size k.size,λi hi hn=>(k.block i hi hn).trans (h.block i hi hn)⟩
theorem C3.below {B:Nat} {w w':World} (h:C3 B (λ_=>False) w w'):Below B w w':=⟨h.os,h.tape,h.output,h.size,λk hk=>h.block k hk id⟩
theorem Xw.top {P:Program} {w:World} {ok:Nat->Prop} {U:AZ} {g o c sz:Nat} {F:List Nat} {b:Be} (h:Xw P w ok U (some (.Bn g o c sz)) F b) (ho:b.own=true):g∈F:=by
 unfold Xw at h;split at h
 .obtain⟨_,g',cur,e,row,hi,_,_,_,_,_,hF⟩:=h
  cases hi;rw[hF];exact BI
 .rcases h with⟨hi,_⟩|⟨g',o',c',cur,hi,_,_,_,_,_,fp,hF,_⟩
  .cases hi
  .cases hi
   rw[hF];exact BI
 .rename_i h1 h2
  rw[ho] at h2;cases h2
theorem Xw.CE {P:Program} {w w':World} {ok ok':Nat->Prop} {U U':AZ} {i:Option GP} {F:List Nat} {b:Be} (hk:I8 w w' ok ok') (hU:∀id i,U id=some i->U' id=some i)
  (h:Xw P w (λg=>ok g/\g < w.heap.size) U i F b) (hF:∀g∈F,w'.heap[g]?=w.heap[g]?):Xw P w' (λg=>ok' g/\g < w'.heap.size) U' i F b:=by
 unfold Xw at h ⊢;split at h
 .obtain⟨h1,g,cur,e,row,hi,hg,hr,hs,he,VM,rfl⟩:=h
  exact⟨h1,g,cur,e,row,hi,by rw[hF g BI];exact hg,hr,hs,λk v x hv hx=>(he k v x hv hx).CE hk hU,VM,rfl⟩
 .rcases h with h|⟨g,o,c,cur,hi,hg,hl,hm,hu,hz,fp,rfl,h1,h2⟩
  .exact .inl h
  .refine .inr ⟨g,o,c,cur,hi,by rw[hF g BI];exact hg,hl,hm,hu,hz,fp,rfl,λhc=>(h1 hc).frame λk Qg=>hF k (Cg _ Qg),λhc=>⟨(h2 hc).1,λk x hx=>?_⟩⟩
   obtain⟨v,hv,hr⟩:=(h2 hc).2 k x hx;exact⟨v,hv,hr.CE hk⟩
 .obtain⟨h0,h⟩:=h
  refine⟨h0,?_⟩;rcases h with h|⟨g,o,c,sz,hi,hu,hr⟩
  .exact .inl h
  .exact .inr ⟨g,o,c,sz,hi,hu,hr.CE hk⟩
end Go.Proofs.YthdljdelfgofdaaGreatDoor.Ev
namespace Go.Proofs.YthdljdelfgofdaaGreatDoor.Ev
open Go Go.RowKit
variable [Anchor]
theorem Xcw {α:Type} {P:Program} {x:Sem α} {a:α} (h:eval? P x=some a) (w:World):x.run P w=.ok a w:=by
 induction x with
 | pure b=>simp only[eval?,AF] at h;subst h;rfl
 | program k ih=>simp only[eval?] at h;exact ih P h
 | _=>simp[eval?] at h
def Ci (P:Program) (o:Oper) (a:Act) (w:World) (CF:Value->World->Prop):Prop:=
 match (execOp a.eval o).run P w with
 | .ok (.value v) w'=>CF v w'
 | .ok .skip w'=>CF undef w'
 | _=>False
theorem Ci.wp {P:Program} {o:Oper} {a:Act} {w:World} {CF:Value->World->Prop} (h:Ci P o a w CF) {K:Act->World->Prop} {Q:Exit->Act->World->Prop} (hK:∀v w',CF v w'->K (a.put o.dst v) w'):o.wp P a w K Q:=by
 unfold Ci at h;unfold Oper.wp;split at h
 .rename_i heq;rw[heq];exact hK _ _ h
 .rename_i heq;rw[heq];exact hK _ _ h
 .exact h.elim
theorem Ci.value {P:Program} {o:Oper} {a:Act} {w w':World} {v:Value} {CF:Value->World->Prop} (h:(execOp a.eval o).run P w=.ok (.value v) w') (hp:CF v w'):Ci P o a w CF:=by
 unfold Ci;rw[h];exact hp
theorem Ci.skip {P:Program} {o:Oper} {a:Act} {w w':World} {CF:Value->World->Prop} (h:(execOp a.eval o).run P w=.ok .skip w') (hp:CF undef w'):Ci P o a w CF:=by
 unfold Ci;rw[h];exact hp
theorem Yh9 {U U':Operand->Value} {o:Oper} (hp:ND o.op=true) (h:∀x∈o.op.operands.toList,U x=U' x):execOp U o=execOp U' o:=by
 obtain⟨dst,op,type,pos,after,guard⟩:=o;cases op<;>simp only[ND,Bp] at hp
 case binOp op t x y yt=>
  have h1:=h x (by simp[Op.operands]);have h2:=h y (by simp[Op.operands]);simp only[execOp,h1,h2]
 case unOp op t x=>
  have h1:=h x (by simp[Op.operands]);simp only[execOp,h1]
 case convert s d x=>
  have h1:=h x (by simp[Op.operands]);simp only[execOp,h1]
 case field t x i=>
  have h1:=h x (by simp[Op.operands]);simp only[execOp,h1]
 case index t x i=>
  have h1:=h x (by simp[Op.operands]);have h2:=h i (by simp[Op.operands]);simp only[execOp,h1,h2]
 case slice t x l hi m=>
  have h1:=h x (by simp[Op.operands]);have h2:l.map U=l.map U':=by cases l<;>simp;exact h _ (by simp[Op.operands])
  have h3:hi.map U=hi.map U':=by cases hi<;>simp;exact h _ (by simp[Op.operands])
  have h4:m.map U=m.map U':=by cases m<;>simp;exact h _ (by simp[Op.operands])
  simp only[execOp,h1,h2,h3,h4]
 case call c=>
  obtain⟨callee,args,ats⟩:=c;have ha:∀b:Builtin,callee=.builtin b->args.map U=args.map U':=by
   intro b hb;apply Array.map_congr_left;intro x hx;exact h x (by simp[Op.operands,Call.operands,hb];exact hx)
  cases callee with
  | value f=>simp at hp
  | invoke r m=>simp at hp
  | builtin b=>simp only[execOp,resolve,ha b rfl]
theorem Xct {w:World} {ok:Nat->Prop} {U:AZ} {v v':Value} {x:V} (h:En w ok U v x) (ht:Qu x=some v'):v=v':=by
 cases x<;>simp only[Qu] at ht<;>try cases ht
 case lit=>cases h;rfl
 case agg cs=>
  cases h with
  | @agg vs _ hl hc hr=>
   cases hL:EZ cs with
   | none=>rw[hL] at ht;cases ht
   | some l=>
    rw[hL] at ht;simp only[DI,AF] at ht;subst ht
    congr 1
    have key:∀(cs:List V) (l:List Value),EZ cs=some l->cs=l.map .lit:=by
     intro cs
     induction cs with
     | nil=>intro l h;simp only[EZ,AF] at h;subst h;rfl
     | cons c cs ih=>
      intro l h;cases c<;>simp only[EZ] at h<;>try cases h
      rename_i v;cases hr:EZ cs with
      | none=>rw[hr] at h;cases h
      | some l'=>rw[hr] at h;simp only[DI,AF] at h;subst h;rw[ih l' hr];rfl
    have BQ:=key cs l hL;subst BQ;apply Array.ext_getElem?;intro k;rw[GL] at hl;simp only[iB];by_cases hk:k < vs.size
    .have h1:vs[k]?=some vs[k]:=Var hk
     have h2:l[k]?=some (l[k]'(by omega)):=C6 (by omega);have h3:=hr k vs[k] (.lit (l[k]'(by omega))) h1 (by rw[D5,h2];rfl);rw[h1,h2];generalize (l[k]'(by omega))=y at h3;generalize vs[k]=z at h3;cases h3;rfl
    .rw[vJ (by omega),Tr (by omega)]
theorem Yyr {w:World} {ok:Nat->Prop} {U:AZ} {v:Value} {x:V} (h:GN v=some x):En w ok U v x:=by
 unfold GN at h;split at h
 .split at h
  .rename_i cs hs
   simp only[AF] at h;subst h;refine .agg (by simp) (λx hx=>by obtain⟨u,_,rfl⟩:=D7.1 hx;rfl) (λk v x hv hx=>?_);simp only[D5,AM] at hx;obtain⟨u,hu,rfl⟩:=hx;have:u=v:=by
    have h1:cs.toList[k]?=some v:=by simpa using hv
    rw[h1] at hu;injection hu with hu;exact hu.symm
   subst this;exact .lit (Cf.1 hs _ (E8 hu))
  .cases h
 .split at h
  .rename_i hs
   simp only[AF] at h;subst h;exact .lit hs
  .cases h
theorem Rel.AQ {P:Program} {B:Nat} {io:Nat->Prop} {w:World} {a:Act} {s:St} {U:AZ} {F:Id->List Nat} {fl:List Nat} (h:Rel P B io w a.tmps s U F fl) (x:Operand):En w (AI s U w) U (a.eval x) (s.AQ x):=by
 cases x with
 | tmp t=>
  simp only[St.AQ,Act.eval];by_cases ht:t < a.tmps.size
  .have h1:a.tmps[t]?=some a.tmps[t]:=Var ht
   have:=h.env t a.tmps[t] h1;rw[Pw,h1];exact this
  .rw[h.out t (iH ht)];exact .undef
 | const v=>
  simp only[St.AQ,Act.eval];cases hv:GN v with
  | none=>exact .undef
  | some x=>exact Yyr hv
 | global g=>exact .undef
 | func f=>exact .fn rfl (λk v x hv hx=>by simp at hx)
structure Cj (P:Program) (B:Nat) (io:Nat->Prop) (w:World) (tmps:Array Value) (s:St) (U:AZ) (fl:List Nat) (k:Nat) (v:V) (s':St) (val:Value) (w':World):Prop where
 env:s'.env=s.env
 ep:s'.ep=s.ep
 left:C3 B io w w'
 ex:∃U' F',Rel P B io w' tmps s' U' F' fl/\En w' (AI s' U' w') U' val v/\(∀id i,U id=some i->U' id=some i)/\(∀id,(U' id).isSome=true->(U id).isSome=true\/(id.1=s.ep/\id.2 / 1024=k))
theorem Cj.same {P:Program} {B:Nat} {io:Nat->Prop} {w:World} {a:Act} {s:St} {U:AZ} {F:Id->List Nat} {fl:List Nat} {k:Nat} {v:V} {val:Value} (h:Rel P B io w a.tmps s U F fl) (hv:En w (AI s U w) U val v):Cj P B io w a.tmps s U fl k v s val w:=
 ⟨rfl,rfl,C3.refl _ _ _,U,F,h,hv,λ_ _ h=>h,λ_ h=>.inl h⟩
theorem Y8h {P:Program} {B:Nat} {io:Nat->Prop} {w:World} {a:Act} {s:St} {U:AZ} {F:Id->List Nat} {fl:List Nat} {k:Nat} {o:Oper} {v:V} (h:Rel P B io w a.tmps s U F fl) (he:Qj P s.AQ o=some v):
  Ci P o a w (Cj P B io w a.tmps s U fl k v s):=by
 unfold Qj at he;split at he
 .rename_i hc
  rw[Bh] at hc;obtain⟨hp,Je⟩:=hc;split at he
  .rename_i val Hx
   have hcg:execOp a.eval o=execOp (λx=>(Qu (s.AQ x)).getD undef) o:=Yh9 hp (λx hx=>by
    have h1:=Cf.1 Je x hx;obtain⟨u,hu⟩:=Ft.1 h1;rw[hu];exact Xct (h.AQ x) hu)
   exact .value (by rw[hcg];exact Xcw Hx w) (.same h (Yyr he))
  .cases he
 .cases he
theorem T0 {α:Type} {sz:Nat}:∀{rows:List (List α)} {i j:Nat} {row:List α} {x:α},(∀r∈rows,r.length=sz)->rows[i]?=some row->row[j]?=some x->rows.flatten[i*sz+j]?=some x:=by
 intro rows
 induction rows with
 | nil=>intro i j row x _ h;simp at h
 | cons r rs ih=>
  intro i j row x hs hi hj;have hr:r.length=sz:=hs r BI;cases i with
  | zero=>
   have:r=row:=by simpa using hi
   subst this;rw[Ee,EW (by have:=(Dg.1 hj).1;omega)];simpa using hj
  | succ i=>
   have h1:=ih (λr h=>hs r (Cg _ h)) (by simpa using hi) hj;rw[Ee,Fq (by rw[hr,KR];omega),hr];rw[show (i+1)*sz+j - sz=i*sz+j by rw[KR];omega];exact h1
theorem Rd.en {w:World} {ok:Nat->Prop} {U:AZ} {v:Value} {x:V} (h:Rd w ok v x):En w ok U v x:=by
 induction h with
 | lit h=>exact .lit h
 | emp=>exact .tr .emp
 | tr hn hc hm hs hg hu hr ih=>exact .tr (.tr hn hc hm hs hg hu hr)
 | rp hg hu hr ih=>exact .rp (.rp hg hu hr)
 | fn hl hr ih=>exact .fn hl ih
theorem Rd.AG {w:World} {ok:Nat->Prop} {v:Value} {x:V} (h:Rd w ok v x):AG x=true:=by
 cases h<;>rfl
section
variable {P:Program} {B:Nat} {io:Nat->Prop} {w:World} {a:Act} {tmps:Array Value} {s:St} {U:AZ} {F:Id->List Nat} {fl:List Nat}
theorem Rel.cell (h:Rel P B io w tmps s U F fl) {id:Id} {b:Be} {g o c sz i j:Nat} {row:List V} {x:V} (hb:s.heap id=some b) (hU:U id=some (.Bn g o c sz)) (hi:b.rows[i]?=some row) (hj:row[j]?=some x):
  ∃u,w.cell? ⟨g,o+i*sz+j,none⟩=some u/\(b.box=true->En w (AI s U w) U u x)/\(b.box=false->Rd w (AI s U w) u x):=by
 have hB:=h.heap id b hb;rw[hU] at hB;have hF:b.own=true->∀k∈F id,k≠g->AI s U w k:=λho k hk Yj=>by
  refine⟨?_,h.CR id b hb ho k hk⟩;rintro⟨Ax,b',o',c',Cy,Y1,BS,Dt⟩;have ht:k∈F Ax:=by
   have:=h.heap Ax b' Y1;rw[Dt] at this;exact this.top BS
  by_cases e:Ax=id
  .subst e
   rw[hU] at Dt;injection Dt with Dt;injection Dt with hg;exact Yj hg.symm
  .exact h.apart Ax id b' b Y1 BS hb ho e k ht hk
 unfold Xw at hB;split at hB
 .rename_i Xp
  obtain⟨_,g',cur,e,Ck,Y7,hg,hr,hs,he,h1,_⟩:=hB;cases Y7;rw[hr] at hi;have:i=0/\Ck=row:=by
   cases i with
   | zero=>exact⟨rfl,by simpa using hi⟩
   | succ i=>simp at hi
  obtain⟨rfl,rfl⟩:=this;have KX:=(Dg.1 hj).1;have hc:cur[j]?=some cur[j]:=Var (by omega);refine⟨cur[j],?_,λ_=>he j _ x hc hj,λhf=>by rw[Xp] at hf;cases hf⟩;rw[show 0+0*Ck.length+j=j by omega,cell_of_row w g j cur e (0,0) hg];exact hc
 .rename_i Xp Yz
  rcases hB with⟨Y7,_⟩|⟨g',o',c',cur,Y7,hg,hl,hm,hu,hz,fp,CZ,h1,h2⟩
  .cases Y7
  .cases Y7
   have hk:=T0 hu hi hj;cases Qf:b.cl with
   | true=>
    have hfp:∀k∈fp,AI s U w k:=λk hk=>hF Yz k (by rw[CZ];exact Cg _ hk) (by
     rintro rfl;have:=h.once id b hb Yz;rw[CZ] at this;exact (EY.1 this).1 hk)
    obtain⟨v,hv,hr⟩:=(h1 Qf).rd hfp hk;refine⟨v,?_,λhf=>(by rw[Xp] at hf;cases hf),λ_=>hr⟩;rw[Dr] at hv;split at hv
    .rw[cell_of_row w g _ cur b.el (0,0) hg,Nat.add_assoc]
     simpa using hv
    .cases hv
   | false=>
    obtain⟨v,hv,hr⟩:=(h2 Qf).2 _ x hk;refine⟨v,?_,λhf=>(by rw[Xp] at hf;cases hf),λ_=>hr⟩;rw[cell_of_row w g _ cur b.el (0,0) hg,Nat.add_assoc];exact hv
 .rename_i Xp Yz
  obtain⟨_,hB⟩:=hB;rcases hB with⟨Y7,_⟩|⟨g',o',c',Cy,Y7,hu,hr⟩
  .cases Y7
  .cases Y7
   have hk:=T0 hu hi hj;generalize b.rows=rows at hr hi hk hu;generalize hn:rows.length=n at hr;cases hr with
   | emp=>simp at hi
   | @tr _ _ _ _ wH _ u T1 PB Dm HR Yi Cn Cl=>
    have:=Cn _ x hk;exact⟨u (i*sz+j),by rw[Nat.add_assoc];exact this,λhf=>(by rw[Xp] at hf;cases hf),λ_=>Cl _ x hk⟩
theorem Rel.F0 (h:Rel P B io w tmps s U F fl) {id:Id} {b:Be} {j:Nat} {row:List V} (hb:s.heap id=some b) (Xp:b.box=true) (hr:b.rows[j]?=some row):∀x∈row,AG x=true:=by
 have hB:=h.heap id b hb;unfold Xw at hB;rw[Xp] at hB;obtain⟨_,g,cur,e,Ck,_,_,hrs,_,_,hc,_⟩:=hB;rw[hrs] at hr;cases j with
 | zero=>
      have:Ck=row:=by simpa using hr
      subst this;exact hc
 | succ j=>simp at hr
end
section
variable {P:Program} {B:Nat} {io:Nat->Prop} {w:World} {a:Act} {s:St} {U:AZ} {F:Id->List Nat} {fl:List Nat} {k:Nat} {o:Oper} {v:V}
theorem Y3k (h:Rel P B io w a.tmps s U F fl) {x:Operand} (ho:o.op=.move x\/o.op=.assign x) (he:s.AQ x=v):Ci P o a w (Cj P B io w a.tmps s U fl k v s):=by
 subst he;have hr:(execOp a.eval o).run P w=.ok (.value (a.eval x)) w:=by
  rcases ho with ho|ho<;>simp[execOp,ho]
 exact .value hr (.same h (h.AQ x))
theorem Xfb (h:Rel P B io w a.tmps s U F fl) {c x y:Operand} {t:Bool} (ho:o.op=.pick c x y) (hc:s.AQ c=.lit (.bool t)) (he:(if t then s.AQ x else s.AQ y)=v):Ci P o a w (Cj P B io w a.tmps s U fl k v s):=by
 have h1:=h.AQ c;rw[hc] at h1;generalize hb:a.eval c=b at h1;cases h1;have hr:(execOp a.eval o).run P w=.ok (.value (if t then a.eval x else a.eval y)) w:=by
  cases t<;>simp[execOp,ho,hb,asBool]
 refine .value hr (.same h ?_);subst he;cases t
 .exact h.AQ y
 .exact h.AQ x
theorem Y58 (h:Rel P B io w a.tmps s U F fl) {t:Operand} {i:Nat} {vs:List V} (ho:o.op=.extract t i) (ht:s.AQ t=.AX vs) (he:vs[i]?=some v):Ci P o a w (Cj P B io w a.tmps s U fl k v s):=by
 have h1:=h.AQ t;rw[ht] at h1;generalize hb:a.eval t=b at h1;cases h1 with
 | @AX us _ hl hr=>
  have hi:=(Dg.1 he).1;have hu:us[i]?=some us[i]:=Var (by omega);have X2:(execOp a.eval o).run P w=.ok (.value us[i]) w:=by
   simp[execOp,ho,hb,Instr.extract,hu]
  exact .value X2 (.same h (hr i _ _ hu he))
theorem wI (h:Rel P B io w a.tmps s U F fl) {x:Operand} (ho:o.op=.nilCheck x) (hx:s.AQ x=v) (hv:(∃i j n,v=.ptr i j n)\/(∃b r n,v=.rp b r n)\/(∃f cs,v=.fn f cs)):Ci P o a w (Cj P B io w a.tmps s U fl k v s):=by
 have h1:=h.AQ x;rw[hx] at h1;have X2:(execOp a.eval o).run P w=.ok (.value (a.eval x)) w:=by
  generalize hb:a.eval x=b at h1;rcases hv with⟨i,j,n,rfl⟩|⟨b',r,n,rfl⟩|⟨f,cs,rfl⟩
  .cases h1;simp[execOp,ho,hb]
  .cases h1 with|rp h2=>cases h2;simp[execOp,ho,hb]
  .cases h1;simp[execOp,ho,hb]
 exact .value X2 (.same h h1)
theorem HS (g o n:Nat):(⟨g,o,none⟩:Addr).add n=⟨g,o+n,none⟩:=by
 unfold Addr.add;split<;>simp_all
theorem Yft (h:Rel P B io w a.tmps s U F fl) {t:TypeId} {x:Operand} {f off:Nat} (ho:o.op=.fieldAddr t x f) (hf:wC P t f=some off)
  (hv:(∃i j n,s.AQ x=.ptr i j n/\v=.ptr i j (n+off))\/(∃b r n,s.AQ x=.rp b r n/\v=.rp b r (n+off))):Ci P o a w (Cj P B io w a.tmps s U fl k v s):=by
 unfold wC at hf;split at hf
 .rename_i fs hu
  obtain⟨fl,BK,hf⟩:=AA.1 hf;split at hf
  .cases hf
  .rename_i W3
   simp only[AF] at hf;subst hf;have VN:∃ti,P.info? fl.type=some ti/\ti.size≠0:=by
    unfold Program.cellsOf at W3;cases hq:P.info? fl.type with
    | none=>rw[hq] at W3;simp at W3
    | some ti=>rw[hq] at W3;exact⟨ti,rfl,by simpa using W3⟩
   obtain⟨ti,CV,Yj⟩:=VN;have run:∀ad:Addr,a.eval x=.pointer (some ad)->(execOp a.eval o).run P w=.ok (.value (.pointer (some (ad.add fl.offset)))) w:=by
    intro ad hb;simp[execOp,ho,hb,Instr.fieldAt,underlying,hu,BK,Instr.sureAddr,fieldPlace,Go.sizeOf,typeInfo,CV,Yj]
   have h1:=h.AQ x;rcases hv with⟨i,j,n,hx,rfl⟩|⟨b',r,n,hx,rfl⟩
   .rw[hx] at h1
    generalize hb:a.eval x=b at h1;cases h1 with
    | @ptr _ g o' c sz _ _ hU=>
     refine .value (run _ hb) (.same h ?_);rw[HS,Nat.add_assoc (o'+j*sz)];exact .ptr hU
   .rw[hx] at h1
    generalize hb:a.eval x=b at h1;cases h1 with
    | rp h2=>
     cases h2 with
     | @rp g o' _ _ _ u hg hu hr=>
      refine .value (run _ hb) (.same h ?_);rw[HS,Nat.add_assoc o'];exact .rp (.rp hg hu hr)
 .cases hf
theorem Mj {t e:TypeId} (h:Q0 P t=some e):P.underlying t=some (.slice e):=by
 unfold Q0 at h;split at h
 .rename_i e' hu;simp only[AF] at h;subst h;exact hu
 .cases h
theorem VO {w:World} {ok:Nat->Prop} {u:Value} {x:V} {n:Nat} (h:En w ok U u x) (hn:W1 x=some n):∃kd,u=.int kd (n:Int):=by
 unfold W1 at hn;split at hn
 .rename_i kd m
  split at hn
  .rename_i h0
   simp only[AF] at hn;cases h;exact⟨kd,by rw[<-hn,Int.toNat_of_nonneg h0]⟩
  .cases hn
 .cases hn
theorem wJ (h:Rel P B io w a.tmps s U F fl) {t e:TypeId} {x ix:Operand} {n:Nat} (ho:o.op=.indexAddr t x ix) (ht:Q0 P t=some e) (hn:W1 (s.AQ ix)=some n)
  (hv:(∃i off len b row,s.AQ x=.sl i off len/\n < len/\s.heap i=some b/\b.rows[off+n]?=some row/\row.length=Z5 P e/\v=.ptr i (off+n) 0)\/
   (∃sh rows row,(s.AQ x=.tr rows\/s.AQ x=.vw rows)/\rows[n]?=some row/\row.length=Z5 P e/\v=.rp sh row 0)) (hz:Z5 P e≠0):Ci P o a w (Cj P B io w a.tmps s U fl k v s):=by
 have hu:=Mj ht;obtain⟨ti,CV,W3⟩:∃ti,P.info? e=some ti/\ti.size=Z5 P e:=by
  unfold Z5 Program.cellsOf at hz ⊢;cases hq:P.info? e with
  | none=>rw[hq] at hz;simp at hz
  | some ti=>exact⟨ti,rfl,rfl⟩
 obtain⟨kd,hi⟩:=VO (h.AQ ix) hn;have run:∀(ad:Addr) (len c:Nat),a.eval x=.slice (some ad) len c->n < len->(execOp a.eval o).run P w=.ok (.value (.pointer (some (ad.add (n*Z5 P e))))) w:=by
  intro ad len c hb hl;have h1:(0:Int)<=(n:Int)/\(n:Int) < (len:Int):=⟨by omega,by omega⟩;simp[execOp,ho,hb,hi,Instr.indexAt,asIntOf,underlying,hu,Go.sizeOf,typeInfo,CV,W3,hl]
 have h1:=h.AQ x;rcases hv with⟨i,off,len,b,row,hx,hl,hb,Xj,Du,rfl⟩|⟨sh,rows,row,hx,Xj,Du,rfl⟩
 .rw[hx] at h1
  generalize hq:a.eval x=q at h1;cases h1 with
  | @sl _ g o' c sz _ _ hU hc=>
   have hB:=h.heap i b hb;rw[hU] at hB;have wK:sz=Z5 P e:=by
    unfold Xw at hB;split at hB
    .obtain⟨_,g',cur,e',Ck,Y7,hg,hr,hs,he,h1,_⟩:=hB
     cases Y7;rw[hr] at Xj;cases Co:off+n with
     | zero=>
          rw[Co] at Xj;have:Ck=row:=by simpa using Xj
          rw[this];exact Du
     | succ m=>rw[Co] at Xj;simp at Xj
    .rcases hB with⟨Y7,_⟩|⟨g',iT,c',cur,Y7,hg,iU,hm,Cn,PC,fp,CZ,h1,h2⟩
     .cases Y7
     .cases Y7
      rw[<-Cn row (E8 Xj)];exact Du
    .obtain⟨_,hB⟩:=hB
     rcases hB with⟨Y7,_⟩|⟨g',iT,c',Cy,Y7,Cn,hr⟩
     .cases Y7
     .cases Y7
      rw[<-Cn row (E8 Xj)];exact Du
   refine .value (run _ _ _ hq hl) (.same h ?_);rw[HS,<-wK,Nat.add_assoc,<-Nat.add_mul];exact .ptr (off:=0) hU
  | sle=>omega
 .generalize hq:a.eval x=q at h1
  have h2:Rd w (AI s U w) q (.tr rows):=by
   rcases hx with hx|hx
   .rw[hx] at h1;cases h1 with|tr h=>exact h
   .rw[hx] at h1;cases h1 with|vw h=>exact h
  cases h2 with
  | emp=>simp at Xj
  | @tr g o' m c sz _ u T1 PB Dm HR Yi Cn Cl=>
   have VP:=(Dg.1 Xj).1;have wK:sz=Z5 P e:=by rw[<-HR row (E8 Xj)];exact Du
   refine .value (run _ _ _ hq (by omega)) (.same h ?_);rw[HS,<-wK];refine .rp (.rp (off:=0) (u:=λj=>u (n*sz+j)) Yi (λj x hj=>?_) (λj x hj=>Cl _ x (T0 HR Xj hj)));have:=Cn _ x (T0 HR Xj hj);show w.cell? ⟨g,o'+n*sz+j,none⟩=_;rw[Nat.add_assoc];exact this
end
section
variable {P:Program} {B:Nat} {io:Nat->Prop} {w:World} {a:Act} {s:St} {U:AZ} {F:Id->List Nat} {fl:List Nat} {k:Nat} {o:Oper} {v:V}
theorem Yyp {t:TypeId} {x:Operand} {g n:Nat} {us:List Value} {cs:List V} (ho:o.op=.load t x) (hx:a.eval x=.pointer (some ⟨g,n,none⟩)) (hl:us.length=Z5 P t) (Qf:us.length=cs.length) (GQ:∀x∈cs,AG x=true)
  (hc:∀j u,us[j]?=some u->w.cell? ⟨g,n+j,none⟩=some u) (he:KT P t cs=some v) (Wa:∀(j:Nat) (u:Value) (x:V),us[j]?=some u->cs[j]?=some x->En w (AI s U w) U u x):
  ∃u,(execOp a.eval o).run P w=.ok (.value u) w/\En w (AI s U w) U u v:=by
 unfold KT at he;split at he
 .rename_i VQ
  obtain⟨d,hu⟩:=Ft.1 VQ;split at he
  .rename_i PD
   simp only[AF] at he;subst he;obtain⟨ti,CV⟩:∃ti,P.info? t=some ti:=by
    unfold Program.underlying at hu;split at hu
    .rename_i h;exact⟨_,h⟩
    .rename_i h;exact⟨_,h⟩
    .cases hu
   have W3:ti.size=us.length:=by rw[hl];simp[Z5,Program.cellsOf,CV]
   have X2:=run_loadCells_list (P:=P) (w:=w) ⟨g,n,none⟩ us (λj u hj=>by rw[HS];exact hc j u hj);rw[<-W3] at X2;refine⟨.agg us.toArray,?_,(.agg (by simpa using Qf) GQ (λj u x hj hx=>Wa j u x (by simpa using hj) hx))⟩;cases d<;>simp[HP,hu] at PD<;>simp[execOp,ho,hx,Instr.loadAt,Instr.sureAddr,loadVar,isAgg,underlying,hu,Go.sizeOf,typeInfo,CV,X2]
  .rename_i PD
   split at he
   .rename_i y
    simp only[AF] at he;subst he
    match us,Qf with
    | [u],_=>
     refine⟨u,?_,Wa 0 u y rfl rfl⟩;have h0:=hc 0 u rfl;simp only[Fv] at h0;cases d<;>simp[HP,hu] at PD<;>simp[execOp,ho,hx,Instr.loadAt,Instr.sureAddr,loadVar,isAgg,underlying,hu,load,Sem.run,h0]
   .cases he
 .cases he
theorem Y3o (h:Rel P B io w a.tmps s U F fl) {t:TypeId} {x:Operand} (ho:o.op=.load t x)
  (hv:(∃i j n b row,s.AQ x=.ptr i j n/\s.heap i=some b/\b.rows[j]?=some row/\n+Z5 P t<=row.length/\KT P t ((row.drop n).take (Z5 P t))=some v)\/
   (∃sh row n,s.AQ x=.rp sh row n/\n+Z5 P t<=row.length/\KT P t ((row.drop n).take (Z5 P t))=some v)):Ci P o a w (Cj P B io w a.tmps s U fl k v s):=by
 have h1:=h.AQ x;rcases hv with⟨i,j,n,b,row,hx,hb,Xj,Yp,he⟩|⟨sh,row,n,hx,Yp,he⟩
 .rw[hx] at h1
  generalize hq:a.eval x=q at h1;cases h1 with
  | @ptr _ g o' c sz _ _ hU=>
   have cell:∀(m:Nat) (y:V),row[m]?=some y->∃u,w.cell? ⟨g,o'+j*sz+m,none⟩=some u/\(b.box=true->En w (AI s U w) U u y)/\(b.box=false->Rd w (AI s U w) u y):=λm y hy=>h.cell hb hU Xj hy;have each:∀m:Nat,m < Z5 P t->∃u,w.cell? ⟨g,o'+j*sz+n+m,none⟩=some u/\∀y,row[n+m]?=some y->(b.box=true->En w (AI s U w) U u y)/\(b.box=false->Rd w (AI s U w) u y):=by
    intro m hm;have hy:row[n+m]?=some (row[n+m]'(by omega)):=C6 (by omega);obtain⟨u,h2,h3⟩:=cell (n+m) _ hy;refine⟨u,by rw[Nat.add_assoc (o'+j*sz)];exact h2,λy HT=>?_⟩;rw[hy] at HT;injection HT with HT;rw[<-HT];exact h3
   let us:List Value:=List.ofFn λm:Fin (Z5 P t)=>Classical.choose (each m.1 m.2)
   have NJ:∀(m:Nat) (u:Value),us[m]?=some u->w.cell? ⟨g,o'+j*sz+n+m,none⟩=some u/\∀y,row[n+m]?=some y->(b.box=true->En w (AI s U w) U u y)/\(b.box=false->Rd w (AI s U w) u y):=by
    intro m u hu;obtain⟨hm,rfl⟩:=Dg.1 hu;have Dm:m < Z5 P t:=by simpa [us] using hm
    have:=V0 (each m Dm);simpa [us] using this
   have PE:us.length=Z5 P t:=by simp[us]
   obtain⟨u,X2,Wa⟩:=Yyp (P:=P) (s:=s) (U:=U) (us:=us) ho hq PE (by rw[PE];simp;omega) (by
     intro x hx;cases Xp:b.box with
     | true=>exact h.F0 hb Xp Xj x (Gp (Gq hx))
     | false=>
      obtain⟨m,hm⟩:=HN hx;rw[Dr] at hm;split at hm
      .rw[D4] at hm
       obtain⟨u,_,h3⟩:=cell _ x hm;exact (h3.2 Xp).AG
      .cases hm) (λm u hu=>(NJ m u hu).1) he (λm u y hu hy=>by
     have h3:=(NJ m u hu).2;rw[Dr] at hy;split at hy
     .rw[D4] at hy
      cases Xp:b.box with
      | true=>exact (h3 y hy).1 Xp
      | false=>exact ((h3 y hy).2 Xp).en
     .cases hy)
   exact .value X2 (.same h Wa)
 .rw[hx] at h1
  generalize hq:a.eval x=q at h1;cases h1 with
  | rp h2=>
   cases h2 with
   | @rp g o' _ _ _ uu hg hu hr=>
    let us:List Value:=List.ofFn λm:Fin (Z5 P t)=>uu (n+m.1)
    have NJ:∀(m:Nat) (u:Value),us[m]?=some u->m < Z5 P t/\u=uu (n+m):=by
     intro m u hu;obtain⟨hm,rfl⟩:=Dg.1 hu;exact⟨by simpa [us] using hm,by simp[us]⟩
    have PE:us.length=Z5 P t:=by simp[us]
    obtain⟨u,X2,Wa⟩:=Yyp (P:=P) (s:=s) (U:=U) (us:=us) ho hq PE (by rw[PE];simp;omega) (by
      intro x hx;obtain⟨m,hm⟩:=HN hx;rw[Dr] at hm;split at hm
      .rw[D4] at hm
       exact (hr _ x hm).AG
      .cases hm) (λm u hm=>by
      obtain⟨h3,rfl⟩:=NJ m u hm;have hy:row[n+m]?=some (row[n+m]'(by omega)):=C6 (by omega);rw[Nat.add_assoc];exact hu _ _ hy) he (λm u y hm hy=>by
      obtain⟨h3,rfl⟩:=NJ m u hm;rw[Dr,Ah h3,D4] at hy;exact (hr _ y hy).en)
    exact .value X2 (.same h Wa)
theorem wL (h:Rel P B io w a.tmps s U F fl) {x:Operand} {t:TypeId} {n:Nat} (ho:o.op=.call {callee:=.builtin .len,args:=#[x],argTypes:=#[t]}) (ht:(Q0 P t).isSome=true)
  (hv:(∃i off,s.AQ x=.sl i off n)\/(∃rows,(s.AQ x=.tr rows\/s.AQ x=.vw rows)/\n=rows.length)) (he:v=.lit (.int .i64 n)):Ci P o a w (Cj P B io w a.tmps s U fl k v s):=by
 subst he;obtain⟨e,Q6⟩:=Ft.1 ht;have hu:=Mj Q6;have hq:∃A c,a.eval x=.slice A n c:=by
  have h1:=h.AQ x;generalize a.eval x=q at h1;rcases hv with⟨i,off,hx⟩|⟨rows,hx,rfl⟩
  .rw[hx] at h1
   cases h1 with
   | sl=>exact⟨_,_,rfl⟩
   | sle=>exact⟨_,_,rfl⟩
  .have h2:Rd w (AI s U w) q (.tr rows):=by
    rcases hx with hx|hx
    .rw[hx] at h1;cases h1 with|tr h=>exact h
    .rw[hx] at h1;cases h1 with|vw h=>exact h
   cases h2 with
   | emp=>exact⟨_,_,rfl⟩
   | tr hn=>exact⟨_,_,by rw[hn]⟩
 obtain⟨A,c,hq⟩:=hq;have hr:(execOp a.eval o).run P w=.ok (.value (.int .i64 n)) w:=by
  simp[execOp,ho,resolve,invoke,builtin,hq,Builtin.len_,underlying,hu,goInt]
 exact .value hr (.same h (.lit rfl))
theorem Y0t (h:Rel P B io w a.tmps s U F fl) {f:FuncId} {Bv:Array Operand} (ho:o.op=.makeFunc (.func f) #[] Bv) (he:v=.fn f (Bv.toList.map s.AQ)):Ci P o a w (Cj P B io w a.tmps s U fl k v s):=by
 subst he;have hr:(execOp a.eval o).run P w=.ok (.value (.func (.func f) #[] (Bv.map a.eval))) w:=by
  simp[execOp,ho,Instr.makeFunc]
 refine .value hr (.same h (.fn (by simp) (λj u x hu hx=>?_)));simp only[D5,AM,Array.getElem?_map] at hu hx;obtain⟨y,hy,rfl⟩:=hu;obtain⟨z,hz,rfl⟩:=hx;have:y=z:=by
  have h1:Bv.toList[j]?=some y:=by simpa using hy
  rw[h1] at hz;injection hz
 subst this;exact h.AQ y
end
theorem Yb {α β:Type} [DecidableEq α] (f:α->β) (a:α) (b:β):Bm f a b a=b:=by simp[Bm]
theorem Wc {α β:Type} [DecidableEq α] {f:α->β} {a x:α} {b:β} (h:x≠a):Bm f a b x=f x:=by simp[Bm,h]
section
variable {P:Program} {B:Nat} {io:Nat->Prop} {w w':World} {tmps:Array Value} {s s':St} {U U':AZ} {F F':Id->List Nat} {fl fl':List Nat}
theorem Rel.steps (h:Rel P B io w tmps s U F fl) (N:Id->Prop) (CW:∀t v,tmps[t]?=some v->En w' (AI s' U' w') U' v (s'.env t)) (wM:∀t,tmps.size<=t->s'.env t=.undef) (Yo:s'.ep=s.ep) (DS:∀id b,¬N id->s'.heap id=some b->s.heap id=some b)
  (hU:∀id i,U id=some i->U' id=some i) (F4:∀id,(U' id).isSome=true->(U id).isSome=true\/id.1=s.ep) (KY:∀id,¬N id->U' id=U id) (KZ:∀id,¬N id->F' id=F id)
  (hk:I8 w w' (λg=>¬AK s U g) (λg=>¬AK s' U' g)) (ht:∀id b,¬N id->s'.heap id=some b->∀g∈F id,w'.heap[g]?=w.heap[g]?)
  (hA:∀k,k < B->¬io k->w'.heap[k]?=w.heap[k]?) (hn:∀id b,N id->s'.heap id=some b->Xw P w' (AI s' U' w') U' (U' id) (F' id) b) (iV:∀id b,N id->s'.heap id=some b->b.own=true->(∀g∈F' id,g < w'.heap.size)/\(PA (U' id)->∀g,(F' id).head?=some g->io g\/B<=g))
  (IB:∀id b,N id->s'.heap id=some b->b.own=true->∀Ax b',id≠Ax->s'.heap Ax=some b'->b'.own=true->∀g∈F' Ax,g ∉ F' id) (Cz:∀id b,N id->s'.heap id=some b->b.own=true->(F' id).Nodup)
  (wN:∀g∈fl',g < w'.heap.size) (wO:∀id b,s'.heap id=some b->b.own=true->∀g∈F' id,g ∉ fl') (PF:fl'.Nodup):
  Rel P B io w' tmps s' U' F' fl' where
 env:=CW
 out:=wM
 heap:=λid b hb=>by
  by_cases e:N id
  .exact hn id b e hb
  .rw[KY id e,KZ id e]
   exact (show Xw P w (λg=>(¬AK s U g)/\g < w.heap.size) U (U id) (F id) b from h.heap id b (DS id b e hb)).CE hk hU (ht id b e hb)
 CR:=λid b hb ho g hg=>by
  by_cases e:N id
  .exact (iV id b e hb ho).1 g hg
  .rw[KZ id e] at hg
   exact Hq (h.CR id b (DS id b e hb) ho g hg) hk.size
 top:=λid b hb ho hc g hg=>by
  by_cases e:N id
  .exact (iV id b e hb ho).2 hc g hg
  .rw[KZ id e] at hg
   exact h.top id b (DS id b e hb) ho (by rw[<-KY id e];exact hc) g hg
 apart:=λid Ax b b' hb ho Y1 BS Yj g hg Yi=>by
  by_cases e:N id
  .exact IB id b e hb ho Ax b' Yj Y1 BS g Yi hg
  .by_cases e':N Ax
   .exact IB Ax b' e' Y1 BS id b (Ne.symm Yj) hb ho g hg Yi
   .rw[KZ id e] at hg
    rw[KZ Ax e'] at Yi;exact h.apart id Ax b b' (DS id b e hb) ho (DS Ax b' e' Y1) BS Yj g hg Yi
 once:=λid b hb ho=>by
  by_cases e:N id
  .exact Cz id b e hb ho
  .rw[KZ id e];exact h.once id b (DS id b e hb) ho
 CB:=λid Zu=>by
  rw[Yo];rcases F4 id Zu with h1|h1
  .exact h.CB id h1
  .omega
 Cv:=h.Cv.step hk.size hA
 AS:=wN
 A8:=wO
 AU:=PF
theorem Rel.Mk (h:Rel P B io w tmps s U F fl) (CW:s'.env=s.env) (hU:∀id i,U id=some i->U' id=some i) (hk:I8 w w' (λg=>¬AK s U g) (λg=>¬AK s' U' g)):∀t v,tmps[t]?=some v->En w' (AI s' U' w') U' v (s'.env t):=λt v hv=>by
 rw[CW];exact (show En w (λg=>(¬AK s U g)/\g < w.heap.size) U v (s.env t) from h.env t v hv).CE hk hU
theorem Rel.step (h:Rel P B io w tmps s U F fl) (nid:Id) (CW:s'.env=s.env) (Yo:s'.ep=s.ep) (DS:∀id b,id≠nid->s'.heap id=some b->s.heap id=some b)
  (hU:∀id i,U id=some i->U' id=some i) (F4:∀id,(U' id).isSome=true->(U id).isSome=true\/id.1=s.ep) (KY:∀id,id≠nid->U' id=U id) (KZ:∀id,id≠nid->F' id=F id)
  (hk:I8 w w' (λg=>¬AK s U g) (λg=>¬AK s' U' g)) (ht:∀id b,id≠nid->s'.heap id=some b->∀g∈F id,w'.heap[g]?=w.heap[g]?)
  (hA:∀k,k < B->¬io k->w'.heap[k]?=w.heap[k]?) (hn:∀b,s'.heap nid=some b->Xw P w' (AI s' U' w') U' (U' nid) (F' nid) b) (iV:∀b,s'.heap nid=some b->b.own=true->(∀g∈F' nid,g < w'.heap.size)/\(PA (U' nid)->∀g,(F' nid).head?=some g->io g\/B<=g))
  (IB:∀b,s'.heap nid=some b->b.own=true->∀id b',id≠nid->s'.heap id=some b'->b'.own=true->∀g∈F id,g ∉ F' nid) (Cz:∀b,s'.heap nid=some b->b.own=true->(F' nid).Nodup)
  (wN:∀g∈fl',g < w'.heap.size) (wO:∀id b,id≠nid->s'.heap id=some b->b.own=true->∀g∈F id,g ∉ fl') (wP:∀b,s'.heap nid=some b->b.own=true->∀g∈F' nid,g ∉ fl') (PF:fl'.Nodup):
  Rel P B io w' tmps s' U' F' fl':=
 h.steps (N:=λid=>id=nid) (h.Mk CW hU hk) (λt ht=>by rw[CW];exact h.out t ht) Yo DS hU F4 KY KZ hk ht hA (λid b e hb=>by subst e;exact hn b hb) (λid b e hb ho=>by subst e;exact iV b hb ho)
  (λid b e hb ho Ax b' Yj Y1 BS g hg=>by subst e;rw[KZ Ax (Ne.symm Yj)] at hg;exact IB b hb ho Ax b' (Ne.symm Yj) Y1 BS g hg) (λid b e hb ho=>by subst e;exact Cz b hb ho) wN
  (λid b hb ho g hg=>by
   by_cases e:id=nid
   .subst e;exact wP b hb ho g hg
   .rw[KZ id e] at hg;exact wO id b e hb ho g hg) PF
theorem I8.same (hs:∀g,AK s' U' g->AK s U g):I8 w w (λg=>¬AK s U g) (λg=>¬AK s' U' g):=
 ⟨λ_ _ _=>rfl,λg hg _ ht=>hg (hs g ht),B2 _⟩
theorem iW {id:Id}:∀g,AK (s.kill id) U g->AK s U g:=by
 rintro g ⟨Ax,b,o,c,sz,hb,ho,hU⟩;refine⟨Ax,b,o,c,sz,?_,ho,hU⟩;simp only[St.kill,Bm] at hb;split at hb
 .cases hb
 .exact hb
theorem IC {id Ax:Id} {b:Be} (h:(s.kill id).heap Ax=some b):s.heap Ax=some b:=by
 simp only[St.kill,Bm] at h;split at h
 .cases h
 .exact h
theorem Ke {id:Id}:(s.kill id).heap id=none:=by simp[St.kill,Bm]
theorem Rel.kill (h:Rel P B io w tmps s U F fl) (id:Id):Rel P B io w tmps (s.kill id) U F fl:=
 h.step (nid:=id) rfl rfl (λAx b _ hb=>IC hb) (λ_ _ h=>h) (λ_ h=>.inl h) (λ_ _=>rfl) (λ_ _=>rfl) (.same iW) (λ_ _ _ _ _ _=>rfl) (λ_ _ _=>rfl)
  (λb hb=>by rw[Ke] at hb;cases hb) (λb hb=>by rw[Ke] at hb;cases hb) (λb hb=>by rw[Ke] at hb;cases hb) (λb hb=>by rw[Ke] at hb;cases hb)
  h.AS (λAx b e hb ho=>h.A8 Ax b (IC hb) ho) (λb hb=>by rw[Ke] at hb;cases hb) h.AU
theorem Rel.float (h:Rel P B io w tmps s U F fl) {id:Id} {b:Be} (hb:s.heap id=some b) (ho:b.own=true):Rel P B io w tmps (s.kill id) U F (F id++fl):=by
 refine h.step (nid:=id) rfl rfl (λAx b _ hb=>IC hb) (λ_ _ h=>h) (λ_ h=>.inl h) (λ_ _=>rfl) (λ_ _=>rfl) (.same iW) (λ_ _ _ _ _ _=>rfl) (λ_ _ _=>rfl)
  (λb hb=>by rw[Ke] at hb;cases hb) (λb hb=>by rw[Ke] at hb;cases hb) (λb hb=>by rw[Ke] at hb;cases hb) (λb hb=>by rw[Ke] at hb;cases hb)
  (λg hg=>?_) (λAx b' e Y1 BS g hg Yi=>?_) (λb hb=>by rw[Ke] at hb;cases hb) ?_
 .rcases BP.1 hg with hg|hg
  .exact h.CR id b hb ho g hg
  .exact h.AS g hg
 .rcases BP.1 Yi with Yi|Yi
  .exact h.apart Ax id b' b (IC Y1) BS hb ho e g hg Yi
  .exact h.A8 Ax b' (IC Y1) BS g hg Yi
 .exact EX.2 ⟨h.once id b hb ho,h.AU,λa ha b' Y1 e=>h.A8 id b hb ho a ha (e▸Y1)⟩
theorem Rel.GR (h:Rel P B io w tmps s U F fl) {id:Id} {b:Be} {i:GP} (hb:s.heap id=some b) (ho:b.own=true) (hi:U id=some i) {k:Nat} (hk:k∈F id) (Yj:∀g o c sz,i=.Bn g o c sz->k≠g):AI s U w k:=by
 refine⟨?_,h.CR id b hb ho k hk⟩;rintro⟨Ax,b',o',c',Cy,Y1,BS,Dt⟩;have ht:k∈F Ax:=by
  have:=h.heap Ax b' Y1;rw[Dt] at this;exact this.top BS
 by_cases e:Ax=id
 .subst e
  rw[hi] at Dt;injection Dt with Dt;exact Yj _ _ _ _ Dt rfl
 .exact h.apart Ax id b' b Y1 BS hb ho e k ht hk
theorem Rel.ID (h:Rel P B io w tmps s U F fl) {k:Nat} (hk:k∈fl):AI s U w k:=by
 refine⟨?_,h.AS k hk⟩;rintro⟨Ax,b',o',c',Cy,Y1,BS,Dt⟩;have ht:k∈F Ax:=by
  have:=h.heap Ax b' Y1;rw[Dt] at this;exact this.top BS
 exact h.A8 Ax b' Y1 BS k ht hk
end
theorem B7.drop {w:World}:∀(n:Nat) {vs:List Value} {xs:List V} {fp:List Nat},B7 w vs xs fp->∃BT,B7 w (vs.drop n) (xs.drop n) BT/\BT.Sublist fp:=by
 intro n
 induction n with
 | zero=>intro vs xs fp h;exact⟨fp,h,N9 _⟩
 | succ n ih=>
  intro vs xs fp h;cases xs with
  | nil=>cases h;exact⟨[],.nil,N9 _⟩
  | cons x xs=>
   cases h with
   | @cons v _ vs _ f1 f2 h hs=>
    obtain⟨BT,h1,h2⟩:=ih hs;exact⟨BT,h1,h2.trans (Ix _ _)⟩
theorem B7.take {w:World}:∀(n:Nat) {vs:List Value} {xs:List V} {fp:List Nat},B7 w vs xs fp->∃BT,B7 w (vs.take n) (xs.take n) BT/\BT.Sublist fp:=by
 intro n
 induction n with
 | zero=>intro vs xs fp h;exact⟨[],by simp;exact .nil,List.nil_sublist _⟩
 | succ n ih=>
  intro vs xs fp h;cases xs with
  | nil=>cases h;exact⟨[],.nil,N9 _⟩
  | cons x xs=>
   cases h with
   | @cons v _ vs _ f1 f2 h hs=>
    obtain⟨BT,h1,h2⟩:=ih hs;exact⟨f1++BT,.cons h h1,V2 (N9 _) h2⟩
theorem HU {α:Type} {sz:Nat}:∀{rows:List (List α)},(∀r∈rows,r.length=sz)->rows.flatten.length=rows.length*sz:=by
 intro rows
 induction rows with
 | nil=>intro _;simp
 | cons r rs ih=>intro h;rw[Ee,BW,ih (λr hr=>h r (Cg _ hr)),h r BI,AP,KR];omega
theorem wQ {α:Type} {sz:Nat}:∀{rows:List (List α)} {k:Nat} {x:α},(∀r∈rows,r.length=sz)->rows.flatten[k]?=some x->∃i j row,rows[i]?=some row/\row[j]?=some x/\k=i*sz+j:=by
 intro rows
 induction rows with
 | nil=>intro k x _ h;simp at h
 | cons r rs ih=>
  intro k x h hk;have hr:r.length=sz:=h r BI;rw[Ee] at hk;by_cases Ya:k < r.length
  .rw[EW Ya] at hk
   exact⟨0,k,r,rfl,hk,by omega⟩
  .rw[Fq (by omega)] at hk
   obtain⟨i,j,row,h1,h2,h3⟩:=ih (λr hr=>h r (Cg _ hr)) hk;exact⟨i+1,j,row,by simpa using h1,h2,by rw[KR];omega⟩
theorem VS {α:Type} {sz:Nat}:∀(n:Nat) {rows:List (List α)},(∀r∈rows,r.length=sz)->rows.flatten.drop (n*sz)=(rows.drop n).flatten:=by
 intro n
 induction n with
 | zero=>intro rows _;simp
 | succ n ih=>
  intro rows h;cases rows with
  | nil=>simp
  | cons r rs=>
   have hr:r.length=sz:=h r BI;rw[Ee,vL,<-ih (λr hr=>h r (Cg _ hr)),KR,iO,<-List.drop_drop]
   congr 1
   rw[<-hr];simp
theorem wR {α:Type} {sz:Nat}:∀(n:Nat) {rows:List (List α)},(∀r∈rows,r.length=sz)->rows.flatten.take (n*sz)=(rows.take n).flatten:=by
 intro n
 induction n with
 | zero=>intro rows _;simp
 | succ n ih=>
  intro rows h;cases rows with
  | nil=>simp
  | cons r rs=>
   have hr:r.length=sz:=h r BI;rw[Ee,List.take_succ_cons,Ee,<-ih (λr hr=>h r (Cg _ hr)),KR,iO,List.take_append,hr,Vy]
   congr 1
   rw[DH (by omega)]
def NK (P:Program) (w:World) (e:TypeId) (u:Value) (rows:List (List V)) (fp:List Nat):Prop:=
 (∃A,u=.slice A 0 0/\rows=[]/\fp=[])\/
 ∃g o c cur BT,u=.slice (some ⟨g,o,none⟩) rows.length c/\w.heap[g]?=some (.cells cur e (0,0))/\rows.length<=c/\c<=maxLen/\(∀r∈rows,r.length=P.cellsOf e)/\o+c*P.cellsOf e=cur.size/\
  B7 w ((cur.toList.drop o).take (rows.length*P.cellsOf e)) rows.flatten BT/\fp=g::BT
theorem NK.ow {P:Program} {w:World} {e:TypeId} {u:Value} {rows:List (List V)} {fp:List Nat} (h:NK P w e u rows fp):Ow w u (.tr rows) fp:=by
 rcases h with⟨A,rfl,rfl,rfl⟩|⟨g,o,c,cur,BT,rfl,hg,hl,hm,hu,hz,hO,rfl⟩
 .exact .emp
 .exact .tr hg rfl hl hm hu hz hO
section
variable {P:Program} {B:Nat} {io:Nat->Prop} {w w':World} {tmps:Array Value} {s s':St} {U U':AZ} {F F':Id->List Nat} {fl fl':List Nat}
theorem Rel.less (h:Rel P B io w tmps s U F fl) {fl':List Nat} (hs:fl'.Sublist fl):Rel P B io w tmps s U F fl':=
 {h with
  AS:=λg hg=>h.AS g (hs.subset hg)
  A8:=λid b hb ho g hg Yi=>h.A8 id b hb ho g hg (hs.subset Yi)
  AU:=h.AU.sublist hs}
theorem Rel.perm (h:Rel P B io w tmps s U F fl) {fl':List Nat} (hs:fl'.Perm fl):Rel P B io w tmps s U F fl':=
 {h with
  AS:=λg hg=>h.AS g (hs.mem_iff.1 hg)
  A8:=λid b hb ho g hg Yi=>h.A8 id b hb ho g hg (hs.mem_iff.1 Yi)
  AU:=hs.nodup_iff.2 h.AU}
theorem Rel.Gu (h:Rel P B io w tmps s U F fl) {id:Id} {off len:Nat} {e:TypeId} {rows:List (List V)} {u:Value} (hu:En w (AI s U w) U u (.sl id off len)) (hw:s.whole id off len=some (e,rows)):
  ∃fp,Rel P B io w tmps (s.kill id) U F (fp++fl)/\NK P w e u rows fp/\∀g,fp.head?=some g->(F id).head?=some g/\PA (U id):=by
 unfold St.whole at hw;obtain⟨b,hb,hw⟩:=AA.1 hw;split at hw
 .rename_i hc
  obtain⟨Xp,Yz,Qf,Yp⟩:=hc;simp only[AF,A7] at hw;obtain⟨rfl,rfl⟩:=hw;have BK:=h.float hb Yz;cases hu with
  | sle hi=>exact⟨[],BK.less (Ix _ _),.inl ⟨_,rfl,by simp,rfl⟩,λg hg=>by simp at hg⟩
  | @sl _ g o c sz _ _ hU hc=>
   have hB:=h.heap id b hb;rw[hU] at hB;unfold Xw at hB;rw[Xp,Yz] at hB;rcases hB with⟨Y7,_⟩|⟨g',o',c',cur,Y7,hg,hl,hm,Ca,hz,fp,CZ,h1,h2⟩
   .cases Y7
   .cases Y7
    obtain⟨f1,PG,Ch⟩:=(h1 Qf).drop (off*P.cellsOf b.el);obtain⟨f2,HV,Dv⟩:=PG.take (len*P.cellsOf b.el);have PH:∀r∈b.rows.drop off,r.length=P.cellsOf b.el:=λr hr=>Ca r (Gp hr);rw[VS off Ca,wR len PH] at HV;have F5:(((cur.toList.drop o).take (b.rows.length*P.cellsOf b.el)).drop (off*P.cellsOf b.el)).take (len*P.cellsOf b.el)=(cur.toList.drop (o+off*P.cellsOf b.el)).take (len*P.cellsOf b.el):=by
     rw[List.drop_take,List.drop_drop,vY]
     congr 1
     have:(off+len)*P.cellsOf b.el<=b.rows.length*P.cellsOf b.el:=N8 _ Yp;rw[Nat.add_mul] at this;omega
    rw[F5] at HV;have PI:((b.rows.drop off).take len).length=len:=by simp;omega
    by_cases hc0:c - off=0
    .have PJ:len=0:=by omega
     subst PJ;exact⟨[],BK.less (Ix _ _),.inl ⟨_,by rw[hc0],by simp,rfl⟩,λg hg=>by simp at hg⟩
    refine⟨g::f2,BK.less ?_,.inr ⟨g,o+off*P.cellsOf b.el,c - off,cur,f2,by rw[PI],hg,by rw[PI];omega,by omega,λr hr=>PH r (Gq hr),?_,by rw[PI];exact HV,rfl⟩,λg' Yi=>⟨by rw[CZ];exact Yi,g,o,c,_,hU,by omega⟩⟩
    .rw[CZ,Hr,Hr]
     exact (V2 (Dv.trans Ch) (N9 _)).cons_cons _
    .have:off*P.cellsOf b.el+(c - off)*P.cellsOf b.el=c*P.cellsOf b.el:=by rw[<-Nat.add_mul];congr 1;omega
     omega
 .cases hw
theorem Rel.whole (h:Rel P B io w tmps s U F fl) {id:Id} {off len:Nat} {e:TypeId} {rows:List (List V)} {u:Value} (hu:En w (AI s U w) U u (.sl id off len)) (hw:s.whole id off len=some (e,rows)):
  ∃fp,Rel P B io w tmps (s.kill id) U F (fp++fl)/\NK P w e u rows fp:=by
 obtain⟨fp,h1,h2,_⟩:=h.Gu hu hw;exact⟨fp,h1,h2⟩
theorem Rel.rowsOf (h:Rel P B io w tmps s U F fl) {x:V} {u:Value} {rows:List (List V)} {ok':Nat->Prop} (hu:En w (AI s U w) U u x) (hr:s.rowsOf x=some rows) (Yl:∀g,AI s U w g->ok' g)
  (Wf:∀id off len b g o c sz,x=.sl id off len->s.heap id=some b->b.own=true->U id=some (.Bn g o c sz)->g < w.heap.size->g ∉ fl->ok' g):Rd w ok' u (.tr rows):=by
 have up:∀{v:Value} {y:V},Rd w (AI s U w) v y->Rd w ok' v y:=λhv=>hv.mono (λ_ _ _=>rfl) Yl;unfold St.rowsOf at hr;split at hr
 .rename_i id off len
  obtain⟨b,hb,hr⟩:=AA.1 hr;split at hr
  .rename_i hc
   obtain⟨Xp,Yp⟩:=hc;simp only[AF] at hr;subst hr;cases hu with
   | sle hi=>simp only[List.take_zero];exact .emp
   | @sl _ g o c sz _ _ hU hc=>
    by_cases Yj:(b.rows.drop off).take len=[]
    .have PJ:len=0:=by
      have:=congrArg List.length Yj;simp at this;omega
     subst PJ;rw[Yj];exact .emp
    have hB:=h.heap id b hb;rw[hU] at hB;have hcm:c<=maxLen/\(∀r∈b.rows,r.length=sz)/\ok' g:=by
     unfold Xw at hB;rw[Xp] at hB;generalize Yz:b.own=ow at hB;cases ow with
     | true=>
      rcases hB with⟨Y7,_⟩|⟨g',o',c',cur,Y7,hg,hl,hm,Ca,hz,fp,CZ,h1,PK⟩
      .cases Y7
      .cases Y7
       exact⟨hm,Ca,Wf id off len b g o c _ rfl hb Yz hU (HM.1 hg).1 (h.A8 id b hb Yz g (by rw[CZ];exact BI))⟩
     | false=>
      obtain⟨_,hB⟩:=hB;rcases hB with⟨Y7,_⟩|⟨g',o',c',Cy,Y7,Ca,hr⟩
      .cases Y7
      .cases Y7
       generalize hrw:b.rows=rws at hr Ca Yj;generalize hn:rws.length=n at hr;cases hr with
       | emp=>simp at Yj
       | tr T1 PB Dm HR Yi Cn Cl=>exact⟨Dm,Ca,Yl g Yi⟩
    have PI:((b.rows.drop off).take len).length=len:=by simp;omega
    have PH:∀r∈(b.rows.drop off).take len,r.length=sz:=λr hr=>hcm.2.1 r (Gp (Gq hr));have cellAt:∀(k:Nat) (x:V),((b.rows.drop off).take len).flatten[k]?=some x->∃u,w.cell? ⟨g,o+off*sz+k,none⟩=some u/\Rd w ok' u x:=by
     intro k x hk;obtain⟨i,j,row,hi,hj,rfl⟩:=wQ PH hk;rw[Dr] at hi;split at hi
     .rw[D4] at hi
      obtain⟨u,h1,_,h2⟩:=h.cell hb hU hi hj;refine⟨u,?_,up (h2 Xp)⟩;rw[show o+off*sz+(i*sz+j)=o+(off+i)*sz+j by rw[Nat.add_mul];omega];exact h1
     .cases hi
    have each:∀k,∃u:Value,∀x,((b.rows.drop off).take len).flatten[k]?=some x->w.cell? ⟨g,o+off*sz+k,none⟩=some u/\Rd w ok' u x:=by
     intro k;cases hk:((b.rows.drop off).take len).flatten[k]? with
     | none=>exact⟨undef,λx hx=>by cases hx⟩
     | some y=>
      obtain⟨u,h1,h2⟩:=cellAt k y hk;exact⟨u,λx hx=>by injection hx with hx;subst hx;exact⟨h1,h2⟩⟩
    obtain⟨uf,NL⟩:=vH each;exact .tr (u:=uf) PI (by omega) (by omega) PH hcm.2.2 (λk x hk=>(NL k x hk).1) (λk x hk=>(NL k x hk).2)
  .cases hr
 .simp only[AF] at hr;subst hr;cases hu with|tr h=>exact up h
 .simp only[AF] at hr;subst hr;cases hu with|vw h=>exact up h
 .simp only[AF] at hr;subst hr;cases hu;exact .emp
 .cases hr
theorem En.kill {id:Id} {v:Value} {x:V} (h:En w (AI s U w) U v x):En w (AI (s.kill id) U w) U v x:=
 (show En w (λg=>(¬AK s U g)/\g < w.heap.size) U v x from h).CE (.same iW) (λ_ _ h=>h)
theorem VT {id:Id} {g:Nat} (h:AI s U w g):AI (s.kill id) U w g:=⟨λht=>h.1 (iW g ht),h.2⟩
theorem Y3r:∀(xs:List V) {us:List Value} {s:St} {fl:List Nat} {ys:List V} {c:Bool} {s':St},Rel P B io w tmps s U F fl->us.length=xs.length->
  (∀(k:Nat) (u:Value) (x:V),us[k]?=some u->xs[k]?=some x->En w (AI s U w) U u x)->s.sink xs=some (ys,c,s')->
  ∃fp,Rel P B io w tmps s' U F (fp++fl)/\us.length=ys.length/\(c=true->B7 w us ys fp)/\(∀(k:Nat) (u:Value) (y:V),us[k]?=some u->ys[k]?=some y->Rd w (AI s' U w) u y)/\
   s'.env=s.env/\s'.ep=s.ep/\(∀id b,s'.heap id=some b->s.heap id=some b)/\(∀g,AI s U w g->AI s' U w g):=by
 intro xs
 induction xs with
 | nil=>
  intro us s fl ys c s' h hl Wa hs;simp only[St.sink,AF,A7] at hs;obtain⟨rfl,rfl,rfl⟩:=hs;have:us=[]:=GK (by simpa using hl);subst this;exact⟨[],h,rfl,λ_=>.nil,λk u y hu=>by simp at hu,rfl,rfl,λ_ _ h=>h,λ_ h=>h⟩
 | cons x xs ih=>
  intro us s fl ys c s' h hl Wa hs
  match us,hl with
  | u::us,hl=>
   have hu:=Wa 0 u x rfl rfl;have Ml:∀(k:Nat) (v:Value) (y:V),us[k]?=some v->xs[k]?=some y->En w (AI s U w) U v y:=λk v y hv hy=>Wa (k+1) v y (by simpa using hv) (by simpa using hy);have iU:us.length=xs.length:=by simpa using hl
   have plain:∀(y:V) (c0:Bool),(c0=true->Ow w u y [])->Rd w (AI s U w) u y->∀{r:List V×Bool×St},s.sink xs=some r->ys=y::r.1->c=(c0&&r.2.1)->s'=r.2.2->
     ∃fp,Rel P B io w tmps s' U F (fp++fl)/\(u::us).length=ys.length/\(c=true->B7 w (u::us) ys fp)/\(∀(k:Nat) (u':Value) (y:V),(u::us)[k]?=some u'->ys[k]?=some y->Rd w (AI s' U w) u' y)/\
      s'.env=s.env/\s'.ep=s.ep/\(∀id b,s'.heap id=some b->s.heap id=some b)/\(∀g,AI s U w g->AI s' U w g):=by
    rintro y c0 T2 iX ⟨r1,r2,r3⟩ hr rfl rfl rfl;obtain⟨fp,h1,h2,h3,h4,h5,h6,h7,h8⟩:=ih h iU Ml hr;refine⟨fp,h1,by simpa using h2,λhc=>?_,λk u' y' Cn HT=>?_,h5,h6,h7,h8⟩
    .rw[Bh] at hc
     have:=B7.cons (T2 hc.1) (h3 hc.2);simpa using this
    .cases k with
     | zero=>
      have e1:u=u':=by simpa using Cn
      have e2:y=y':=by simpa using HT
      subst e1;subst e2;exact iX.mono (λ_ _ _=>rfl) h8
     | succ k=>exact h4 k u' y' (by simpa using Cn) (by simpa using HT)
   unfold St.sink at hs;split at hs
   .obtain⟨r,hr,hq⟩:=AM.1 hs
    simp only[A7] at hq;obtain⟨rfl,Fb⟩:=hq;cases hu;exact plain _ true (λ_=>.emp) .emp hr rfl (by rw[Fb];simp) (by rw[Fb])
   .rename_i Yj
    obtain⟨r,hr,hq⟩:=AM.1 hs;simp only[A7] at hq;obtain⟨rfl,Fb⟩:=hq;cases hu with
    | lit Hy=>exact plain _ true (λ_=>.lit Hy) (.lit Hy) hr rfl (by rw[Fb];simp) (by rw[Fb])
   .obtain⟨r,hr,hq⟩:=AM.1 hs
    simp only[A7] at hq;obtain⟨rfl,hc,Fb⟩:=hq;cases hu with
    | tr h2=>exact plain _ false (λhf=>by cases hf) h2 hr rfl (by rw[<-hc];simp) Fb.symm
   .obtain⟨r,hr,hq⟩:=AM.1 hs
    simp only[A7] at hq;obtain⟨rfl,hc,Fb⟩:=hq;cases hu with
    | vw h2=>exact plain _ false (λhf=>by cases hf) h2 hr rfl (by rw[<-hc];simp) Fb.symm
   .rename_i id off len
    split at hs
    .rename_i er hw
     obtain⟨r,hr,hq⟩:=AM.1 hs;simp only[A7] at hq;obtain⟨rfl,Fb⟩:=hq;obtain⟨e,rows⟩:=er;obtain⟨wS,hk,hO⟩:=h.whole hu hw;obtain⟨fp,h1,h2,h3,h4,h5,h6,h7,h8⟩:=ih hk iU (λk v y hv hy=>(Ml k v y hv hy).kill) hr;have Ch:r.2.1=c:=by rw[Fb]
     have Dv:r.2.2=s':=by rw[Fb]
     rw[Ch] at h3;rw[Dv] at h1 h4 h5 h6 h7 h8;have DS:(wS++fp++fl).Perm (fp++(wS++fl)):=by
      rw[<-List.append_assoc];exact Veh _ iC
     refine⟨wS++fp,h1.perm DS,by simpa using h2,λhc=>.cons hO.ow (h3 hc),λk u' y' Cn HT=>?_,h5,h6,λAx b hb=>IC (h7 Ax b hb),λg hg=>h8 g (VT hg)⟩;cases k with
     | zero=>
      have e1:u=u':=by simpa using Cn
      have e2:V.tr rows=y':=by simpa using HT
      subst e1;subst e2;exact (hO.ow.rd (λg hg=>hk.ID (CH _ hg))).mono (λ_ _ _=>rfl) h8
     | succ k=>exact h4 k u' y' (by simpa using Cn) (by simpa using HT)
    .rename_i hw
     split at hs
     .rename_i b hb
      split at hs
      .rename_i Yz
       obtain⟨rows,Wu,hq0⟩:=AA.1 hs;obtain⟨r,hr,hq⟩:=AM.1 hq0;simp only[A7] at hq;obtain⟨rfl,hc,Fb⟩:=hq;refine plain _ false (λhf=>by cases hf) (h.rowsOf hu Wu (λ_ h=>h) (λAx F6 Mm b' g o c' sz e Y1 BS=>?_)) hr rfl (by rw[<-hc];simp) Fb.symm;cases e;rw[hb] at Y1;injection Y1 with Y1;subst Y1;rw[Yz] at BS;cases BS
      .cases hs
     .cases hs
   .cases hs
end
section
variable {P:Program} {B:Nat} {io:Nat->Prop} {w w':World} {a:Act} {tmps:Array Value} {s s':St} {U U':AZ} {F F':Id->List Nat} {fl fl':List Nat} {k:Nat} {o:Oper} {v:V}
theorem Rel.IE (h:Rel P B io w tmps s U F fl) {id:Id} {b:Be} (hb:s.heap id=some b):∀g∈F id,g < w.heap.size:=by
 cases ho:b.own with
 | true=>exact h.CR id b hb ho
 | false=>
  have hB:=h.heap id b hb;unfold Xw at hB;rw[ho] at hB;split at hB
  .cases hB.1
  .rename_i h2;cases h2
  .intro g hg;rw[hB.1] at hg;cases hg
theorem X8 {id Ax:Id} {b:Be} (h:Ax≠id):(s.A6 id b).heap Ax=s.heap Ax:=by simp[St.A6,Bm,h]
theorem La {id:Id} {b:Be}:(s.A6 id b).heap id=some b:=by simp[St.A6,Bm]
theorem T3 (w:World) (o:Obj):(w.alloc o).heap.size=w.heap.size+1:=by
 show (w.heap.push o).size=_;simp
theorem iY (w:World) (o:Obj):(w.alloc o).heap[w.heap.size]?=some o:=by
 show (w.heap.push o)[w.heap.size]?=_;simp
theorem iZ {id:Id} {b:Be} {i:GP} (Zu:U id=none) {g:Nat} (h:AK (s.A6 id b) (Bm U id (some i)) g):AK s U g\/∃o c sz,i=.Bn g o c sz:=by
 obtain⟨Ax,b',o,c,sz,hb,ho,hU⟩:=h;by_cases e:Ax=id
 .subst e
  rw[Yb] at hU;injection hU with hU;exact .inr ⟨o,c,sz,hU⟩
 .rw[X8 e] at hb
  rw[Wc e] at hU;exact .inl ⟨Ax,b',o,c,sz,hb,ho,hU⟩
theorem C3.alloc {w0:World} (h:C3 B io w0 w) (hB:B<=w.heap.size) (ob:Obj):C3 B io w0 (w.alloc ob):=
 ⟨h.os,h.tape,h.output,by have:=h.size;have:=T3 w ob;omega,λg hg hn=>by rw[Below.heap_alloc w ob g (by omega)];exact h.block g hg hn⟩
theorem Rel.PL (h:Rel P B io w tmps s U F fl) {id:Id} (Zu:U id=none) (Yo:id.1=s.ep) {ob:Obj} {b:Be} {o c sz:Nat}
  (hn:Xw P (w.alloc ob) (AI (s.A6 id b) (Bm U id (some (.Bn w.heap.size o c sz))) (w.alloc ob)) (Bm U id (some (.Bn w.heap.size o c sz))) (some (.Bn w.heap.size o c sz)) [w.heap.size] b):
  Rel P B io (w.alloc ob) tmps (s.A6 id b) (Bm U id (some (.Bn w.heap.size o c sz))) (Bm F id [w.heap.size]) fl:=by
 have hs:=T3 w ob;refine h.step (nid:=id) rfl rfl (λAx b' e hb=>by rw[X8 e] at hb;exact hb) (λAx i hi=>?_) (λAx hi=>?_) (λAx e=>Wc e) (λAx e=>Wc e) ⟨λg _ hg=>Below.heap_alloc w ob g hg,λg hg Ya ht=>?_,by omega⟩
  (λAx b' e hb g hg=>Below.heap_alloc w ob g (h.IE (by rw[X8 e] at hb;exact hb) g hg)) (λk hk _=>Below.heap_alloc w ob k (Hq hk h.base)) (λb' hb=>?_) (λb' hb ho=>?_) (λb' hb ho Ax BJ e PM Mn g hg Yi=>?_) (λb' hb ho=>?_) (λg hg=>by have:=h.AS g hg;omega)
  (λAx b' e hb ho g hg=>h.A8 Ax b' (by rw[X8 e] at hb;exact hb) ho g hg) (λb' hb ho g hg Yi=>?_) h.AU
 .have:Ax≠id:=by rintro rfl;rw[Zu] at hi;cases hi
  rw[Wc this];exact hi
 .by_cases e:Ax=id
  .subst e;exact .inr Yo
  .rw[Wc e] at hi;exact .inl hi
 .rcases iZ Zu ht with h1|⟨o',c',Cy,h1⟩
  .exact hg h1
  .injection h1 with h1;omega
 .rw[La] at hb
  injection hb with hb;subst hb;rw[Yb,Yb];exact hn
 .rw[Yb]
  exact⟨λg hg=>by rw[List.mem_singleton.1 hg];omega,λ_ g hg=>by
   have:w.heap.size=g:=by simpa using hg
   have:=h.base;omega⟩
 .rw[Yb] at Yi
  rw[X8 e] at PM;have:=h.IE PM g hg;rw[List.mem_singleton.1 Yi] at this;omega
 .rw[Yb];simp
 .rw[Yb] at hg
  have:=h.AS g Yi;rw[List.mem_singleton.1 hg] at this;omega
theorem EB {id:Id} {i:GP} (Zu:U id=none):∀Ax j,U Ax=some j->Bm U id (some i) Ax=some j:=λAx j hj=>by
 rw[Wc (by rintro rfl;rw[Zu] at hj;cases hj)];exact hj
theorem Rel.PN (h:Rel P B io w tmps s U F fl) {id:Id} (Zu:U id=none) (Yo:id.1=s.ep) {us:Array Value} {row:List V} {t e:TypeId} (hl:us.size=row.length) (GQ:∀x∈row,AG x=true)
  (Wa:∀(j:Nat) (u:Value) (x:V),us[j]?=some u->row[j]?=some x->En w (AI s U w) U u x):
  Rel P B io (w.alloc (.cells us t)) tmps (s.A6 id ⟨true,true,true,e,[row]⟩) (Bm U id (some (.Bn w.heap.size 0 1 row.length))) (Bm F id [w.heap.size]) fl:=by
 refine h.PL Zu Yo ⟨rfl,w.heap.size,us,t,row,rfl,iY w _,rfl,hl,λj u x hu hx=>?_,GQ,rfl⟩;refine (show En w (λg=>(¬AK s U g)/\g < w.heap.size) U u x from Wa j u x hu hx).CE ⟨λg _ hg=>Below.heap_alloc w _ g hg,λg hg Ya ht=>?_,by rw[T3];omega⟩ (EB Zu);rcases iZ Zu ht with h1|⟨o',c',Cy,h1⟩
 .exact hg h1
 .injection h1 with h1;omega
theorem Yl9 (h:Rel P B io w a.tmps s U F fl) {id:Id} (Zu:U id=none) (Yo:id.1=s.ep) (hk:id.2 / 1024=k) {us:Array Value} {row:List V} {t e:TypeId} (hl:us.size=row.length) (GQ:∀x∈row,AG x=true)
  (Wa:∀(j:Nat) (u:Value) (x:V),us[j]?=some u->row[j]?=some x->En w (AI s U w) U u x):
  Cj P B io w a.tmps s U fl k (.ptr id 0 0) (s.A6 id ⟨true,true,true,e,[row]⟩) (.pointer (some ⟨w.heap.size,0,none⟩)) (w.alloc (.cells us t)):=by
 refine⟨rfl,rfl,(C3.refl B io w).alloc h.base _,_,_,h.PN Zu Yo (t:=t) (e:=e) hl GQ Wa,?_,EB Zu,λAx hi=>?_⟩
 .have:=En.ptr (w:=w.alloc (.cells us t)) (ok:=AI (s.A6 id ⟨true,true,true,e,[row]⟩) (Bm U id (some (.Bn w.heap.size 0 1 row.length))) (w.alloc (.cells us t))) (i:=0) (off:=0) (Yb U id (some (.Bn w.heap.size 0 1 row.length)))
  simpa using this
 .by_cases e:Ax=id
  .subst e;exact .inr ⟨Yo,hk⟩
  .rw[Wc e] at hi;exact .inl hi
theorem Xa2 (h:Rel P B io w a.tmps s U F fl) {t:TypeId} {z:List V} (ho:o.op=.alloc t) (hz:Fw P t=some z) {id:Id} (Zu:U id=none) (Yo:id.1=s.ep) (hk:id.2 / 1024=k):
  Ci P o a w (Cj P B io w a.tmps s U fl k (.ptr id 0 0) (s.A6 id ⟨true,true,true,t,[z]⟩)):=by
 unfold Fw at hz;obtain⟨zv,F7,hz⟩:=AA.1 hz;obtain⟨ti,CV,Xe⟩:=AA.1 F7;split at hz
 .rename_i Je
  simp only[AF] at hz;subst hz;have hr:(execOp a.eval o).run P w=.ok (.value (.pointer (some ⟨w.heap.size,0,none⟩))) (w.alloc (.cells zv.cells t)):=by
   simp[execOp,ho,Instr.alloc,zeroValue,typeInfo,CV,Xe,newVar,newRow]
  refine .value hr (Yl9 h Zu Yo hk (by simp) (λx hx=>by obtain⟨u,_,rfl⟩:=D7.1 hx;rfl) (λj u x hu hx=>?_));simp only[D5,AM] at hx;obtain⟨y,hy,rfl⟩:=hx;have:u=y:=by
   have h1:zv.cells.toList[j]?=some u:=by simpa using hu
   rw[h1] at hy;injection hy
  subst this;exact .lit (Cf.1 Je _ (E8 hy))
 .cases hz
theorem jA {w:World} {ok:Nat->Prop} {u:Value} {x:V} {cs:List V} (h:En w ok U u x) (hc:Me x=some cs):u.cells.size=cs.length/\(∀y∈cs,AG y=true)/\∀(j:Nat) (v:Value) (y:V),u.cells[j]?=some v->cs[j]?=some y->En w ok U v y:=by
 have one:(∀vs,u≠.agg vs)->AG x=true->cs=[x]->u.cells.size=cs.length/\(∀y∈cs,AG y=true)/\∀(j:Nat) (v:Value) (y:V),u.cells[j]?=some v->cs[j]?=some y->En w ok U v y:=by
  rintro hu hx rfl;have huc:u.cells=#[u]:=by
   cases u<;>first|rfl|exact absurd rfl (hu _)
  rw[huc];refine⟨rfl,λy hy=>by rw[List.mem_singleton.1 hy];exact hx,λj v y hv hy=>?_⟩;cases j with
  | zero=>
   have h1:u=v:=by simpa using hv
   have h2:x=y:=by simpa using hy
   subst h1;subst h2;exact h
  | succ j=>simp at hy
 cases x<;>simp only[Me,AF] at hc<;>try cases hc
 case agg=>cases h with|agg hl GQ hr=>exact⟨hl,GQ,hr⟩
 case lit v=>cases h with|lit hs=>exact one (by rintro vs rfl;simp[DJ] at hs) rfl rfl
 case ptr=>cases h;exact one (by rintro vs e;cases e) rfl rfl
 case rp=>cases h with|rp h2=>cases h2;exact one (by rintro vs e;cases e) rfl rfl
 case sl=>cases h<;>exact one (by rintro vs e;cases e) rfl rfl
 case tr=>cases h with|tr h2=>cases h2<;>exact one (by rintro vs e;cases e) rfl rfl
 case vw=>cases h with|vw h2=>cases h2<;>exact one (by rintro vs e;cases e) rfl rfl
 case fn=>cases h;exact one (by rintro vs e;cases e) rfl rfl
theorem PO (h:Rel P B io w a.tmps s U F fl) {t:TypeId} {x:Operand} {cs:List V} (ho:o.op=.box t x) (hc:Me (s.AQ x)=some cs) {id:Id} (Zu:U id=none) (Yo:id.1=s.ep) (hk:id.2 / 1024=k):
  Ci P o a w (Cj P B io w a.tmps s U fl k (.ptr id 0 0) (s.A6 id ⟨true,true,true,t,[cs]⟩)):=by
 obtain⟨h1,h2,h3⟩:=jA (h.AQ x) hc;have hr:(execOp a.eval o).run P w=.ok (.value (.pointer (some ⟨w.heap.size,0,none⟩))) (w.alloc (.cells (a.eval x).cells t)):=by
  simp[execOp,ho,Instr.box,newVar,newRow]
 exact .value hr (Yl9 h Zu Yo hk h1 h2 h3)
end
theorem En.one {w:World} {ok:Nat->Prop} {U:AZ} {u:Value} {x:V} (h:En w ok U u x) (hx:AG x=true):u.oneCell'=true:=by
 cases h with
 | undef=>simp[AG] at hx
 | lit h=>cases u<;>simp_all [DJ,Value.oneCell']
 | tr h=>exact h.one
 | vw h=>exact h.one
 | rp h=>exact h.one
 | ptr=>rfl
 | sl=>rfl
 | sle=>rfl
 | fn=>rfl
 | agg=>simp[AG] at hx
 | AX=>simp[AG] at hx
theorem jB {row:List V} {n:Nat} {cs:List V} (hn:n+cs.length<=row.length) {j:Nat} {x:V} (h:(Ds row n cs)[j]?=some x):(n<=j/\j < n+cs.length/\cs[j - n]?=some x)\/((j < n\/n+cs.length<=j)/\row[j]?=some x):=by
 unfold Ds at h;by_cases h1:j < n
 .rw[List.append_assoc,EW (by simp;omega),Dr,Ah h1] at h
  exact .inr ⟨.inl h1,h⟩
 .rw[List.append_assoc,Fq (by simp;omega)] at h
  have e:(row.take n).length=n:=by simp;omega
  rw[e] at h;by_cases h2:j - n < cs.length
  .rw[EW h2] at h
   exact .inl ⟨by omega,by omega,h⟩
  .rw[Fq (by omega),D4] at h
   refine .inr ⟨.inr (by omega),?_⟩;rw[<-h];congr 1;omega
theorem VU {row:List V} {n:Nat} {cs:List V} (hn:n+cs.length<=row.length):(Ds row n cs).length=row.length:=by
 unfold Ds;simp;omega
theorem NM {α:Type} {cur:List α} {n:Nat} {vs:List α} (hn:n+vs.length<=cur.length) {j:Nat}:(cur.take n++vs++cur.drop (n+vs.length))[j]?=if n<=j/\j < n+vs.length then vs[j - n]? else cur[j]?:=by
 by_cases h1:j < n
 .rw[Ai (by omega),List.append_assoc,EW (by simp;omega),Dr,Ah h1]
 .rw[List.append_assoc,Fq (by simp;omega)]
  have e:(cur.take n).length=n:=by simp;omega
  rw[e];by_cases h2:j - n < vs.length
  .rw[Ah (by omega),EW h2]
  .rw[Ai (by omega),Fq (by omega),D4]
   congr 1;omega
section
variable {P:Program} {B:Nat} {io:Nat->Prop} {w w':World} {a:Act} {tmps:Array Value} {s s':St} {U U':AZ} {F F':Id->List Nat} {fl fl':List Nat} {k:Nat} {o:Oper} {v:V}
theorem jC {id:Id} {b b':Be} (hb:s.heap id=some b) (ho:b'.own=b.own):∀g,AK (s.A6 id b') U g↔AK s U g:=by
 intro g;constructor
 .rintro⟨Ax,BJ,o,c,sz,Y1,BS,hU⟩
  by_cases e:Ax=id
  .subst e
   rw[La] at Y1;injection Y1 with Y1;subst Y1;exact⟨Ax,b,o,c,sz,hb,by rw[<-ho];exact BS,hU⟩
  .rw[X8 e] at Y1
   exact⟨Ax,BJ,o,c,sz,Y1,BS,hU⟩
 .rintro⟨Ax,BJ,o,c,sz,Y1,BS,hU⟩
  by_cases e:Ax=id
  .subst e
   rw[hb] at Y1;injection Y1 with Y1;subst Y1;exact⟨Ax,b',o,c,sz,La,by rw[ho];exact BS,hU⟩
  .exact⟨Ax,BJ,o,c,sz,by rw[X8 e];exact Y1,BS,hU⟩
theorem Rel.write (h:Rel P B io w tmps s U F fl) {id:Id} {b b':Be} {g o c sz:Nat} {new:Array Value} {cur:Array Value} {e:TypeId} {Fs:List Nat} (hb:s.heap id=some b) (ho:b.own=true) (BS:b'.own=true) (hU:U id=some (.Bn g o c sz)) (hg:w.heap[g]?=some (.cells cur e (0,0)))
  (hF:∃r,F id=g::r) (PQ:∃r,Fs=g::r) (Hz:∀k∈Fs,k∈F id\/k∈fl) (Cz:Fs.Nodup) {fl':List Nat} (BK:∀k∈fl',k∈fl) (PF:fl'.Nodup) (VV:∀k∈Fs,k ∉ fl') (F8:0 < c)
  (hn:Xw P (w.setRow g new) (AI (s.A6 id b') U (w.setRow g new)) U (some (.Bn g o c sz)) Fs b'):
  Rel P B io (w.setRow g new) tmps (s.A6 id b') U (Bm F id Fs) fl'/\C3 B io w (w.setRow g new)/\I8 w (w.setRow g new) (λg=>¬AK s U g) (λg=>¬AK (s.A6 id b') U g):=by
 obtain⟨r,IF⟩:=hF;have NN:g∈F id:=by rw[IF];exact BI
 have Wf:AK s U g:=⟨id,b,o,c,sz,hb,ho,hU⟩;have Mp:(w.setRow g new).heap.size=w.heap.size:=by simp[World.setRow]
 have hk:I8 w (w.setRow g new) (λg=>¬AK s U g) (λg=>¬AK (s.A6 id b') U g):=
  ⟨λg' Yi _=>setRow_other w g g' _ (λe=>Yi (e▸Wf)),λg' Yi _ ht=>Yi ((jC hb (by rw[ho,BS])  g').1 ht),by rw[Mp];exact B2 _⟩
 refine⟨?_,⟨rfl,rfl,rfl,by rw[Mp];exact B2 _,λg' Yi Hw=>setRow_other w g g' _ (λe=>?_)⟩,hk⟩
 .refine h.step (nid:=id) rfl rfl (λAx BJ e Y1=>by rw[X8 e] at Y1;exact Y1) (λ_ _ h=>h) (λ_ h=>.inl h) (λ_ _=>rfl) (λAx e=>Wc e) hk (λAx BJ e Y1 g' Yi=>setRow_other w g g' _ (λe'=>?_)) (λk hk Hw=>setRow_other w g k _ (λe=>by
    subst e;rcases h.top id b hb ho ⟨k,o,c,sz,hU,F8⟩ k (by rw[IF];rfl) with h1|h1
    .exact Hw h1
    .omega)) (λBJ Y1=>?_) (λBJ Y1 Mn=>?_) (λBJ Y1 Mn Ax b3 e NO PR g' Yi Ez=>?_) (λBJ Y1 Mn=>by rw[Yb];exact Cz)
   (λg' Yi=>by rw[Mp];exact h.AS g' (BK g' Yi)) (λAx BJ e Y1 Mn g' Yi Ez=>?_) (λBJ Y1 Mn g' Yi Ez=>by rw[Yb] at Yi;exact VV g' Yi Ez) PF
  .subst e'
   rw[X8 e] at Y1;cases Yz:BJ.own with
   | true=>exact h.apart Ax id BJ b Y1 Yz hb ho e g' Yi NN
   | false=>
    have hB:=h.heap Ax BJ Y1;unfold Xw at hB;rw[Yz] at hB;split at hB
    .cases hB.1
    .rename_i h2;cases h2
    .rw[hB.1] at Yi;cases Yi
  .rw[La] at Y1
   injection Y1 with Y1;subst Y1;rw[Yb,hU];exact hn
  .rw[Yb]
   refine⟨λg' Yi=>?_,λ_ g' Yi=>?_⟩
   .rw[Mp]
    rcases Hz g' Yi with h1|h1
    .exact h.CR id b hb ho g' h1
    .exact h.AS g' h1
   .obtain⟨r',rfl⟩:=PQ
    have e1:g=g':=by simpa using Yi
    subst e1;exact h.top id b hb ho ⟨g,o,c,sz,hU,F8⟩ g (by rw[IF];rfl)
  .rw[Yb] at Ez
   rw[X8 e] at NO;rcases Hz g' Ez with h1|h1
   .exact h.apart Ax id b3 b NO PR hb ho e g' Yi h1
   .exact h.A8 Ax b3 NO PR g' Yi h1
  .rw[X8 e] at Y1
   exact h.A8 Ax BJ Y1 Mn g' Yi (BK g' Ez)
 .subst e
  rcases h.top id b hb ho ⟨g',o,c,sz,hU,F8⟩ g' (by rw[IF];rfl) with h1|h1
  .exact Hw h1
  .omega
end
section
variable {P:Program} {B:Nat} {io:Nat->Prop} {w w':World} {a:Act} {tmps:Array Value} {s s':St} {U U':AZ} {F F':Id->List Nat} {fl fl':List Nat} {k:Nat} {o:Oper} {v:V}
theorem Ysm {t:TypeId} {x y:Operand} {g n:Nat} {cur:Array Value} {e:TypeId} (ho:o.op=.store t x y) (hx:a.eval x=.pointer (some ⟨g,n,none⟩)) (hl:(a.eval y).cells.size=Z5 P t) (hz:Z5 P t≠0) (hg:w.heap[g]?=some (.cells cur e (0,0)))
  (NP:n+Z5 P t<=cur.size) (h1:∀u∈(a.eval y).cells.toList,u.oneCell'=true):
  (execOp a.eval o).run P w=.ok .skip (w.setRow g (cur.toList.take n++(a.eval y).cells.toList++cur.toList.drop (n+(a.eval y).cells.toList.length)).toArray):=by
 obtain⟨ti,CV,W3⟩:∃ti,P.info? t=some ti/\ti.size=Z5 P t:=by
  unfold Z5 Program.cellsOf at hz ⊢;cases hq:P.info? t with
  | none=>rw[hq] at hz;simp at hz
  | some ti=>exact⟨ti,rfl,rfl⟩
 have hs:=run_storeCells_at P g n e (a.eval y).cells.toList 0 cur w hg (by simpa [hl] using NP) h1;simp only[Fv] at hs;simp[execOp,ho,hx,Instr.storeAt,Instr.sureAddr,storeVar,Go.sizeOf,typeInfo,CV,W3,hl,hs]
theorem Y2a (h:Rel P B io w a.tmps s U F fl) {t:TypeId} {x y:Operand} {id:Id} {j n:Nat} {b:Be} {row cs:List V} (ho:o.op=.store t x y) (hx:s.AQ x=.ptr id j n) (hb:s.heap id=some b) (Xj:b.rows[j]?=some row) (hc:Me (s.AQ y)=some cs)
  (Yz:b.own=true) (Xp:b.box=true) (Qf:cs.length=Z5 P t) (NP:n+Z5 P t<=row.length) (hz:Z5 P t≠0):
  Ci P o a w (Cj P B io w a.tmps s U fl k .undef (s.A6 id {b with rows:=b.rows.set j (Ds row n cs)})):=by
 have EC:=h.AQ x;rw[hx] at EC;obtain⟨Cp,D8,GS⟩:=jA (h.AQ y) hc;generalize hq:a.eval x=q at EC;cases EC with
 | @ptr _ g o' c sz _ _ hU=>
  have hB:=h.heap id b hb;rw[hU] at hB;have hB':=hB;unfold Xw at hB;rw[Xp] at hB;obtain⟨_,g',cur,e,Ck,hi,hg,hr,hs,he,GQ,hF⟩:=hB;cases hi;rw[hr] at Xj;have hj:j=0/\Ck=row:=by
   cases j with
   | zero=>exact⟨rfl,by simpa using Xj⟩
   | succ j=>simp at Xj
  obtain⟨rfl,rfl⟩:=hj;simp only[iP,P6] at hq;have Yp:(a.eval y).cells.size=Z5 P t:=by rw[Cp,Qf]
  have X2:=Ysm (P:=P) ho hq Yp hz hg (by omega) (λu hu=>by
   obtain⟨m,hm⟩:=HN hu;have Dm:(a.eval y).cells[m]?=some u:=by simpa using hm
   have Ya:m < cs.length:=by have:=(HM.1 Dm).1;omega
   exact (GS m u _ Dm (C6 Ya)).one (D8 _ (B6 Ya)))
  generalize Xa:(cur.toList.take n++(a.eval y).cells.toList++cur.toList.drop (n+(a.eval y).cells.toList.length)).toArray=new at X2;have IG:(a.eval y).cells.toList.length=cs.length:=by simpa using Cp
  have Gv:n+cs.length<=Ck.length:=by omega
  have Wu:b.rows.set 0 (Ds Ck n cs)=[Ds Ck n cs]:=by rw[hr];rfl
  have VP:new.size=Ck.length:=by rw[<-Xa];simp only[List.size_toArray,BW,Ey,KO,Array.length_toList,IG];simp at IG;omega
  have VW:∀g',AK (s.A6 id {b with rows:=b.rows.set 0 (Ds Ck n cs)}) U g'↔AK s U g':=jC hb rfl;have hwk:I8 w (w.setRow g new) (λg=>¬AK s U g) (λg=>¬AK (s.A6 id {b with rows:=b.rows.set 0 (Ds Ck n cs)}) U g):=
   ⟨λg' Yi _=>setRow_other w g g' _ (λe=>Yi (e▸⟨id,b,_,_,_,hb,Yz,hU⟩)),λg' Yi _ ht=>Yi ((VW g').1 ht),by simp⟩
  obtain⟨h1,h2,h3⟩:=h.write (b':={b with rows:=b.rows.set 0 (Ds Ck n cs)}) (Fs:=F id) (fl':=fl) (new:=new) hb Yz Yz hU hg ⟨[],hF⟩ ⟨[],hF⟩ (λk hk=>.inl hk) (h.once id b hb Yz) (λ_ h=>h) h.AU (h.A8 id b hb Yz) (by omega) (by
   refine .I9 (row:=Ds Ck n cs) Xp Yz (by rw[VU Gv]) (setRow_heap w g cur new e (0,0) hg) Wu (by rw[VU Gv];exact VP) (λm u z hu hz=>?_) (λz hz=>?_) hF
   .have Cn:(cur.toList.take n++(a.eval y).cells.toList++cur.toList.drop (n+(a.eval y).cells.toList.length))[m]?=some u:=by rw[<-Xa] at hu;simpa using hu
    rw[NM (by simp only[Array.length_toList,IG];omega),IG] at Cn;rcases jB Gv hz with⟨h4,h5,h6⟩|⟨h4,h6⟩
    .rw[Ah ⟨h4,h5⟩] at Cn
     exact (show En w (λg=>(¬AK s U g)/\g < w.heap.size) U u z from GS _ u z (by simpa using Cn) h6).CE hwk (λ_ _ h=>h)
    .rw[Ai (by omega)] at Cn
     exact (show En w (λg=>(¬AK s U g)/\g < w.heap.size) U u z from he m u z (by simpa using Cn) h6).CE hwk (λ_ _ h=>h)
   .obtain⟨m,hm⟩:=HN hz
    rcases jB Gv hm with⟨_,_,h6⟩|⟨_,h6⟩
    .exact D8 z (E8 h6)
    .exact GQ z (E8 h6))
  refine .skip X2 ⟨rfl,rfl,h2,U,Bm F id (F id),h1,.undef,λ_ _ h=>h,λ_ h=>.inl h⟩
end
theorem B7.split {w:World}:∀(n:Nat) {vs:List Value} {xs:List V} {fp:List Nat},B7 w vs xs fp->∃f1 f2,fp=f1++f2/\B7 w (vs.take n) (xs.take n) f1/\B7 w (vs.drop n) (xs.drop n) f2:=by
 intro n
 induction n with
 | zero=>intro vs xs fp h;exact⟨[],fp,rfl,by simp;exact .nil,h⟩
 | succ n ih=>
  intro vs xs fp h;cases xs with
  | nil=>cases h;exact⟨[],[],rfl,.nil,.nil⟩
  | cons x xs=>
   cases h with
   | @cons v _ vs _ f1 f2 h hs=>
    obtain⟨g1,g2,e,h1,h2⟩:=ih hs;exact⟨f1++g1,g2,by rw[e,List.append_assoc],.cons h h1,h2⟩
theorem B7.put {w:World} {vs us:List Value} {xs ys:List V} {f f2:List Nat} (h:B7 w vs xs f) (h2:B7 w us ys f2) (m:Nat):∃f',B7 w (vs.take m++us++vs.drop (m+us.length)) (xs.take m++ys++xs.drop (m+us.length)) f'/\(∀k∈f',k∈f\/k∈f2)/\((f++f2).Nodup->f'.Nodup):=by
 obtain⟨f1,fr,rfl,ha,hb⟩:=h.split m;obtain⟨fm,fd,rfl,hc,hd⟩:=hb.split us.length;rw[List.drop_drop,List.drop_drop] at hd;have e:(f1++f2++fd).Perm (f1++fd++f2):=by
  rw[List.append_assoc,List.append_assoc];exact List.Perm.append_left _ iC
 have DS:(f1++fd++f2).Sublist (f1++(fm++fd)++f2):=V2 (V2 (N9 _) (Ix _ _)) (N9 _);refine⟨f1++f2++fd,(ha.append h2).append hd,λk hk=>?_,λhn=>e.nodup_iff.2 (hn.sublist DS)⟩;have:=DS.subset (e.mem_iff.1 hk);exact BP.1 this
theorem Y1t {α:Type} {sz:Nat}:∀{rows:List (List α)} {j:Nat} {row:List α} {n:Nat} {ys:List α},(∀r∈rows,r.length=sz)->rows[j]?=some row->n+ys.length<=sz->
  (rows.set j (row.take n++ys++row.drop (n+ys.length))).flatten=rows.flatten.take (j*sz+n)++ys++rows.flatten.drop (j*sz+n+ys.length):=by
 intro rows
 induction rows with
 | nil=>intro j row n ys _ h;simp at h
 | cons r rs ih=>
  intro j row n ys hs hj hn;have hr:r.length=sz:=hs r BI;cases j with
  | zero=>
   have:r=row:=by simpa using hj
   subst this;simp only[List.set_cons_zero,Ee,iP,P6];rw[Vdu (by omega),List.drop_append_of_le_length (by omega)];simp only[List.append_assoc]
  | succ j=>
   have h1:=ih (λr h=>hs r (Cg _ h)) (show rs[j]?=some row by simpa using hj) hn;simp only[List.set_cons_succ,Ee,h1];rw[show (j+1)*sz+n=r.length+(j*sz+n) by rw[KR,hr];omega,List.take_length_add_append,show r.length+(j*sz+n)+ys.length=r.length+(j*sz+n+ys.length) by omega,List.drop_length_add_append];simp only[List.append_assoc]
section
variable {P:Program} {B:Nat} {io:Nat->Prop} {w w':World} {a:Act} {tmps:Array Value} {s s':St} {U U':AZ} {F F':Id->List Nat} {fl fl':List Nat} {k:Nat} {o:Oper} {v:V}
theorem Y2t (h:Rel P B io w a.tmps s U F fl) {t:TypeId} {x y:Operand} {id:Id} {j n:Nat} {b b1:Be} {row cs ys:List V} {c:Bool} {s1:St} (ho:o.op=.store t x y) (hx:s.AQ x=.ptr id j n) (hb:s.heap id=some b) (Xj:b.rows[j]?=some row) (hc:Me (s.AQ y)=some cs)
  (Yz:b.own=true) (Xp:b.box=false) (Qf:cs.length=Z5 P t) (NP:n+Z5 P t<=row.length) (hz:Z5 P t≠0) (VX:s.sink cs=some (ys,c,s1)) (CG:s1.heap id=some b1):
  Ci P o a w (Cj P B io w a.tmps s U fl k .undef (s1.A6 id {b1 with cl:=b1.cl&&c,rows:=b1.rows.set j (Ds row n ys)})):=by
 have EC:=h.AQ x;rw[hx] at EC;obtain⟨Cp,D8,GS⟩:=jA (h.AQ y) hc;generalize hq:a.eval x=q at EC;cases EC with
 | @ptr _ g o' c' sz _ _ hU=>
  obtain⟨fp,hR,T4,T2,iX,CW,Yo,DS,VY⟩:=Y3r cs (us:=(a.eval y).cells.toList) h (by simpa using Cp) (λm u z hu hz=>GS m u z (by simpa using hu) hz) VX;have wT:b1=b:=by
   have:=DS id b1 CG;rw[hb] at this;injection this with this;exact this.symm
  subst wT;have hB:=hR.heap id b1 CG;rw[hU] at hB;unfold Xw at hB;rw[Xp,Yz] at hB;rcases hB with⟨Y7,_⟩|⟨g',iT,c'',cur,Y7,hg,hl,hm,Ca,PC,r,hF,h1,h2⟩
  .cases Y7
  .cases Y7
   have Du:row.length=P.cellsOf b1.el:=Ca row (E8 Xj);have KX:=(Dg.1 Xj).1;have Yp:(a.eval y).cells.size=Z5 P t:=by rw[Cp,Qf]
   have IG:(a.eval y).cells.toList.length=cs.length:=by simpa using Cp
   have hyc:ys.length=cs.length:=by rw[<-T4,IG]
   have hfitc:o'+j*P.cellsOf b1.el+n+cs.length<=cur.size:=by
    have:(j+1)*P.cellsOf b1.el<=c'*P.cellsOf b1.el:=N8 _ (by omega);rw[KR] at this;omega
   have X2:=Ysm (P:=P) ho hq Yp hz hg (by omega) (λu hu=>by
    obtain⟨m,Dm⟩:=HN hu;have Dm:(a.eval y).cells[m]?=some u:=by simpa using Dm
    have Ya:m < cs.length:=by have:=(HM.1 Dm).1;omega
    exact (GS m u _ Dm (C6 Ya)).one (D8 _ (B6 Ya)))
   have hsy:Ds row n ys=row.take n++ys++row.drop (n+ys.length):=rfl;have T5:=Y1t (ys:=ys) Ca Xj (show n+ys.length<=P.cellsOf b1.el by omega);rw[<-hsy] at T5;have NQ:=HU Ca;generalize NJ:(a.eval y).cells.toList=us at X2 T2 iX T4 IG;have Lb:j*P.cellsOf b1.el+n+us.length<=b1.rows.length*P.cellsOf b1.el:=by
    have:(j+1)*P.cellsOf b1.el<=b1.rows.length*P.cellsOf b1.el:=N8 _ (by omega);rw[KR] at this;omega
   have hbc:b1.rows.length*P.cellsOf b1.el<=c'*P.cellsOf b1.el:=N8 _ hl;have NN:g∈F id:=by rw[hF];exact BI
   have IH:g ∉ r:=by
    have:=hR.once id b1 CG Yz;rw[hF] at this;exact (EY.1 this).1
   have T6:g ∉ fp++fl:=hR.A8 id b1 CG Yz g NN;generalize Xa:(cur.toList.take (o'+j*P.cellsOf b1.el+n)++us++cur.toList.drop (o'+j*P.cellsOf b1.el+n+us.length)).toArray=new at X2;have Lc:new.size=cur.size:=by rw[<-Xa];simp;omega
   have NR:∀m,new[o'+m]?=if j*P.cellsOf b1.el+n<=m/\m < j*P.cellsOf b1.el+n+us.length then us[m - (j*P.cellsOf b1.el+n)]? else cur[o'+m]?:=by
    intro m;rw[<-Xa];have:=NM (cur:=cur.toList) (n:=o'+j*P.cellsOf b1.el+n) (vs:=us) (by simp;omega) (j:=o'+m);rw[iB,this];by_cases hc:j*P.cellsOf b1.el+n<=m/\m < j*P.cellsOf b1.el+n+us.length
    .rw[Ah (by omega),Ah hc];congr 1;omega
    .rw[Ai (by omega),Ai hc];simp
   have Mq:∀k',k'≠g->(w.setRow g new).heap[k']?=w.heap[k']?:=λk' Qg=>setRow_other w g k' _ Qg;have PS:∀r'∈b1.rows.set j (Ds row n ys),r'.length=P.cellsOf b1.el:=λr' Cl=>by
    rcases Vx Cl with h4|h4
    .exact Ca r' h4
    .rw[h4,VU (by omega)];exact Du
   have PT:(b1.rows.set j (Ds row n ys)).length=b1.rows.length:=KQ;have F5:(new.toList.drop o').take (b1.rows.length*P.cellsOf b1.el)=((cur.toList.drop o').take (b1.rows.length*P.cellsOf b1.el)).take (j*P.cellsOf b1.el+n)++us++((cur.toList.drop o').take (b1.rows.length*P.cellsOf b1.el)).drop (j*P.cellsOf b1.el+n+us.length):=by
    apply V4;intro m;rw[NM (by simp;omega),Dr,Dr,D4,D4];have hm:=NR m;simp only[iD];rw[hm];by_cases hc:j*P.cellsOf b1.el+n<=m/\m < j*P.cellsOf b1.el+n+us.length
    .rw[Ah hc,Ah hc,Ah (by omega)]
    .rw[Ai hc,Ai hc]
   have htb:∀b':Be,b'.own=true->∀g',AK (s1.A6 id b') U g'->AK s1 U g':=λb' Y1 g'=>(jC CG (by rw[Y1,Yz]) g').1;have VZ:∀b':Be,b'.own=true->∀g',AI s1 U w g'->AI (s1.A6 id b') U (w.setRow g new) g':=λb' Y1 g' Yi=>⟨λht=>Yi.1 (htb b' Y1 g' ht),by simpa using Yi.2⟩;have Wf:AK s1 U g:=⟨id,b1,_,_,_,CG,Yz,hU⟩;have E0:∀b':Be,b'.own=true->∀{u:Value} {z:V},Rd w (AI s1 U w) u z->Rd (w.setRow g new) (AI (s1.A6 id b') U (w.setRow g new)) u z:=λb' Y1 u z hu=>
    hu.mono (λg' Yi _=>Mq g' (λe=>Yi.1 (e▸Wf))) (VZ b' Y1)
   have fin:∀(Fs:List Nat),(∃r',Fs=g::r')->(∀k'∈Fs,k'∈F id\/k'∈fp++fl)->Fs.Nodup->(∀k'∈Fs,k' ∉ fl)->
     Xw P (w.setRow g new) (AI (s1.A6 id {b1 with cl:=b1.cl&&c,rows:=b1.rows.set j (Ds row n ys)}) U (w.setRow g new)) U (some (.Bn g o' c' (P.cellsOf b1.el))) Fs {b1 with cl:=b1.cl&&c,rows:=b1.rows.set j (Ds row n ys)}->
     Ci P o a w (Cj P B io w a.tmps s U fl k .undef (s1.A6 id {b1 with cl:=b1.cl&&c,rows:=b1.rows.set j (Ds row n ys)})):=by
    intro Fs PQ Hz Cz VV wU;obtain⟨w1,w2,w3⟩:=hR.write (b':={b1 with cl:=b1.cl&&c,rows:=b1.rows.set j (Ds row n ys)}) (Fs:=Fs) (fl':=fl) (new:=new) CG Yz Yz hU hg ⟨r,hF⟩ PQ Hz Cz (λk' Qg=>D3 _ Qg) h.AU VV (by omega) wU;exact .skip X2 ⟨CW,Yo,w2,U,Bm F id Fs,w1,.undef,λ_ _ h=>h,λ_ h=>.inl h⟩
   by_cases Co:(b1.cl&&c)=true
   .rw[Bh] at Co
    have wV:=(h1 Co.1).frame (w':=w.setRow g new) (λk' Qg=>Mq k' (λe=>IH (e▸Qg)));have PU:=(T2 Co.2).frame (w':=w.setRow g new) (λk' Qg=>Mq k' (λe=>T6 (e▸CH _ Qg)));obtain⟨f',hO,NS,NT⟩:=wV.put PU (j*P.cellsOf b1.el+n);rw[<-F5,show us.length=ys.length by omega,<-T5] at hO;have wW:(r++fp).Nodup:=by
     have n1:=hR.once id b1 CG Yz;rw[hF] at n1;refine EX.2 ⟨(EY.1 n1).2,(EX.1 hR.AU).1,λp hp q hq e=>?_⟩;subst e;exact hR.A8 id b1 CG Yz p (by rw[hF];exact Cg _ hp) (CH _ hq)
    have WA:g ∉ f':=λhf=>by
     rcases NS g hf with h4|h4
     .exact IH h4
     .exact T6 (CH _ h4)
    refine fin (g::f') ⟨f',rfl⟩ (λk' Qg=>?_) (EY.2 ⟨WA,NT wW⟩) (λk' Qg WB=>?_) (.Cu (fp:=f') Xp Yz rfl (setRow_heap w g cur new _ _ hg) (by rw[PT];exact hl) hm PS (by rw[Lc];exact PC) rfl (λ_=>by rw[PT];exact hO) (λhf=>by simp[Co.1,Co.2] at hf))
    .rcases BX.1 Qg with rfl|Qg
     .exact .inl NN
     .rcases NS k' Qg with h4|h4
      .exact .inl (by rw[hF];exact Cg _ h4)
      .exact .inr (CH _ h4)
    .rcases BX.1 Qg with rfl|Qg
     .exact T6 (D3 _ WB)
     .rcases NS k' Qg with h4|h4
      .exact hR.A8 id b1 CG Yz k' (by rw[hF];exact Cg _ h4) (D3 _ WB)
      .exact (EX.1 hR.AU).2.2 k' h4 k' WB rfl
   .have NU:∀(m:Nat) (z:V),b1.rows.flatten[m]?=some z->∃u,cur[o'+m]?=some u/\Rd w (AI s1 U w) u z:=by
     intro m z H0;cases WC:b1.cl with
     | true=>
      obtain⟨u,hu,hr⟩:=(h1 WC).rd (ok:=AI s1 U w) (λk' Qg=>hR.GR CG Yz hU (by rw[hF];exact Cg _ Qg) (λg' _ _ _ e=>by cases e;rintro rfl;exact IH Qg)) H0;rw[Dr] at hu;split at hu
      .exact⟨u,by simpa using hu,hr⟩
      .cases hu
     | false=>exact (h2 WC).2 m z H0
    refine fin [g] ⟨[],rfl⟩ (λk' Qg=>.inl (by rw[List.mem_singleton.1 Qg];exact NN)) (by simp) (λk' Qg WB=>T6 (D3 _ (by rw[<-List.mem_singleton.1 Qg];exact WB))) (.Cu (fp:=[]) Xp Yz rfl (setRow_heap w g cur new _ _ hg) (by rw[PT];exact hl) hm PS (by rw[Lc];exact PC) rfl (λhf=>absurd hf Co) (λ_=>⟨rfl,λm z H0=>?_⟩));rw[T5,NM (by rw[NQ];omega)] at H0;rw[NR m,show us.length=ys.length by omega];split at H0
    .rename_i hc
     rw[Ah hc];have Ya:m - (j*P.cellsOf b1.el+n) < us.length:=by omega
     refine⟨us[m - (j*P.cellsOf b1.el+n)],C6 Ya,E0 {b1 with cl:=b1.cl&&c,rows:=b1.rows.set j (Ds row n ys)} Yz (iX _ _ z (C6 Ya) H0)⟩
    .rename_i hc
     rw[Ai hc];obtain⟨u,hu,hr⟩:=NU m z H0;exact⟨u,hu,E0 {b1 with cl:=b1.cl&&c,rows:=b1.rows.set j (Ds row n ys)} Yz hr⟩
end
section
variable {P:Program} {B:Nat} {io:Nat->Prop} {w w':World} {tmps:Array Value} {s s':St} {U U':AZ} {F F':Id->List Nat} {fl fl':List Nat}
theorem jD {i id:Id} {b b':Be} {g o c sz o' c' Cy:Nat} (Zu:U id=none) (hb:s.heap i=some b) (ho:b.own=true) (hU:U i=some (.Bn g o c sz)):
  ∀g',AK ((s.kill i).A6 id b') (Bm U id (some (.Bn g o' c' Cy))) g'->AK s U g':=by
 rintro g' ⟨Ax,BJ,o2,c2,wH,Y1,BS,Dt⟩;by_cases e:Ax=id
 .subst e
  rw[Yb] at Dt;injection Dt with Dt;injection Dt with hg;subst hg;exact⟨i,b,o,c,sz,hb,ho,hU⟩
 .rw[X8 e] at Y1
  rw[Wc e] at Dt;exact⟨Ax,BJ,o2,c2,wH,IC Y1,BS,Dt⟩
theorem Rel.move (h:Rel P B io w tmps s U F fl) {i id:Id} {b b':Be} {g o c sz o' c' Cy:Nat} {Fs:List Nat} (Zu:U id=none) (Yo:id.1=s.ep) (hb:s.heap i=some b) (ho:b.own=true) (hU:U i=some (.Bn g o c sz))
  (hF:∃r,F i=g::r) (PQ:∃r,Fs=g::r) (Hz:∀k∈Fs,k∈F i) (Cz:Fs.Nodup) (F8:0 < c'->0 < c)
  (hn:Xw P w (AI ((s.kill i).A6 id b') (Bm U id (some (.Bn g o' c' Cy))) w) (Bm U id (some (.Bn g o' c' Cy))) (some (.Bn g o' c' Cy)) Fs b'):
  Rel P B io w tmps ((s.kill i).A6 id b') (Bm U id (some (.Bn g o' c' Cy))) (Bm F id Fs) fl:=by
 have Yj:i≠id:=by rintro rfl;rw[Zu] at hU;cases hU
 have old:∀{Ax:Id} {BJ:Be},Ax≠id->((s.kill i).A6 id b').heap Ax=some BJ->s.heap Ax=some BJ/\Ax≠i:=λ{Ax BJ} e Y1=>by
  rw[X8 e] at Y1;refine⟨IC Y1,?_⟩;rintro rfl;rw[Ke] at Y1;cases Y1
 obtain⟨r,IF⟩:=hF;refine h.step (nid:=id) rfl rfl (λAx BJ e Y1=>(old e Y1).1) (EB Zu) (λAx hi=>?_) (λAx e=>Wc e) (λAx e=>Wc e) (.same (jD Zu hb ho hU)) (λ_ _ _ _ _ _=>rfl) (λ_ _ _=>rfl)
  (λBJ Y1=>?_) (λBJ Y1 BS=>?_) (λBJ Y1 BS Ax b3 e NO PR g' Yi Ez=>?_) (λBJ Y1 BS=>by rw[Yb];exact Cz) h.AS
  (λAx BJ e Y1 BS=>h.A8 Ax BJ (old e Y1).1 BS) (λBJ Y1 BS g' Yi=>?_) h.AU
 .by_cases e:Ax=id
  .subst e;exact .inr Yo
  .rw[Wc e] at hi;exact .inl hi
 .rw[La] at Y1
  injection Y1 with Y1;subst Y1;rw[Yb,Yb];exact hn
 .rw[Yb]
  refine⟨λg' Yi=>h.CR i b hb ho g' (Hz g' Yi),λCo g' Yi=>?_⟩;obtain⟨r',rfl⟩:=PQ;have e1:g=g':=by simpa using Yi
  subst e1;exact h.top i b hb ho (by
   rw[Yb] at Co;obtain⟨_,_,_,_,e2,h2⟩:=Co;injection e2 with e2;injection e2 with _ _ e3 _;exact⟨g,o,c,sz,hU,F8 (by rw[e3];exact h2)⟩) g (by rw[IF];rfl)
 .rw[Yb] at Ez
  obtain⟨h3,h4⟩:=old e NO;exact h.apart Ax i b3 b h3 PR hb ho h4 g' Yi (Hz g' Ez)
 .rw[Yb] at Yi
  exact h.A8 i b hb ho g' (Hz g' Yi)
theorem Rel.fresh (h:Rel P B io w tmps s U F fl) {id:Id} (Zu:U id=none) (Yo:id.1=s.ep) (W3:w'.heap.size=w.heap.size+1) (Ld:∀g,g < w.heap.size->w'.heap[g]?=w.heap[g]?) {b:Be} {o c sz:Nat} {r:List Nat}
  (hr:∀k∈r,k∈fl) (Cz:r.Nodup) (BK:∀k∈fl',k∈fl) (PF:fl'.Nodup) (VV:∀k∈r,k ∉ fl')
  (hn:Xw P w' (AI (s.A6 id b) (Bm U id (some (.Bn w.heap.size o c sz))) w') (Bm U id (some (.Bn w.heap.size o c sz))) (some (.Bn w.heap.size o c sz)) (w.heap.size::r) b):
  Rel P B io w' tmps (s.A6 id b) (Bm U id (some (.Bn w.heap.size o c sz))) (Bm F id (w.heap.size::r)) fl':=by
 refine h.step (nid:=id) rfl rfl (λAx b' e hb=>by rw[X8 e] at hb;exact hb) (EB Zu) (λAx hi=>?_) (λAx e=>Wc e) (λAx e=>Wc e) ⟨λg _ hg=>Ld g hg,λg hg Ya ht=>?_,by omega⟩
  (λAx b' e hb g hg=>Ld g (h.IE (by rw[X8 e] at hb;exact hb) g hg)) (λk hk _=>Ld k (Hq hk h.base)) (λb' hb=>?_) (λb' hb ho=>?_) (λb' hb ho Ax BJ e PM Mn g hg Yi=>?_) (λb' hb ho=>?_) (λg hg=>by have:=h.AS g (BK g hg);omega)
  (λAx b' e hb ho g hg Yi=>h.A8 Ax b' (by rw[X8 e] at hb;exact hb) ho g hg (BK g Yi)) (λb' hb ho g hg Yi=>?_) PF
 .by_cases e:Ax=id
  .subst e;exact .inr Yo
  .rw[Wc e] at hi;exact .inl hi
 .rcases iZ Zu ht with h1|⟨o',c',Cy,h1⟩
  .exact hg h1
  .injection h1 with h1;omega
 .rw[La] at hb
  injection hb with hb;subst hb;rw[Yb,Yb];exact hn
 .rw[Yb]
  refine⟨λg hg=>?_,λ_ g hg=>?_⟩
  .rcases BX.1 hg with rfl|hg
   .omega
   .have:=h.AS g (hr g hg);omega
  .have:w.heap.size=g:=by simpa using hg
   have:=h.base;omega
 .rw[Yb] at Yi
  rw[X8 e] at PM;have:=h.IE PM g hg;rcases BX.1 Yi with rfl|Yi
  .omega
  .exact h.A8 Ax BJ PM Mn g hg (hr g Yi)
 .rw[Yb]
  refine EY.2 ⟨λhm=>?_,Cz⟩;have:=h.AS _ (hr _ hm);omega
 .rw[Yb] at hg
  rcases BX.1 hg with rfl|hg
  .have:=h.AS _ (BK _ Yi);omega
  .exact VV g hg Yi
end
section
variable {P:Program} {B:Nat} {io:Nat->Prop} {w w':World} {tmps:Array Value} {s s':St} {U U':AZ} {F F':Id->List Nat} {fl fl':List Nat}
theorem Rel.grown {r:List Nat} (h:Rel P B io w tmps s U F (r++fl)) {id:Id} (Zu:U id=none) (Yo:id.1=s.ep) (W3:w'.heap.size=w.heap.size+1) (Ld:∀g,g < w.heap.size->w'.heap[g]?=w.heap[g]?)
  {us zs:List Value} {rows:List (List V)} {e:TypeId} {cl:Bool} {c:Nat} (CJ:w'.heap[w.heap.size]?=some (.cells (us++zs).toArray e (0,0))) (hl:rows.length<=c) (hm:c<=maxLen) (hu:∀q∈rows,q.length=P.cellsOf e)
  (Yp:us.length=rows.length*P.cellsOf e) (hz:us.length+zs.length=c*P.cellsOf e) (h1:cl=true->B7 w us rows.flatten r)
  (h2:cl=false->r=[]/\∀(k:Nat) (x:V),rows.flatten[k]?=some x->∃v,us[k]?=some v/\Rd w (AI s U w) v x):
  Rel P B io w' tmps (s.A6 id ⟨false,true,cl,e,rows⟩) (Bm U id (some (.Bn w.heap.size 0 c (P.cellsOf e)))) (Bm F id (w.heap.size::r)) fl:=by
 have Cz:=EX.1 h.AU;refine h.fresh Zu Yo W3 Ld (λk hk=>CH _ hk) Cz.1 (λk hk=>D3 _ hk) Cz.2.1 (λk hk Qg=>Cz.2.2 k hk k Qg rfl) ?_;refine Xw.Cu rfl rfl rfl CJ hl hm hu (by simpa using hz.symm) rfl (λQf=>?_) (λQf=>?_)
 .have:((us++zs).toArray.toList.drop 0).take (rows.length*P.cellsOf e)=us:=by simp[<-Yp]
  show B7 w' (((us++zs).toArray.toList.drop 0).take (rows.length*P.cellsOf e)) rows.flatten r;rw[this];exact (h1 Qf).frame λg hg=>Ld g ((h1 Qf).lt g hg)
 .obtain⟨hr,hc⟩:=h2 Qf
  refine⟨hr,λk x hk=>?_⟩;obtain⟨v,hv,E0⟩:=hc k x hk;refine⟨v,?_,(show Rd w (λg=>(¬AK s U g)/\g < w.heap.size) v x from E0).CE (ok':=λg=>¬AK (s.A6 id ⟨false,true,cl,e,rows⟩) (Bm U id (some (.Bn w.heap.size 0 c (P.cellsOf e)))) g) ⟨λg _ hg=>Ld g hg,λg hg Ya ht=>?_,by omega⟩⟩
  .have Ya:=(Dg.1 hv).1
   simp[EW Ya,hv]
  .rcases iZ Zu ht with h3|⟨o',c',Cy,h3⟩
   .exact hg h3
   .injection h3 with h3;omega
end
theorem B7.lits {w:World} {ok:Nat->Prop}:∀{xs:List V} {us:List Value},us.length=xs.length->(∀(k:Nat) (x:V),xs[k]?=some x->∃v,us[k]?=some v/\Rd w ok v x)->xs.all Mf=true->B7 w us xs []:=by
 intro xs
 induction xs with
 | nil=>intro us hl _ _;rw[GK hl];exact .nil
 | cons x xs ih=>
  intro us hl h ha;cases us with
  | nil=>simp at hl
  | cons u us=>
   simp only[Ef,Bh] at ha;obtain⟨v,hv,hr⟩:=h 0 x rfl;have e:u=v:=by simpa using hv
   subst e;have hO:Ow w u x []:=by
    cases x<;>simp[Mf] at ha;cases hr with|lit hs=>exact .lit hs
   have:=B7.cons hO (ih (us:=us) (by simpa using hl) (λk y hk=>h (k+1) y (by simpa using hk)) ha.2);simpa using this
theorem Xfi {w:World} {ok:Nat->Prop} {a:Addr} {xs:List V} (h:∀(k:Nat) (x:V),xs[k]?=some x->∃v,w.cell? (a.add k)=some v/\Rd w ok v x):
  ∃us:List Value,us.length=xs.length/\(∀(j:Nat) (v:Value),us[j]?=some v->w.cell? (a.add j)=some v)/\∀(k:Nat) (x:V),xs[k]?=some x->∃v,us[k]?=some v/\Rd w ok v x:=by
 refine⟨(List.range xs.length).map λk=>(w.cell? (a.add k)).getD undef,by simp,λj v hj=>?_,λk x hk=>?_⟩
 .simp only[D5,AM] at hj
  obtain⟨j',II,rfl⟩:=hj;obtain⟨Ya,rfl⟩:=Dg.1 II;simp only[vO,vR] at Ya ⊢;obtain⟨v,hv,_⟩:=h j xs[j] (C6 Ya);rw[hv];rfl
 .obtain⟨v,hv,hr⟩:=h k x hk
  have Ya:=(Dg.1 hk).1;exact⟨v,by simp[vM Ya,hv],hr⟩
section
variable {P:Program} {B:Nat} {io:Nat->Prop} {w w':World} {tmps:Array Value} {s s':St} {U U':AZ} {F F':Id->List Nat} {fl fl':List Nat}
structure Cells (w:World) (ok:Nat->Prop) (sz:Nat) (u:Value) (rows:List (List V)) (cl:Bool) (r:List Nat) (us:List Value):Prop where
 val:∃a c,u=.slice (some a) rows.length c/\∀(j:Nat) (v:Value),us[j]?=some v->w.cell? (a.add j)=some v
 len:us.length=rows.length*sz
 own:cl=true->B7 w us rows.flatten r
 see:cl=false->r=[]/\∀(k:Nat) (x:V),rows.flatten[k]?=some x->∃v,us[k]?=some v/\Rd w ok v x
theorem Cells.WD {ok:Nat->Prop} {sz g o c:Nat} {rows:List (List V)} (hs:∀q∈rows,q.length=sz) (h:∀(k:Nat) (x:V),rows.flatten[k]?=some x->∃v,w.cell? ⟨g,o+k,none⟩=some v/\Rd w ok v x):
  ∃us,Cells w ok sz (.slice (some ⟨g,o,none⟩) rows.length c) rows (Fx rows) [] us:=by
 obtain⟨us,h1,h2,h3⟩:=Xfi (w:=w) (ok:=ok) (a:=⟨g,o,none⟩) (xs:=rows.flatten) (λk x hk=>by simpa [HS] using h k x hk);refine⟨us,⟨⟨g,o,none⟩,c,rfl,h2⟩,by rw[h1,HU hs],λhl=>B7.lits h1 h3 ?_,λ_=>⟨rfl,h3⟩⟩;simp only[Fx,Cf] at hl ⊢;intro x hx;obtain⟨q,hq,hx⟩:=iI.1 hx;exact hl q hq x hx
end
section
variable {P:Program} {B:Nat} {io:Nat->Prop} {w w':World} {tmps:Array Value} {s s':St} {U U':AZ} {F F':Id->List Nat} {fl fl':List Nat}
theorem Yz6 (h:Rel P B io w tmps s U F fl) {id:Id} {off len:Nat} {e:TypeId} {rows:List (List V)} {u:Value} {sz:Nat} (hu:En w (AI s U w) U u (.sl id off len)) (hw:s.whole id off len=some (e,rows)) (Je:∀q∈rows,q.length=sz):
  ∃r,Rel P B io w tmps (s.kill id) U F (r++fl)/\((rows=[]/\r=[]/\∃A c,u=.slice A 0 c)\/∃us,Cells w (AI (s.kill id) U w) sz u rows true r us):=by
 obtain⟨fp,hR,hO⟩:=h.whole hu hw;rcases hO with⟨A,rfl,rfl,rfl⟩|⟨g,o,c,cur,BT,rfl,hg,hl,hm,Ca,hz,hO,rfl⟩
 .exact⟨[],hR,.inl ⟨rfl,rfl,A,0,rfl⟩⟩
 .refine⟨BT,hR.less (by rw[Hr];exact Vei _ _),.inr ⟨_,⟨⟨g,o,none⟩,c,rfl,λj v hj=>?_⟩,by rw[hO.length,HU Je],λ_=>hO,λhc=>by cases hc⟩⟩
  rw[Dr] at hj;split at hj
  .rw[D4] at hj
   simp only[HS,World.cell?,hg];simpa using hj
  .cases hj
theorem wX (h:Rel P B io w tmps s U F fl) {x:V} {rows:List (List V)} {u:Value} {sz:Nat} (hu:En w (AI s U w) U u x) (hr:s.rowsOf x=some rows) (Je:∀q∈rows,q.length=sz):
  (rows=[]/\∃A c,u=.slice A 0 c)\/∃us,Cells w (AI s U w) sz u rows (Fx rows) [] us:=by
 have tree:∀{rows:List (List V)} {u:Value},(∀q∈rows,q.length=sz)->Rd w (AI s U w) u (.tr rows)->(rows=[]/\∃A c,u=.slice A 0 c)\/∃us,Cells w (AI s U w) sz u rows (Fx rows) [] us:=by
  intro rows u Je hR;cases hR with
  | emp=>exact .inl ⟨rfl,_,_,rfl⟩
  | @tr g o n c Cy _ uf hn hc hm hs hg Cn Cl=>
   subst hn;exact .inr (Cells.WD Je λk x hk=>⟨uf k,Cn k x hk,Cl k x hk⟩)
 unfold St.rowsOf at hr;split at hr
 .rename_i id off len
  obtain⟨b,hb,hr⟩:=AA.1 hr;split at hr
  .rename_i hc
   obtain⟨Xp,Yp⟩:=hc;simp only[AF] at hr;subst hr;cases hu with
   | sle hi=>exact .inl ⟨by simp,_,_,rfl⟩
   | @sl _ g o c Cy _ _ hU hc=>
    by_cases Yj:(b.rows.drop off).take len=[]
    .have PJ:len=0:=by
      have:=congrArg List.length Yj;simp at this;omega
     subst PJ;exact .inl ⟨Yj,_,_,rfl⟩
    .have PI:((b.rows.drop off).take len).length=len:=by simp;omega
     have hB:=h.heap id b hb;rw[hU] at hB;have Ca:∀r∈b.rows,r.length=Cy:=by
      unfold Xw at hB;rw[Xp] at hB;generalize Yz:b.own=ow at hB;cases ow with
      | true=>
       rcases hB with⟨Y7,_⟩|⟨g',o',c',cur,Y7,hg,hl,hm,Ca,_⟩
       .cases Y7
       .cases Y7;exact Ca
      | false=>
       obtain⟨_,hB⟩:=hB;rcases hB with⟨Y7,_⟩|⟨g',o',c',wH,Y7,Ca,_⟩
       .cases Y7
       .cases Y7;exact Ca
     have PH:∀r∈(b.rows.drop off).take len,r.length=Cy:=λr hr=>Ca r (Gp (Gq hr));have:=Cells.WD (w:=w) (ok:=AI s U w) (g:=g) (o:=o+off*Cy) (c:=c - off) Je λk x hk=>by
      obtain⟨i,j,row,hi,hj,rfl⟩:=wQ PH hk;rw[Dr] at hi;split at hi
      .rw[D4] at hi
       obtain⟨u,h1,_,h2⟩:=h.cell hb hU hi hj;refine⟨u,?_,h2 Xp⟩;rw[show o+off*Cy+(i*Cy+j)=o+(off+i)*Cy+j by rw[Nat.add_mul];omega];exact h1
      .cases hi
     rw[PI] at this;exact .inr this
  .cases hr
 .simp only[AF] at hr;subst hr;cases hu with|tr h=>exact tree Je h
 .simp only[AF] at hr;subst hr;cases hu with|vw h=>exact tree Je h
 .simp only[AF] at hr;subst hr;cases hu;exact .inl ⟨rfl,_,_,rfl⟩
 .cases hr
theorem Xc6 {all:Bool} (h:Rel P B io w tmps s U F fl) {x:V} {rows:List (List V)} {cl:Bool} {s1:St} {u:Value} {sz:Nat} (hu:En w (AI s U w) U u x) (hm:s.Ct all x=some (rows,cl,s1)) (Je:∀q∈rows,q.length=sz):
  ∃r,Rel P B io w tmps s1 U F (r++fl)/\((rows=[]/\r=[]/\∃A c,u=.slice A 0 c)\/∃us,Cells w (AI s1 U w) sz u rows cl r us)/\(s1=s\/∃id,s1=s.kill id):=by
 have seen:∀{Bu:List (List V)},s.rowsOf x=some Bu->(Bu,Fx Bu,s)=(rows,cl,s1)->∃r,Rel P B io w tmps s1 U F (r++fl)/\((rows=[]/\r=[]/\∃A c,u=.slice A 0 c)\/∃us,Cells w (AI s1 U w) sz u rows cl r us)/\(s1=s\/∃id,s1=s.kill id):=by
  intro Bu hr he;simp only[A7] at he;obtain⟨rfl,rfl,rfl⟩:=he;refine⟨[],h,?_,.inl rfl⟩;rcases wX h hu hr Je with⟨h1,h2⟩|h1
  .exact .inl ⟨h1,rfl,h2⟩
  .exact .inr h1
 unfold St.Ct at hm;split at hm
 .rename_i id off len
  split at hm
  .rename_i er hw
   split at hw
   .simp only[AF,A7] at hm
    obtain⟨rfl,rfl,rfl⟩:=hm;obtain⟨r,h1,h2⟩:=Yz6 h hu (e:=er.1) (rows:=er.2) hw Je;exact⟨r,h1,h2,.inr ⟨id,rfl⟩⟩
   .cases hw
  .obtain⟨Bu,hr,he⟩:=AM.1 hm
   exact seen hr he
 .obtain⟨Bu,hr,he⟩:=AM.1 hm
  exact seen hr he
end
section
variable {P:Program} {w:World}
theorem wY (t ty e:TypeId) (i:TypeInfo) (ht:P.underlying t=some (.slice e)) (hi:P.info? e=some i) (base A:Option Addr) (n c c2:Nat) (hn:n<=c):
  (Builtin.append_ #[t,t] ty #[.slice base n c,.slice A 0 c2]).run P w=.ok (.slice base n c) w:=by
 have hf:(Builtin.firstCells i.size 0 (.slice A 0 c2)).run P w=.ok #[] w:=by
  cases A<;>simp[Builtin.firstCells,loadCells,loadCellsFrom]
 cases base<;>simp[Builtin.append_,run_underlying ht,Go.sizeOf,typeInfo,hi,Builtin.lenOf,hn,hf,storeCells]
theorem Y0w (t ty e:TypeId) (i:TypeInfo) (ht:P.underlying t=some (.slice e)) (hi:P.info? e=some i)
  (g o Gx PV:Nat) (cur:Array Value) (hg:w.heap[g]?=some (.cells cur e (0,0)))
  (a:Addr) (m c:Nat) (news:List Value) (hl:news.length=m*i.size) (Lc:∀j u,news[j]?=some u->w.cell? (a.add j)=some u) (h1:∀u∈news,u.oneCell'=true)
  (wZ:Gx+m<=PV) (NP:o+Gx*i.size+news.length<=cur.size):
  (Builtin.append_ #[t,t] ty #[.slice (some ⟨g,o,none⟩) Gx PV,.slice (some a) m c]).run P w=
   .ok (.slice (some ⟨g,o,none⟩) (Gx+m) PV) (w.setRow g (cur.toList.take (o+Gx*i.size)++news++cur.toList.drop (o+Gx*i.size+news.length)).toArray):=by
 have hf:=run_firstCells_some (P:=P) w i.size m a m c news hl Lc;have F9:=run_storeCells_at P g (o+Gx*i.size) e news 0 cur w hg (by simpa using NP) h1;simp only[Fv] at F9;simp[Builtin.append_,run_underlying ht,Go.sizeOf,typeInfo,hi,Builtin.lenOf,wZ,hf,HS,F9]
end
section
variable {P:Program} {B:Nat} {io:Nat->Prop} {w w':World} {tmps:Array Value} {s s':St} {U U':AZ} {F F':Id->List Nat} {fl fl':List Nat}
theorem Rel.Mr {r:List Nat} (h:Rel P B io w tmps s U F (r++fl)) {id:Id} (Zu:U id=none) (Yo:id.1=s.ep) {us:List Value} {rows:List (List V)} {e:TypeId} {cl:Bool} {c:Nat} {z:Value} (hz:z.cells.size=P.cellsOf e) (hl:rows.length<=c) (hm:c<=maxLen) (hu:∀q∈rows,q.length=P.cellsOf e)
  (Yp:us.length=rows.length*P.cellsOf e) (h1:cl=true->B7 w us rows.flatten r) (h2:cl=false->r=[]/\∀(k:Nat) (x:V),rows.flatten[k]?=some x->∃v,us[k]?=some v/\Rd w (AI s U w) v x):
  Rel P B io (w.drew.alloc (.cells (us.toArray++Builtin.zeroCells z.cells (c - rows.length)) e)) tmps (s.A6 id ⟨false,true,cl,e,rows⟩) (Bm U id (some (.Bn w.heap.size 0 c (P.cellsOf e)))) (Bm F id (w.heap.size::r)) fl:=by
 refine h.grown Zu Yo (us:=us) (zs:=(Builtin.zeroCells z.cells (c - rows.length)).toList) (T3 w.drew _) (λg hg=>Below.heap_alloc w.drew _ g hg) ?_ hl hm hu Yp ?_ h1 h2
 .have:=iY w.drew (.cells (us.toArray++Builtin.zeroCells z.cells (c - rows.length)) e)
  rw[show (us++(Builtin.zeroCells z.cells (c - rows.length)).toList).toArray=us.toArray++Builtin.zeroCells z.cells (c - rows.length) by apply VF;simp];exact this
 .show us.length+(Builtin.zeroCells z.cells (c - rows.length)).toList.length=_
  rw[Array.length_toList (xs:=Builtin.zeroCells z.cells (c - rows.length)),size_zeroCells,hz,Yp,<-Nat.add_mul]
  congr 1
  omega
end
section
variable {P:Program} {B:Nat} {io:Nat->Prop} {w w':World} {a:Act} {tmps:Array Value} {s s' s1:St} {U U':AZ} {F F':Id->List Nat} {fl fl':List Nat} {k:Nat} {o:Oper} {v:V}
theorem Xcl {id:Id} {b:Be} (Zu:U id=none) {g:Nat} (h:AK (s.A6 id b) (Bm U id (some .emp)) g):AK s U g:=by
 obtain⟨Ax,b',o,c,sz,hb,ho,hU⟩:=h;by_cases e:Ax=id
 .subst e;rw[Yb] at hU;cases hU
 .rw[X8 e] at hb;rw[Wc e] at hU;exact⟨Ax,b',o,c,sz,hb,ho,hU⟩
theorem Rel.IJ (h:Rel P B io w tmps s U F fl) {id:Id} (Zu:U id=none) (Yo:id.1=s.ep) {b:Be} (Xp:b.box=false) (Yz:b.own=true) (hr:b.rows=[]):
  Rel P B io w tmps (s.A6 id b) (Bm U id (some .emp)) (Bm F id []) fl:=by
 refine h.step (nid:=id) rfl rfl (λAx b' e hb=>by rw[X8 e] at hb;exact hb) (EB Zu) (λAx hi=>?_) (λAx e=>Wc e) (λAx e=>Wc e) (.same λg=>Xcl Zu)
  (λ_ _ _ _ _ _=>rfl) (λ_ _ _=>rfl) (λb' hb=>?_) (λb' hb ho=>?_) (λb' hb ho Ax BJ e PM Mn g hg Yi=>?_) (λb' hb ho=>?_) h.AS
  (λAx b' e hb ho g hg=>h.A8 Ax b' (by rw[X8 e] at hb;exact hb) ho g hg) (λb' hb ho g hg Yi=>?_) h.AU
 .by_cases e:Ax=id
  .subst e;exact .inr Yo
  .rw[Wc e] at hi;exact .inl hi
 .rw[La] at hb
  injection hb with hb;subst hb;rw[Yb,Yb];exact .IA Xp Yz rfl hr rfl
 .rw[Yb];exact⟨λg hg=>by simp at hg,λ_ g hg=>by simp at hg⟩
 .rw[Yb] at Yi;simp at Yi
 .rw[Yb];simp
 .rw[Yb] at hg;simp at hg
theorem T7 {id:Id} {i:GP} {e k:Nat} (Yo:id.1=e) (hk:id.2 / 1024=k):∀Ax,(Bm U id (some i) Ax).isSome=true->(U Ax).isSome=true\/(Ax.1=e/\Ax.2 / 1024=k):=λAx hi=>by
 by_cases h:Ax=id
 .subst h;exact .inr ⟨Yo,hk⟩
 .rw[Wc h] at hi;exact .inl hi
theorem Ms {t:TypeId} {bo xo:Operand} {u:Value} (ho:o.op=.call {callee:=.builtin .append,args:=#[bo,xo],argTypes:=#[t,t]})
  (hr:(Builtin.append_ #[t,t] o.type #[a.eval bo,a.eval xo]).run P w=.ok u w'):(execOp a.eval o).run P w=.ok (.value u) w':=by
 simp[execOp,ho,resolve,invoke,builtin,hr]
theorem C3.drew {w0:World} (h:C3 B io w0 w):C3 B io w0 w.drew:=⟨h.os,h.tape,h.output,h.size,h.block⟩
theorem WE {r:List Nat} (h:Rel P B io w a.tmps s1 U F (r++fl)) (CW:s1.env=s.env) (Eg:s1.ep=s.ep) {id:Id} (Zu:U id=none) (Yo:id.1=s.ep) (hk:id.2 / 1024=k) {us:List Value} {rows:List (List V)} {e:TypeId} {cl:Bool} {Gy old:Nat} {z:Value}
  (hz:z.cells.size=P.cellsOf e) (hn:rows.length=Gy) (hm:Gy<=maxLen) (hu:∀q∈rows,q.length=P.cellsOf e)
  (Yp:us.length=rows.length*P.cellsOf e) (h1:cl=true->B7 w us rows.flatten r) (h2:cl=false->r=[]/\∀(k:Nat) (x:V),rows.flatten[k]?=some x->∃v,us[k]?=some v/\Rd w (AI s1 U w) v x):
  Cj P B io w a.tmps s U fl k (.sl id 0 Gy) (s1.A6 id ⟨false,true,cl,e,rows⟩) (.slice (some ⟨w.heap.size,0,none⟩) Gy (grownCap w Gy old e)) (w.drew.alloc (.cells (us.toArray++Builtin.zeroCells z.cells (grownCap w Gy old e - Gy)) e)):=by
 subst hn;have NV:=grownCap_ge w rows.length old e;have hR:=h.Mr (fl:=fl) Zu (by rw[Eg];exact Yo) (z:=z) (cl:=cl) hz NV (grownCap_le_maxLen w _ old e hm) hu Yp h1 h2;refine⟨CW,Eg,((C3.refl B io w).drew).alloc h.base _,_,_,hR,?_,EB Zu,T7 Yo hk⟩;have:=En.sl (w:=w.drew.alloc (.cells (us.toArray++Builtin.zeroCells z.cells (grownCap w rows.length old e - rows.length)) e)) (ok:=AI (s1.A6 id ⟨false,true,cl,e,rows⟩) (Bm U id (some (.Bn w.heap.size 0 (grownCap w rows.length old e) (P.cellsOf e)))) (w.drew.alloc (.cells (us.toArray++Builtin.zeroCells z.cells (grownCap w rows.length old e - rows.length)) e)))
  (off:=0) (len:=rows.length) (Yb U id (some (.Bn w.heap.size 0 (grownCap w rows.length old e) (P.cellsOf e)))) (by omega)
 simpa using this
end
section
variable {P:Program} {B:Nat} {io:Nat->Prop} {w w':World} {a:Act} {tmps:Array Value} {s s' s1:St} {U U':AZ} {F F':Id->List Nat} {fl fl':List Nat} {k:Nat} {o:Oper} {v:V}
theorem Yz9 {n:Nat} {rows:List (List V)} (h:Hv n rows=true):∀q∈rows,q.length=n:=λq hq=>by
 have:=Cf.1 h q hq;simpa using this
theorem Rel.over {r:List Nat} (h:Rel P B io w tmps s U F (r++fl)) {i id:Id} {b b':Be} {g o c sz o' c' Cy:Nat} {f':List Nat} {new:Array Value} (Zu:U id=none) (Yo:id.1=s.ep) (hb:s.heap i=some b) (ho:b.own=true) (hU:U i=some (.Bn g o c sz))
  (hF:∃q,F i=g::q) (Hz:∀k∈f',k∈F i\/k∈r) (Cz:(g::f').Nodup) (F8:0 < c)
  (hn:Xw P (w.setRow g new) (AI ((s.kill i).A6 id b') (Bm U id (some (.Bn g o' c' Cy))) (w.setRow g new)) (Bm U id (some (.Bn g o' c' Cy))) (some (.Bn g o' c' Cy)) (g::f') b'):
  Rel P B io (w.setRow g new) tmps ((s.kill i).A6 id b') (Bm U id (some (.Bn g o' c' Cy))) (Bm F id (g::f')) fl/\C3 B io w (w.setRow g new):=by
 have Yj:i≠id:=by rintro rfl;rw[Zu] at hU;cases hU
 have old:∀{Ax:Id} {BJ:Be},Ax≠id->((s.kill i).A6 id b').heap Ax=some BJ->s.heap Ax=some BJ/\Ax≠i:=λ{Ax BJ} e Y1=>by
  rw[X8 e] at Y1;refine⟨IC Y1,?_⟩;rintro rfl;rw[Ke] at Y1;cases Y1
 obtain⟨q,IF⟩:=hF;have NN:g∈F i:=by rw[IF];exact BI
 have Wf:AK s U g:=⟨i,b,o,c,sz,hb,ho,hU⟩;have Mp:(w.setRow g new).heap.size=w.heap.size:=by simp[World.setRow]
 have Mt:∀k∈g::f',k∈F i\/k∈r:=λk hk=>by
  rcases BX.1 hk with rfl|hk
  .exact .inl NN
  .exact Hz k hk
 have WG:=EX.1 h.AU;refine⟨h.step (nid:=id) rfl rfl (λAx BJ e Y1=>(old e Y1).1) (EB Zu) (λAx hi=>?_) (λAx e=>Wc e) (λAx e=>Wc e)
  ⟨λg' Yi _=>setRow_other w g g' _ (λe=>Yi (e▸Wf)),λg' Yi _ ht=>Yi (jD Zu hb ho hU g' ht),by rw[Mp];exact B2 _⟩ (λAx BJ e Y1 g' Yi=>setRow_other w g g' _ (λe'=>?_))
  (λk hk Hw=>setRow_other w g k _ (λe=>by
   subst e;rcases h.top i b hb ho ⟨k,o,c,sz,hU,F8⟩ k (by rw[IF];rfl) with h1|h1
   .exact Hw h1
   .omega))
  (λBJ Y1=>?_) (λBJ Y1 BS=>?_) (λBJ Y1 BS Ax b3 e NO PR g' Yi Ez=>?_) (λBJ Y1 BS=>by rw[Yb];exact Cz) (λg' Yi=>by rw[Mp];exact h.AS g' (D3 _ Yi))
  (λAx BJ e Y1 BS g' Yi Ez=>h.A8 Ax BJ (old e Y1).1 BS g' Yi (D3 _ Ez)) (λBJ Y1 BS g' Yi Ez=>?_) WG.2.1,⟨rfl,rfl,rfl,by rw[Mp];exact B2 _,λg' Yi Hw=>setRow_other w g g' _ (λe=>?_)⟩⟩
 .by_cases e:Ax=id
  .subst e;exact .inr Yo
  .rw[Wc e] at hi;exact .inl hi
 .subst e'
  obtain⟨h1,h2⟩:=old e Y1;cases Yz:BJ.own with
  | true=>exact h.apart Ax i BJ b h1 Yz hb ho h2 g' Yi NN
  | false=>
   have hB:=h.heap Ax BJ h1;unfold Xw at hB;rw[Yz] at hB;split at hB
   .cases hB.1
   .rename_i h2;cases h2
   .rw[hB.1] at Yi;cases Yi
 .rw[La] at Y1
  injection Y1 with Y1;subst Y1;rw[Yb,Yb];exact hn
 .rw[Yb]
  refine⟨λg' Yi=>?_,λ_ g' Yi=>?_⟩
  .rw[Mp]
   rcases Mt g' Yi with h1|h1
   .exact h.CR i b hb ho g' h1
   .exact h.AS g' (CH _ h1)
  .have e1:g=g':=by simpa using Yi
   subst e1;exact h.top i b hb ho ⟨g,o,c,sz,hU,F8⟩ g (by rw[IF];rfl)
 .rw[Yb] at Ez
  obtain⟨h3,h4⟩:=old e NO;rcases Mt g' Ez with h1|h1
  .exact h.apart Ax i b3 b h3 PR hb ho h4 g' Yi h1
  .exact h.A8 Ax b3 h3 PR g' Yi (CH _ h1)
 .rw[Yb] at Yi
  rcases Mt g' Yi with h1|h1
  .exact h.A8 i b hb ho g' h1 (D3 _ Ez)
  .exact WG.2.2 g' h1 g' Ez rfl
 .subst e
  rcases h.top i b hb ho ⟨g',o,c,sz,hU,F8⟩ g' (by rw[IF];rfl) with h1|h1
  .exact Hw h1
  .omega
theorem Y9i {all:Bool} (h:Rel P B io w a.tmps s U F fl) {t:TypeId} {bo xo:Operand} (ho:o.op=.call {callee:=.builtin .append,args:=#[bo,xo],argTypes:=#[t,t]}) {id:Id}
  (he:NF P all s id t (s.AQ bo) (s.AQ xo)=some (v,s')) (Zu:U id=none) (Yo:id.1=s.ep) (hk:id.2 / 1024=k):
  Ci P o a w (Cj P B io w a.tmps s U fl k v s'):=by
 unfold NF at he;obtain⟨e,Q6,he⟩:=AA.1 he;obtain⟨⟨rows,cl,s1⟩,hm,he⟩:=AA.1 he;have ht:=Mj Q6;split at he
 case isFalse=>cases he
 rename_i hc;obtain⟨Je,W3,Mu⟩:=hc;simp only[Z5] at Je W3;have Ca:=Yz9 Je;simp only at Ca he;obtain⟨i,hi,z,hz,DC⟩:∃i,P.info? e=some i/\∃z,i.zero=some z/\z.cells.size=P.cellsOf e:=by
  unfold Mg at Mu;split at Mu
  .rename_i z hz
   obtain⟨i,hi,hz⟩:=AA.1 hz;exact⟨i,hi,z,hz,by simpa using Mu⟩
  .cases Mu
 have NW:i.size=P.cellsOf e:=by simp[Program.cellsOf,hi]
 have jE:i.bytes=P.bytesOf e:=by simp[Program.bytesOf,hi]
 have T8:0 < P.cellsOf e:=vP W3;obtain⟨r,hR,WH,Ch⟩:=Xc6 h (h.AQ xo) hm Ca;have CW:s1.env=s.env:=by rcases Ch with rfl|⟨_,rfl⟩<;>rfl
 have Eg:s1.ep=s.ep:=by rcases Ch with rfl|⟨_,rfl⟩<;>rfl
 have hsubh:∀id b,s1.heap id=some b->s.heap id=some b:=by rcases Ch with rfl|⟨_,rfl⟩;exactλ_ _ h=>h;exactλ_ _ h=>IC h
 have one:∀{us:List Value},Cells w (AI s1 U w) (P.cellsOf e) (a.eval xo) rows cl r us->∀u∈us,u.oneCell'=true:=by
  intro us hC u hu;cases Qf:cl with
  | true=>exact (hC.own Qf).one u hu
  | false=>
   obtain⟨j,hj⟩:=HN hu;have Ya:j < rows.flatten.length:=by have:=hC.len;rw[HU Ca,<-hC.len];exact (Dg.1 hj).1
   obtain⟨v',jF,Cl⟩:=(hC.see Qf).2 j _ (C6 Ya);rw[hj] at jF;injection jF with jF;subst jF;exact Cl.one
 have w7:(rows=[]/\∃A c,a.eval xo=.slice A 0 c)\/(rows≠[]/\∃us,Cells w (AI s1 U w) (P.cellsOf e) (a.eval xo) rows cl r us):=by
  rcases WH with⟨h1,_,h2⟩|⟨us,hC⟩
  .exact .inl ⟨h1,h2⟩
  .by_cases hn:rows=[]
   .obtain⟨ad,c,hv,_⟩:=hC.val
    exact .inl ⟨hn,some ad,c,by rw[hv,hn];rfl⟩
   .exact .inr ⟨hn,us,hC⟩
 have PW:=h.AQ bo;split at he
 .rename_i xA
  split at he
  case isFalse=>cases he
  rename_i Gz;simp only[AF,A7] at he;obtain⟨rfl,rfl⟩:=he;rw[xA] at PW;generalize hq:a.eval bo=q at PW;cases PW;rcases w7 with⟨rfl,A,c,hx⟩|⟨Yj,us,hC⟩
  .have X2:=wY (P:=P) (w:=w) t o.type e i ht hi none A 0 0 c (B2 _)
   rw[<-hq,<-hx] at X2;refine .value (Ms ho X2) ⟨CW,Eg,C3.refl _ _ _,_,_,(hR.less (Ix _ _)).IJ Zu (Yo.trans Eg.symm) rfl rfl rfl,?_,EB Zu,T7 Yo hk⟩;rw[hq];exact .sle (by rw[Yb];rfl)
  .obtain⟨ad,c,hv,F5⟩:=hC.val
   have jG:0 < rows.length:=Cq.2 Yj;have X2:=run_append_nil (P:=P) (w:=w) t o.type e i z ht hi hz ad rows.length c us (by rw[hC.len,NW]) F5 jG (by omega) (by rw[jE];omega);rw[<-hq,<-hv] at X2;exact .value (Ms ho X2) (WE hR CW Eg Zu Yo hk DC rfl (by unfold maxLen;omega) Ca hC.len hC.own hC.see)
 .rename_i ib off len xA
  obtain⟨kb,GU,he⟩:=AA.1 he;split at he
  case isFalse=>cases he
  rename_i Gz;obtain⟨Xp,Yz,hol,PX,PY,h63⟩:=Gz;simp only[AF,A7] at he;obtain⟨rfl,rfl⟩:=he;have hB:=hR.heap ib kb GU;rw[xA] at PW;generalize hq:a.eval bo=q at PW;have hidb:ib≠id:=by
   rintro rfl;cases PW with
   | sl hU=>rw[Zu] at hU;cases hU
   | sle hU=>rw[Zu] at hU;cases hU
  cases PW with
  | @sle _ A _ hU=>
   have hd:kb.rows.drop off=[]:=by apply Fu;omega
   rcases w7 with⟨rfl,A',c,hx⟩|⟨Yj,us,hC⟩
   .have X2:=wY (P:=P) (w:=w) t o.type e i ht hi A A' 0 0 c (B2 _)
    rw[<-hq,<-hx] at X2;refine .value (Ms ho X2) ⟨CW,Eg,C3.refl _ _ _,_,_,((hR.less (Ix _ _)).kill ib).IJ (b:=⟨false,true,kb.cl&&cl,e,kb.rows.drop off++[]⟩) Zu (Yo.trans Eg.symm) rfl rfl (by rw[hd];rfl),?_,EB Zu,T7 Yo hk⟩;rw[hq];exact .sle (by rw[Yb];rfl)
   .obtain⟨ad,c,hv,F5⟩:=hC.val
    have jG:0 < rows.length:=Cq.2 Yj;have xB:rows.length*P.bytesOf e<=140737488355328:=by simpa using PY
    have X2:(Builtin.append_ #[t,t] o.type #[a.eval bo,a.eval xo]).run P w=.ok (.slice (some ⟨w.heap.size,0,none⟩) rows.length (grownCap w rows.length 0 e)) (w.drew.alloc (.cells (us.toArray++Builtin.zeroCells z.cells (grownCap w rows.length 0 e - rows.length)) e)):=by
     rw[hq,hv];cases A with
     | none=>exact run_append_nil (P:=P) (w:=w) t o.type e i z ht hi hz ad rows.length c us (by rw[hC.len,NW]) F5 jG (by omega) (by rw[jE];omega)
     | some b=>
      have:=run_append_grow (P:=P) (w:=w) t o.type e i z ht hi hz b 0 0 [] (by simp) (by simp) ad rows.length c us (by rw[hC.len,NW]) F5 (by omega) (by omega) (growslice_fits (by omega) (by rw[jE,P6];exact xB));simpa using this
    have hcl':(kb.cl&&cl)=true->B7 w us rows.flatten r:=λhc=>hC.own (by simp at hc;exact hc.2);rw[hd,LZ];have hkr:kb.rows.length=off:=by omega
    cases Co:(kb.cl&&cl) with
    | true=>
     refine .value (Ms ho X2) ?_;have:=WE (s:=s) (k:=k) (s1:=s1.kill ib) (old:=0) (hR.kill ib) CW Eg Zu Yo hk DC rfl (by unfold maxLen;omega) Ca hC.len (cl:=true) (λ_=>hC.own (by simp at Co;exact Co.2)) (λh=>by cases h);simpa using this
    | false=>
     refine .value (Ms ho X2) ?_;have see:∀(k:Nat) (x:V),rows.flatten[k]?=some x->∃v,us[k]?=some v/\Rd w (AI (s1.kill ib) U w) v x:=by
      intro j x hx;cases Qf:cl with
      | true=>
       obtain⟨v,hv,hr⟩:=(hC.own Qf).rd (ok:=AI s1 U w) (λg hg=>hR.ID (CH _ hg)) hx;exact⟨v,hv,hr.mono (λ_ _ _=>rfl) (λg hg=>VT hg)⟩
      | false=>
       obtain⟨v,hv,hr⟩:=(hC.see Qf).2 j x hx;exact⟨v,hv,hr.mono (λ_ _ _=>rfl) (λg hg=>VT hg)⟩
     have:=WE (s:=s) (k:=k) (s1:=s1.kill ib) (old:=0) (r:=[]) (fl:=fl) ((hR.less (Ix _ _)).kill ib) CW Eg Zu Yo hk DC rfl (by unfold maxLen;omega) Ca hC.len (cl:=false) (λh=>by cases h) (λ_=>⟨rfl,see⟩);simpa using this
  | @sl _ g o0 c0 sz _ _ hU hoc=>
   rw[hU] at hB;have hB':=hB;unfold Xw at hB;rw[Xp,Yz] at hB;rcases hB with⟨Y7,_⟩|⟨g',o',c',cur,Y7,hg,hl,WI,jH,WJ,fp,CZ,h1,h2⟩
   .cases Y7
   .cases Y7
    subst PX;have T6:g ∉ r++fl:=hR.A8 ib kb GU Yz g (by rw[CZ];exact BI);have T9:∀q∈kb.rows.drop off,q.length=P.cellsOf kb.el:=λq hq=>jH q (Gp hq);have IK:(kb.rows.drop off).length=len:=by simp;omega
    have hoc':off*P.cellsOf kb.el+(c0 - off)*P.cellsOf kb.el=c0*P.cellsOf kb.el:=by rw[<-Nat.add_mul];congr 1;omega
    have hlc:kb.rows.length*P.cellsOf kb.el<=c0*P.cellsOf kb.el:=N8 _ hl;have hll:off*P.cellsOf kb.el+len*P.cellsOf kb.el=kb.rows.length*P.cellsOf kb.el:=by rw[<-Nat.add_mul,hol]
    let C0:=(cur.toList.drop (o0+off*P.cellsOf kb.el)).take (len*P.cellsOf kb.el)
    have Xf4:C0=(cur.toList.drop (o0+off*P.cellsOf kb.el)).take (len*P.cellsOf kb.el):=rfl;have jI:C0.length=len*P.cellsOf kb.el:=by simp[C0];omega
    have WK:((cur.toList.drop o0).take (kb.rows.length*P.cellsOf kb.el)).drop (off*P.cellsOf kb.el)=C0:=by
     rw[List.drop_take,List.drop_drop];simp only[C0];congr 1;omega
    have xC:∀(j:Nat) (v:Value),C0[j]?=some v->cur[o0+off*P.cellsOf kb.el+j]?=some v:=by
     intro j v hj;simp only[C0] at hj;rw[Dr] at hj;split at hj
     .simpa using hj
     .cases hj
    have Xfr:∀(j:Nat) (v:Value),C0[j]?=some v->w.cell? ((⟨g,o0+off*P.cellsOf kb.el,none⟩:Addr).add j)=some v:=by
     intro j v hj;rw[HS,cell_of_row w g _ cur kb.el (0,0) hg];exact xC j v hj
    have jJ:kb.cl=true->∃f1,B7 w C0 (kb.rows.drop off).flatten f1/\f1.Sublist fp:=λhc=>by
     obtain⟨f1,hO,hs⟩:=(h1 hc).drop (off*P.cellsOf kb.el);rw[WK,VS off jH] at hO;exact⟨f1,hO,hs⟩
    have xD:∀(j:Nat) (x:V),(kb.rows.drop off).flatten[j]?=some x->∃v,C0[j]?=some v/\Rd w (AI s1 U w) v x:=by
     intro j x hj;cases xE:kb.cl with
     | true=>
      obtain⟨f1,hO,hs⟩:=jJ xE;refine hO.rd (λg'' Ez=>hR.GR GU Yz hU (by rw[CZ];exact Cg _ (hs.subset Ez)) (λg3 _ _ _ e=>by
       cases e;rintro rfl;have:=hR.once ib kb GU Yz;rw[CZ] at this;exact (EY.1 this).1 (hs.subset Ez))) hj
     | false=>
      rw[<-VS off jH,D4] at hj;obtain⟨v,hv,hr⟩:=(h2 xE).2 _ x hj;refine⟨v,?_,hr⟩;have Ya:=(Dg.1 hj).1;rw[HU jH] at Ya;simp only[C0];rw[Dr,Ah (by omega),D4];simpa [Nat.add_assoc] using hv
    have WL:∀{us:List Value},Cells w (AI s1 U w) (P.cellsOf kb.el) (a.eval xo) rows cl r us->∀(j:Nat) (x:V),rows.flatten[j]?=some x->∃v,us[j]?=some v/\Rd w (AI s1 U w) v x:=by
     intro us hC j x hx;cases Qf:cl with
     | true=>exact (hC.own Qf).rd (λg hg=>hR.ID (CH _ hg)) hx
     | false=>exact (hC.see Qf).2 j x hx
    have WM:=hR.once ib kb GU Yz;rw[CZ] at WM;rcases w7 with⟨rfl,A',c,hx⟩|⟨Yj,us,hC⟩
    .have X2:=wY (P:=P) (w:=w) t o.type kb.el i ht hi (some ⟨g,o0+off*P.cellsOf kb.el,none⟩) A' len (c0 - off) c (by omega)
     rw[<-hq,<-hx] at X2;have hR':=hR.less (Ix r fl);have hc00:(([]:List (List V))).length=0:=rfl;have PZ:∃WN,Rel P B io w a.tmps ((s1.kill ib).A6 id ⟨false,true,kb.cl&&cl,kb.el,kb.rows.drop off++[]⟩) (Bm U id (some (.Bn g (o0+off*P.cellsOf kb.el) (c0 - off) (P.cellsOf kb.el)))) WN fl:=by
      have VY:∀g',AI s1 U w g'->AI ((s1.kill ib).A6 id ⟨false,true,kb.cl&&cl,kb.el,kb.rows.drop off++[]⟩) (Bm U id (some (.Bn g (o0+off*P.cellsOf kb.el) (c0 - off) (P.cellsOf kb.el)))) w g':=λg' Yi=>⟨λht=>Yi.1 (jD Zu GU Yz hU g' ht),Yi.2⟩;cases Co:(kb.cl&&cl) with
      | true=>
       obtain⟨f1,hO,hs⟩:=jJ (by simp at Co;exact Co.1);refine⟨_,hR'.move (b':=⟨false,true,true,kb.el,kb.rows.drop off++[]⟩) (Fs:=g::f1) Zu (by rw[Eg];exact Yo) GU Yz hU ⟨fp,CZ⟩ ⟨f1,rfl⟩ (λk' Qg=>?_) (EY.2 ⟨λhm=>(EY.1 WM).1 (hs.subset hm),(EY.1 WM).2.sublist hs⟩) (λ_=>by omega) (.Cu rfl rfl rfl hg (by simp;omega) (by omega) (by rw[FZ];exact T9) (by show o0+off*P.cellsOf kb.el+(c0 - off)*P.cellsOf kb.el=cur.size;omega) rfl (λ_=>?_) (λhf=>by cases hf))⟩
       .rw[CZ]
        rcases BX.1 Qg with rfl|Qg
        .exact BI
        .exact Cg _ (hs.subset Qg)
       .simp only[FZ,IK];exact hO
      | false=>
       refine⟨_,hR'.move (b':=⟨false,true,false,kb.el,kb.rows.drop off++[]⟩) (Fs:=[g]) Zu (by rw[Eg];exact Yo) GU Yz hU ⟨fp,CZ⟩ ⟨[],rfl⟩ (λk' Qg=>by rw[CZ,List.mem_singleton.1 Qg];exact BI) (by simp) (λ_=>by omega) (.Cu rfl rfl rfl hg (by simp;omega) (by omega) (by rw[FZ];exact T9) (by show o0+off*P.cellsOf kb.el+(c0 - off)*P.cellsOf kb.el=cur.size;omega) rfl (λhf=>by cases hf) (λ_=>⟨rfl,λj x hj=>?_⟩))⟩;simp only[FZ] at hj;obtain⟨v,hv,hr⟩:=xD j x hj;rw[Co] at VY;exact⟨v,xC j v hv,hr.mono (λ_ _ _=>rfl) VY⟩
     obtain⟨WN,PZ⟩:=PZ;refine .value (Ms ho X2) ⟨CW,Eg,C3.refl _ _ _,_,_,PZ,?_,EB Zu,T7 Yo hk⟩;have:=En.sl (w:=w) (ok:=AI ((s1.kill ib).A6 id ⟨false,true,kb.cl&&cl,kb.el,kb.rows.drop off++[]⟩) (Bm U id (some (.Bn g (o0+off*P.cellsOf kb.el) (c0 - off) (P.cellsOf kb.el)))) w) (off:=0) (len:=len) (Yb U id (some (.Bn g (o0+off*P.cellsOf kb.el) (c0 - off) (P.cellsOf kb.el)))) (by omega);rw[hq];simpa using this
    .obtain⟨ad,c,hv,F5⟩:=hC.val
     have jG:0 < rows.length:=Cq.2 Yj;by_cases wZ:len+rows.length<=c0 - off
     ·
      have NP:o0+off*P.cellsOf kb.el+len*i.size+us.length<=cur.size:=by
       rw[NW,hC.len];have:(off+len+rows.length)*P.cellsOf kb.el<=c0*P.cellsOf kb.el:=N8 _ (by omega);rw[Nat.add_mul,Nat.add_mul] at this;omega
      have X2:=Y0w (P:=P) (w:=w) t o.type kb.el i ht hi g (o0+off*P.cellsOf kb.el) len (c0 - off) cur hg ad rows.length c us (by rw[hC.len,NW]) F5 (one hC) wZ NP;rw[<-hq,<-hv] at X2;rw[NW] at X2 NP;generalize Xa:(cur.toList.take (o0+off*P.cellsOf kb.el+len*P.cellsOf kb.el)++us++cur.toList.drop (o0+off*P.cellsOf kb.el+len*P.cellsOf kb.el+us.length)).toArray=new at X2;have Lc:new.size=cur.size:=by rw[<-Xa];simp;omega
      have xF:∀m,new[m]?=if o0+off*P.cellsOf kb.el+len*P.cellsOf kb.el<=m/\m < o0+off*P.cellsOf kb.el+len*P.cellsOf kb.el+us.length then us[m - (o0+off*P.cellsOf kb.el+len*P.cellsOf kb.el)]? else cur[m]?:=by
       intro m;rw[<-Xa,iB,NM (by simp;omega)];simp
      have Mq:∀k',k'≠g->(w.setRow g new).heap[k']?=w.heap[k']?:=λk' Qg=>setRow_other w g k' _ Qg;have Wf:AK s1 U g:=⟨ib,kb,_,_,_,GU,Yz,hU⟩;have Xfp:(new.toList.drop (o0+off*P.cellsOf kb.el)).take ((kb.rows.drop off++rows).length*P.cellsOf kb.el)=C0++us:=by
       apply V4;intro m;rw[Dr,D4,iD,xF];have NX:(kb.rows.drop off++rows).length*P.cellsOf kb.el=len*P.cellsOf kb.el+us.length:=by rw[BW,IK,Nat.add_mul,hC.len]
       rw[NX];by_cases hm:m < len*P.cellsOf kb.el
       .rw[Ah (by omega),Ai (by omega),EW (by omega)]
        simp only[C0];rw[Dr,Ah hm,D4,iD]
       .rw[Fq (by omega),jI]
        by_cases Le:m < len*P.cellsOf kb.el+us.length
        .rw[Ah Le,Ah (by omega)]
         congr 1;omega
        .rw[Ai Le,Tr (by omega)]
      have Du:∀q∈kb.rows.drop off++rows,q.length=P.cellsOf kb.el:=λq hq=>by
       rcases BP.1 hq with hq|hq
       .exact T9 q hq
       .exact Ca q hq
      let b2:Be:=⟨false,true,kb.cl&&cl,kb.el,kb.rows.drop off++rows⟩
      have VY:∀g',AI s1 U w g'->AI ((s1.kill ib).A6 id b2) (Bm U id (some (.Bn g (o0+off*P.cellsOf kb.el) (c0 - off) (P.cellsOf kb.el)))) (w.setRow g new) g':=λg' Yi=>⟨λht=>Yi.1 (jD Zu GU Yz hU g' ht),by simpa using Yi.2⟩;have WO:∀{u:Value} {x:V},Rd w (AI s1 U w) u x->Rd (w.setRow g new) (AI ((s1.kill ib).A6 id b2) (Bm U id (some (.Bn g (o0+off*P.cellsOf kb.el) (c0 - off) (P.cellsOf kb.el)))) (w.setRow g new)) u x:=λhu=>
       hu.mono (λg' Yi _=>Mq g' (λe=>Yi.1 (e▸Wf))) VY
      have IH:g ∉ r:=λhm=>T6 (CH _ hm);have PZ:∃WN,Rel P B io (w.setRow g new) a.tmps ((s1.kill ib).A6 id b2) (Bm U id (some (.Bn g (o0+off*P.cellsOf kb.el) (c0 - off) (P.cellsOf kb.el)))) WN fl/\C3 B io w (w.setRow g new):=by
       cases Co:(kb.cl&&cl) with
       | true=>
        have QA:=Co;simp only[Bh] at QA;obtain⟨f1,hO,hs⟩:=jJ QA.1;have PU:=hC.own QA.2;have NS:∀k'∈f1,k'∈fp:=λk' Qg=>hs.subset Qg;have WQ:g ∉ f1:=λhm=>(EY.1 WM).1 (hs.subset hm);have hOO:=(hO.append PU).frame (w':=w.setRow g new) (λk' Qg=>Mq k' (by
         rintro rfl;rcases BP.1 Qg with h1|h1
         .exact WQ h1
         .exact IH h1))
        refine⟨_,hR.over (b':=b2) (f':=f1++r) (new:=new) Zu (by rw[Eg];exact Yo) GU Yz hU ⟨fp,CZ⟩ (λk' Qg=>?_) (EY.2 ⟨λhm=>?_,EX.2 ⟨(EY.1 WM).2.sublist hs,(EX.1 hR.AU).1,λx hx y hy e=>?_⟩⟩) (by omega)
         (.Cu rfl rfl rfl (setRow_heap w g cur new _ _ hg) (by simp[b2];omega) (by omega) Du (by rw[Lc];show o0+off*P.cellsOf kb.el+(c0 - off)*P.cellsOf kb.el=cur.size;omega) rfl (λ_=>?_) (λhf=>by simp[b2,Co] at hf))⟩
        .rcases BP.1 Qg with h1|h1
         .exact .inl (by rw[CZ];exact Cg _ (NS k' h1))
         .exact .inr h1
        .rcases BP.1 hm with h1|h1
         .exact WQ h1
         .exact IH h1
        .subst e
         exact hR.A8 ib kb GU Yz x (by rw[CZ];exact Cg _ (NS x hx)) (CH _ hy)
        .show B7 (w.setRow g new) ((new.toList.drop (o0+off*P.cellsOf kb.el)).take ((kb.rows.drop off++rows).length*P.cellsOf kb.el)) (kb.rows.drop off++rows).flatten (f1++r)
         rw[Xfp,List.flatten_append];exact hOO
       | false=>
        refine⟨_,hR.over (b':=b2) (f':=[]) (new:=new) Zu (by rw[Eg];exact Yo) GU Yz hU ⟨fp,CZ⟩ (λk' Qg=>by simp at Qg) (by simp) (by omega)
         (.Cu rfl rfl rfl (setRow_heap w g cur new _ _ hg) (by simp[b2];omega) (by omega) Du (by rw[Lc];show o0+off*P.cellsOf kb.el+(c0 - off)*P.cellsOf kb.el=cur.size;omega) rfl (λhf=>by simp[b2,Co] at hf) (λ_=>⟨rfl,λj x hj=>?_⟩))⟩
        have II:((kb.rows.drop off).flatten++rows.flatten)[j]?=some x:=by rw[<-List.flatten_append];exact hj
        have Eh:(kb.rows.drop off).flatten.length=len*P.cellsOf kb.el:=by rw[HU T9,IK]
        by_cases KX:j < len*P.cellsOf kb.el
        .rw[EW (by omega)] at II
         obtain⟨v,hv,hr⟩:=xD j x II;exact⟨v,by rw[xF,Ai (by omega)];exact xC j v hv,WO hr⟩
        .rw[Fq (by omega),Eh] at II
         obtain⟨v,hv,hr⟩:=WL hC _ x II;have Ya:=(Dg.1 hv).1;refine⟨v,?_,WO hr⟩;rw[xF,Ah (by omega),<-hv]
         congr 1;omega
      obtain⟨WN,PZ,Gc⟩:=PZ;refine .value (Ms ho X2) ⟨CW,Eg,Gc,_,_,PZ,?_,EB Zu,T7 Yo hk⟩;have:=En.sl (w:=w.setRow g new) (ok:=AI ((s1.kill ib).A6 id b2) (Bm U id (some (.Bn g (o0+off*P.cellsOf kb.el) (c0 - off) (P.cellsOf kb.el)))) (w.setRow g new)) (off:=0) (len:=len+rows.length) (Yb U id (some (.Bn g (o0+off*P.cellsOf kb.el) (c0 - off) (P.cellsOf kb.el)))) (by omega);simpa using this
     ·
      have Lf:=hR.float GU Yz;have hsup:len+rows.length<=9223372036854775807:=by omega
      have X2:=run_append_grow (P:=P) (w:=w) t o.type kb.el i z ht hi hz ⟨g,o0+off*P.cellsOf kb.el,none⟩ len (c0 - off) C0 (by rw[jI,NW]) Xfr ad rows.length c us (by rw[hC.len,NW]) F5 (by omega) (by omega) (growslice_fits (by omega) (by rw[jE];exact PY));rw[<-hq,<-hv] at X2;have Du:∀q∈kb.rows.drop off++rows,q.length=P.cellsOf kb.el:=λq hq=>by
       rcases BP.1 hq with hq|hq
       .exact T9 q hq
       .exact Ca q hq
      have Xdk:(C0++us).length=(kb.rows.drop off++rows).length*P.cellsOf kb.el:=by rw[BW,BW,IK,Nat.add_mul,hC.len,jI]
      have Z1i:C0.toArray++us.toArray=(C0++us).toArray:=by simp
      rw[Z1i] at X2;cases Co:(kb.cl&&cl) with
      | true=>
       have QA:=Co;simp only[Bh] at QA;obtain⟨f1,hO,hs⟩:=jJ QA.1;have Gv:((f1++r)++fl).Sublist (F ib++(r++fl)):=by
        rw[CZ,List.append_assoc];exact V2 (hs.trans (Vei _ _)) (N9 _)
       have hO3:B7 w (C0++us) (kb.rows.drop off++rows).flatten (f1++r):=by rw[List.flatten_append];exact hO.append (hC.own QA.2)
       refine .value (Ms ho X2) ?_;exact WE (s:=s) (k:=k) (s1:=s1.kill ib) (r:=f1++r) (Lf.less Gv) CW Eg Zu Yo hk DC (by rw[BW,IK]) (by unfold maxLen;omega) Du Xdk (λ_=>hO3) (λh=>by cases h)
      | false=>
       refine .value (Ms ho X2) ?_;refine WE (s:=s) (k:=k) (s1:=s1.kill ib) (r:=[]) (fl:=fl) ((hR.less (Ix _ _)).kill ib) CW Eg Zu Yo hk DC (by rw[BW,IK]) (by unfold maxLen;omega) Du Xdk (λh=>by cases h) (λ_=>⟨rfl,λj x hj=>?_⟩);have II:((kb.rows.drop off).flatten++rows.flatten)[j]?=some x:=by rw[<-List.flatten_append];exact hj
       have Eh:(kb.rows.drop off).flatten.length=len*P.cellsOf kb.el:=by rw[HU T9,IK]
       by_cases KX:j < len*P.cellsOf kb.el
       .rw[EW (by omega)] at II
        obtain⟨v,hv,hr⟩:=xD j x II;exact⟨v,by rw[EW (by omega)];exact hv,hr.mono (λ_ _ _=>rfl) (λg hg=>VT hg)⟩
       .rw[Fq (by omega),Eh] at II
        obtain⟨v,hv,hr⟩:=WL hC _ x II;exact⟨v,by rw[Fq (by omega),jI];exact hv,hr.mono (λ_ _ _=>rfl) (λg hg=>VT hg)⟩
 .cases he
end
section
variable {P:Program} {B:Nat} {io:Nat->Prop} {w:World} {a:Act} {s:St} {U:AZ} {F:Id->List Nat} {fl:List Nat} {k:Nat} {o:Oper} {v:V}
theorem Xfa {t e:TypeId} (h:P.underlying t=some (.slice e)):P.elem t=e:=by simp[Program.elem,h]
theorem Y96 {t e:TypeId} (ht:P.underlying t=some (.slice e)) (hz:Z5 P e≠0) (A:Option Addr) (len cap:Nat) (lo hi:Option Value) (l h:Nat)
  (hl:(lo=none/\l=0)\/∃kd,lo=some (.int kd l)) (hh:(hi=none/\h=len)\/∃kd,hi=some (.int kd h)) (h1:l<=h) (h2:h<=len) (h3:len<=cap):
  (Instr.sliceAt t (.slice A len cap) lo hi none).run P w=.ok (sliced A l h cap (P.cellsOf e)) w:=by
 have he:=Xfa ht;have QB:P.underlying t=some (.slice (P.elem t)):=by rw[he];exact ht
 rw[run_sliceAt_slice w t _ _ _ _ QB];obtain⟨ti,CV,W3⟩:∃ti,P.info? e=some ti/\ti.size=P.cellsOf e:=by
  unfold Z5 Program.cellsOf at hz;unfold Program.cellsOf;cases hq:P.info? e with
  | none=>rw[hq] at hz;simp at hz
  | some ti=>exact⟨ti,rfl,rfl⟩
 have hs:((sizeOf (P.elem t)).run P w)=.ok (P.cellsOf e) w:=by rw[he];simp[sizeOf,typeInfo,CV,W3]
 rcases hl with⟨rfl,rfl⟩|⟨kl,rfl⟩<;>rcases hh with⟨rfl,rfl⟩|⟨kh,rfl⟩
 .rw[run_slice_all w t A _ cap QB,hs];rfl
 .rw[run_slice_h w t A len cap QB kh h (by omega) (by omega),hs];rfl
 .rw[run_slice_l w t A _ cap QB kl l (by omega) (by omega),hs];rfl
 .rw[run_slice_lh w t A len cap QB kl kh l h (by omega) (by omega) (by omega),hs];rfl
theorem Rd.slice {ok:Nat->Prop} {u:Value} {rows:List (List V)} {l h sz:Nat} (hr:Rd w ok u (.tr rows)) (hh:h<=rows.length) (hl:l<=h) (hs:∀r∈rows,r.length=sz):
  ∃A len cap,u=.slice A len cap/\len=rows.length/\len<=cap/\Rd w ok (sliced A l h cap sz) (.tr ((rows.drop l).take (h - l))):=by
 cases hr with
 | @emp A c=>
  have h0:h=0:=by simpa using hh
  have l0:l=0:=by omega
  subst h0;subst l0;exact⟨A,0,c,rfl,rfl,BM _,by simp only[sliced];exact .emp⟩
 | @tr g o n c Cy _ uf hn hc hm HR hg hu Cl=>
  refine⟨_,n,c,rfl,hn.symm,hc,?_⟩;by_cases he:(rows.drop l).take (h - l)=[]
  .have:h - l=0:=by
    have:=congrArg List.length he;simp at this;omega
   rw[he];simp only[sliced,this];exact .emp
  .have Ya:l < h:=by
    rcases Mc l h with h'|h'
    .exact h'
    .exact absurd (by rw[show h - l=0 by omega];rfl) he
   have W3:Cy=sz:=by
    have hx:rows[l]?=some (rows[l]'(by omega)):=C6 (by omega);rw[<-HR _ (E8 hx),hs _ (E8 hx)]
   subst W3;have Qf:c≠l:=by omega
   simp only[sliced,Ai Qf,DI];have HW:(⟨g,o,none⟩:Addr).add (l*Cy)=⟨g,o+l*Cy,none⟩:=by unfold Addr.add;split<;>simp_all
   rw[HW];have cell:∀(k:Nat) (x:V),((rows.drop l).take (h - l)).flatten[k]?=some x->rows.flatten[l*Cy+k]?=some x:=by
    intro k x hk;have hd:∀r∈rows.drop l,r.length=Cy:=λr hr=>HR r (Gp hr);rw[<-wR (h - l) hd,<-VS l HR,Dr] at hk;split at hk
    .rwa [D4] at hk
    .cases hk
   refine .tr (u:=λk=>uf (l*Cy+k)) (by simp;omega) (by omega) (by omega) (λr hr=>HR r (Gp (Gq hr))) hg (λk x hk=>?_) (λk x hk=>Cl _ x (cell k x hk));rw[Nat.add_assoc];exact hu _ x (cell k x hk)
theorem xG (h:Rel P B io w a.tmps s U F fl) {t:TypeId} {x:Operand} {lo hi:Option Operand} (ho:o.op=.slice t x lo hi none)
  (he:NG P s t (s.AQ x) (lo.map s.AQ) (hi.map s.AQ)=some v):Ci P o a w (Cj P B io w a.tmps s U fl k v s):=by
 unfold NG at he;obtain⟨e,Q6,he⟩:=AA.1 he;obtain⟨rows,Wu,he⟩:=AA.1 he;obtain⟨l,hl,he⟩:=AA.1 he;obtain⟨hh,hhi,he⟩:=AA.1 he;have ht:=Mj Q6;split at he
 case isFalse=>cases he
 rename_i hc;obtain⟨h1,h2,Je,hz⟩:=hc;have PC:P.cellsOf e≠0:=hz;have Ca:∀r∈rows,r.length=P.cellsOf e:=λr hr=>by
  have:=Cf.1 Je r hr;simpa [Z5] using this
 have hlo:(lo.map a.eval=none/\l=0)\/∃kd,lo.map a.eval=some (.int kd l):=by
  cases lo with
  | none=>simp at hl;exact .inl ⟨rfl,hl.symm⟩
  | some lo=>
   obtain⟨kd,hk⟩:=VO (h.AQ lo) hl;exact .inr ⟨kd,by simp[hk]⟩
 have xH:∀len,len=rows.length->(hi.map a.eval=none/\hh=len)\/∃kd,hi.map a.eval=some (.int kd hh):=by
  intro len Yp;cases hi with
  | none=>simp at hhi;exact .inl ⟨rfl,by omega⟩
  | some hi=>
   obtain⟨kd,hk⟩:=VO (h.AQ hi) hhi;exact .inr ⟨kd,by simp[hk]⟩
 have fin:∀(A:Option Addr) (len cap:Nat),a.eval x=.slice A len cap->len=rows.length->len<=cap->En w (AI s U w) U (sliced A l hh cap (P.cellsOf e)) v->Ci P o a w (Cj P B io w a.tmps s U fl k v s):=by
  intro A len cap hq Yp F8 hv;have X2:=Y96 (w:=w) ht hz A len cap _ _ l hh hlo (xH len Yp) h1 (by omega) F8;refine .value (v:=sliced A l hh cap (P.cellsOf e)) ?_ (.same h hv);rw[<-hq] at X2;simp[execOp,ho,X2]
 have hx:=h.AQ x;have tree:∀{u:Value},a.eval x=u->Rd w (AI s U w) u (.tr rows)->(Rd w (AI s U w) (sliced (match u with|.slice A _ _=>A|_=>none) l hh (match u with|.slice _ _ c=>c|_=>0) (P.cellsOf e)) (.tr ((rows.drop l).take (hh - l)))->En w (AI s U w) U (sliced (match u with|.slice A _ _=>A|_=>none) l hh (match u with|.slice _ _ c=>c|_=>0) (P.cellsOf e)) v)->
   Ci P o a w (Cj P B io w a.tmps s U fl k v s):=by
  intro u hu hr Wa;obtain⟨A,len,cap,rfl,Yp,F8,Cw⟩:=hr.slice h2 h1 Ca;exact fin A len cap hu Yp F8 (Wa Cw)
 generalize hq:a.eval x=q at hx;split at he
 .rename_i id off len WR
  simp only[AF] at he;subst he;rw[WR] at hx Wu;have Yp:rows.length=len:=by
   simp only[St.rowsOf] at Wu;obtain⟨b,hb,Wu⟩:=AA.1 Wu;split at Wu
   .rename_i hc
    simp only[AF] at Wu;rw[<-Wu];simp;omega
   .cases Wu
  cases hx with
  | @sle _ A _ hU=>
   have e0:hh=0:=by omega
   have e1:l=0:=by omega
   subst e0;subst e1;refine fin A 0 0 hq Yp.symm (B2 _) ?_;simp only[sliced,if_true,iQ];exact .sle hU
  | @sl _ g o0 c sz _ _ hU hoc=>
   refine fin _ len (c - off) hq Yp.symm (by omega) ?_;by_cases Qf:c - off=l
   .have:hh - l=0:=by omega
    simp only[sliced,Ah Qf,this,Qf,VC];exact .sle (by rw[hU];rfl)
   .by_cases IL:rows=[]
    .subst IL
     have e0:hh=0:=by simpa using h2
     have e1:l=0:=by omega
     subst e0;subst e1;simp only[sliced,Ai Qf,DI,iP,iQ,HS,Fv];exact .sl hU (by omega)
    .have W3:sz=P.cellsOf e:=by
      simp only[St.rowsOf] at Wu;obtain⟨b,hb,Wu⟩:=AA.1 Wu;split at Wu
      .rename_i hc
       simp only[AF] at Wu;have hB:=h.heap id b hb;rw[hU] at hB;have Lg:∀r∈b.rows,r.length=sz:=by
        unfold Xw at hB;rw[hc.1] at hB;generalize b.own=ow at hB;cases ow with
        | true=>
         rcases hB with⟨Y7,_⟩|⟨g',iT,c',cur,Y7,hg,iU,hm,Cn,PC,fp,CZ,h1,h2⟩
         .cases Y7
         .cases Y7;exact Cn
        | false=>
         obtain⟨_,hB⟩:=hB;rcases hB with⟨Y7,_⟩|⟨g',iT,c',Cy,Y7,Cn,hr⟩
         .cases Y7
         .cases Y7;exact Cn
       obtain⟨r0,NY⟩:=List.exists_mem_of_ne_nil rows IL;have TA:r0∈b.rows:=by rw[<-Wu] at NY;exact Gp (Gq NY)
       rw[<-Lg r0 TA,Ca r0 NY]
      .cases Wu
     subst W3;simp only[sliced,Ai Qf,DI,HS];have:=En.sl (w:=w) (ok:=AI s U w) (off:=off+l) (len:=hh - l) hU (by omega);rw[Nat.add_mul,<-Nat.add_assoc] at this;rw[show c - off - l=c - (off+l) by omega];exact this
 .rename_i Bu WR
  simp only[AF] at he;subst he;rw[WR] at hx Wu;simp only[St.rowsOf,AF] at Wu;subst Wu;cases hx with|tr hr=>exact tree hq hr (λh=>.tr h)
 .rename_i Bu WR
  simp only[AF] at he;subst he;rw[WR] at hx Wu;simp only[St.rowsOf,AF] at Wu;subst Wu;cases hx with|vw hr=>exact tree hq hr (λh=>.vw h)
 .cases he
end
theorem Yw2 {off:Nat}:∀(l:List Value) (k:Nat) (cs:Array Value),off+k+l.length<=cs.size->
  ((l.zipIdx k).foldl (λcs (p:Value×Nat)=>cs.setIfInBounds (off+p.2) p.1) cs).size=cs.size/\
  ∀j,((l.zipIdx k).foldl (λcs (p:Value×Nat)=>cs.setIfInBounds (off+p.2) p.1) cs)[j]?=if off+k<=j/\j < off+k+l.length then l[j - (off+k)]? else cs[j]?:=by
 intro l
 induction l with
 | nil=>intro k cs _;refine⟨rfl,λj=>?_⟩;rw[Ai (λhc=>by have:=hc.2;simp only[Bf] at this;omega)];rfl
 | cons v l ih=>
  intro k cs h;simp only[AP] at h;obtain⟨h1,h2⟩:=ih (k+1) (cs.setIfInBounds (off+k) v) (by simp;omega);refine⟨by simpa using h1,λj=>?_⟩;have:=h2 j;simp only[List.zipIdx_cons,HO];rw[this];by_cases hj:j=off+k
  .subst hj
   rw[Ai (by omega),Ah (by simp),hZ,Ah rfl,Ah (by omega)];simp
  .by_cases hc:off+(k+1)<=j/\j < off+(k+1)+l.length
   .rw[Ah hc,Ah (by simp;omega)]
    obtain⟨m,hm⟩:∃m,j - (off+k)=m+1:=⟨j - (off+k) - 1,by omega⟩;rw[hm,Ved]
    congr 1;omega
   .rw[Ai hc,Ai (by simp;omega),hZ,Ai (by omega)]
theorem Xbz {off:Nat} (vs cs:Array Value) (h:off+vs.size<=cs.size):
  (vs.zipIdx.foldl (λcs (c,j)=>cs.setIfInBounds (off+j) c) cs).size=cs.size/\
  ∀j,(vs.zipIdx.foldl (λcs (c,j)=>cs.setIfInBounds (off+j) c) cs)[j]?=if off<=j/\j < off+vs.size then vs[j - off]? else cs[j]?:=by
 have h0:=Yw2 (off:=off) vs.toList 0 cs (by simpa using h);have e:vs.zipIdx.foldl (λcs (c,j)=>cs.setIfInBounds (off+j) c) cs=(vs.toList.zipIdx 0).foldl (λcs (p:Value×Nat)=>cs.setIfInBounds (off+p.2) p.1) cs:=by
  rw[<-Array.foldl_toList];simp
 rw[e];refine⟨h0.1,λj=>?_⟩;rw[h0.2 j];simp
section
variable {P:Program} {w:World} {ok:Nat->Prop} {U:AZ}
theorem Y3h (place:Nat->Option (Nat×Nat)):∀(ps:List (Nat×Value×V)) (C:Array Value) (X X':List V),C.size=X.length->
  (∀(j:Nat) (u:Value) (x:V),C[j]?=some u->X[j]?=some x->En w ok U u x)->(∀x∈X,AG x=true)->(∀p∈ps,En w ok U p.2.1 p.2.2)->
  I2 P place X (ps.map λp=>(p.1,p.2.2))=some X'->
  ∃C',Instr.fill place C (ps.map λp=>(p.1,p.2.1))=some C'/\C'.size=X'.length/\X'.length=X.length/\(∀(j:Nat) (u:Value) (x:V),C'[j]?=some u->X'[j]?=some x->En w ok U u x)/\∀x∈X',AG x=true:=by
 intro ps
 induction ps with
 | nil=>
  intro C X X' hs hR hc _ hf;simp only[Ht,I2,AF] at hf;subst hf;exact⟨C,rfl,hs,rfl,hR,hc⟩
 | cons p ps ih=>
  intro C X X' hs hR hc hp hf;obtain⟨i,u,x⟩:=p;simp only[CD,I2] at hf;obtain⟨⟨off,sz⟩,NZ,hf⟩:=AA.1 hf;obtain⟨cs,BQ,hf⟩:=AA.1 hf;split at hf
  case isFalse=>cases hf
  rename_i WS;obtain⟨jK,FA⟩:=WS;have jK:cs.length=sz:=jK;have FA:off+sz<=X.length:=FA;simp only at hf;obtain⟨h1,h2,h3⟩:=jA (show En w ok U u x from hp (i,u,x) BI) BQ;have hpf:=Xbz (off:=off) u.cells C (by omega);obtain⟨C',WT,r1,r2,r3,r4⟩:=ih (u.cells.zipIdx.foldl (λcs (c,j)=>cs.setIfInBounds (off+j) c) C) (Ds X off cs) X' (by rw[hpf.1,VU (by omega),hs]) (λj v y hv hy=>by
   rw[hpf.2 j] at hv;rcases jB (by omega) hy with⟨g1,g2,g3⟩|⟨g1,g2⟩
   .rw[Ah (by omega)] at hv
    exact h3 _ v y hv g3
   .rw[Ai (by omega)] at hv
    exact hR j v y hv g2) (λy hy=>by
   obtain⟨m,hm⟩:=HN hy;rcases jB (by omega) hm with⟨_,_,g3⟩|⟨_,g2⟩
   .exact h2 y (E8 g3)
   .exact hc y (E8 g2)) (λq hq=>hp q (Cg _ hq)) hf
  refine⟨C',?_,r1,by rw[r2,VU (by omega)],r3,r4⟩;simp only[CD,Instr.fill,NZ];rw[Ai]
  .exact WT
  .simp only[NB,Bl,ne_eq]
   omega
end
section
variable {P:Program} {B:Nat} {io:Nat->Prop} {w:World} {a:Act} {s:St} {U:AZ} {F:Id->List Nat} {fl:List Nat} {k:Nat} {o:Oper} {v:V}
theorem jL {t:TypeId} {z:List V} (h:Fw P t=some z):∃ti zv,P.info? t=some ti/\ti.zero=some zv/\z=zv.cells.toList.map .lit/\∀u∈zv.cells.toList,DJ u=true:=by
 unfold Fw at h;obtain⟨zv,F7,hz⟩:=AA.1 h;obtain⟨ti,CV,Xe⟩:=AA.1 F7;split at hz
 .rename_i Je
  simp only[AF] at hz;exact⟨ti,zv,CV,Xe,hz.symm,λu hu=>Cf.1 Je u hu⟩
 .cases hz
theorem Y26 {ok:Nat->Prop} {C:Array Value} (hs:∀u∈C.toList,DJ u=true):∀(j:Nat) (u:Value) (x:V),C[j]?=some u->(C.toList.map V.lit)[j]?=some x->En w ok U u x:=by
 intro j u x hu hx;simp only[D5,AM] at hx;obtain⟨y,hy,rfl⟩:=hx;have:u=y:=by
  have h1:C.toList[j]?=some u:=by simpa using hu
  rw[h1] at hy;injection hy
 subst this;exact .lit (hs u (E8 hy))
theorem Y15:∀(fs:List Field),fs.all (λf=>(P.info? f.type).isSome)=true->fs.mapM (λf=>(P.info? f.type).map λi=>(f.offset,i.size))=some (fs.map λf=>(f.offset,P.cellsOf f.type)):=by
 intro fs
 induction fs with
 | nil=>intro _;rfl
 | cons f fs ih=>
  intro h;simp only[Ef,Bh] at h;obtain⟨i,hi⟩:=Ft.1 h.1;simp[List.mapM_cons,hi,ih h.2,Program.cellsOf]
theorem Xa1 (h:Rel P B io w a.tmps s U F fl) {t:TypeId} {parts:Array (Nat×Operand)} {fs:Array Field} {z cs:List V} (ho:o.op=.build t parts) (hz:Fw P t=some z) (hu:P.underlying t=some (.struct fs))
  (Je:fs.toList.all (λf=>(P.info? f.type).isSome)=true)
  (hf:I2 P (λi=>(fs[i]?).map λf=>(f.offset,P.cellsOf f.type)) z (parts.toList.map λp=>(p.1,s.AQ p.2))=some cs):Ci P o a w (Cj P B io w a.tmps s U fl k (.agg cs) s):=by
 obtain⟨ti,zv,CV,F7,rfl,Hy⟩:=jL hz;obtain⟨C',WT,r1,r2,r3,r4⟩:=Y3h (P:=P) (w:=w) (ok:=AI s U w) (U:=U) (λi=>(fs[i]?).map λf=>(f.offset,P.cellsOf f.type)) (parts.toList.map λp=>(p.1,a.eval p.2,s.AQ p.2)) zv.cells (zv.cells.toList.map .lit) cs (by simp)
  (Y26 Hy) (λx hx=>by obtain⟨u,_,rfl⟩:=D7.1 hx;rfl) (λp hp=>by obtain⟨q,_,rfl⟩:=D7.1 hp;exact h.AQ q.2) (by simpa [P4] using hf)
 have hb:P.built t (parts.map λ(i,x)=>(i,a.eval x)).toList=some C':=by
  unfold Program.built;simp only[CV,hu,F7,Y15 fs.toList Je];rw[<-WT]
  congr 1
  .funext i;simp
  .simp[P4]
 refine .value (v:=.agg C') ?_ (.same h (.agg r1 r4 r3));have:=run_build (P:=P) w t _ C' hb;simp[execOp,ho,this]
end
theorem Y6l {sz:Nat}:∀(n:Nat) (l:List V),l.length=n*sz->(I3 sz n l).flatten=l/\(∀r∈I3 sz n l,r.length=sz)/\(I3 sz n l).length=n:=by
 intro n
 induction n with
 | zero=>
      intro l h;have:l=[]:=GK (by omega);subst this;exact⟨rfl,by simp[I3],rfl⟩
 | succ n ih=>
  intro l h;rw[KR] at h;obtain⟨h1,h2,h3⟩:=ih (l.drop sz) (by simp;omega);refine⟨by simp[I3,h1],λr hr=>?_,by simp[I3,h3]⟩;simp only[I3,BX] at hr;rcases hr with rfl|hr
  .simp;omega
  .exact h2 r hr
theorem xI {α:Type} {l:List α} {n k:Nat} (hk:k < n*l.length):(List.replicate n l).flatten[k]?=l[k % l.length]?:=by
 have hl:0 < l.length:=by
  rcases vQ l.length with h|h
  .rw[h] at hk;simp at hk
  .exact h
 have hi:k / l.length < n:=(Nat.div_lt_iff_lt_mul hl).2 hk;have hm:=Nat.mod_lt k hl;have h1:l[k % l.length]?=some (l[k % l.length]'hm):=C6 hm;have:=T0 (sz:=l.length) (rows:=List.replicate n l) (i:=k / l.length) (j:=k % l.length) (λr hr=>by rw[(LY.1 hr).2]) (by rw[Vee,Ah hi]) h1;rw[Nat.mul_comm,Nat.div_add_mod] at this;rw[this,h1]
theorem xJ (z:Array Value) (n:Nat):(madeCells z (n*z.size)).toList=(List.replicate n z.toList).flatten:=by
 apply V4;intro k;by_cases hk:k < n*z.size
 .rw[xI (by simpa using hk)]
  have hz:0 < z.size:=by
   rcases vQ z.size with h|h
   .rw[h] at hk;simp at hk
   .exact h
  have hm:=Nat.mod_lt k hz;simp[madeCells,hk,hm]
 .have h1:(List.replicate n z.toList).flatten.length=n*z.size:=by
   rw[HU (sz:=z.size) (λr hr=>by rw[(LY.1 hr).2];simp)];simp
  rw[Tr (by simp[madeCells];omega),Tr (by rw[h1];omega)]
theorem B7.WU {w:World}:∀(l:List Value),(∀u∈l,DJ u=true)->B7 w l ((l.map V.lit).map Fa) []:=by
 intro l
 induction l with
 | nil=>intro _;exact .nil
 | cons u l ih=>
  intro h;have h1:Ow w u (Fa (.lit u)) []:=by
   unfold Fa;split
   .rename_i he;injection he with he;subst he;exact .emp
   .exact .lit (h u BI)
  have:=B7.cons h1 (ih λu hu=>h u (Cg _ hu));simpa using this
theorem B7.FB {w:World} {l:List Value} (h:∀u∈l,DJ u=true) (n:Nat):B7 w (List.replicate n l).flatten (List.replicate n ((l.map V.lit).map Fa)).flatten []:=by
 induction n with
 | zero=>exact .nil
 | succ n ih=>
  have:=(B7.WU (w:=w) l h).append ih;simpa [List.replicate_succ] using this
section
variable {P:Program} {B:Nat} {io:Nat->Prop} {w w':World} {a:Act} {tmps:Array Value} {s s':St} {U U':AZ} {F F':Id->List Nat} {fl fl':List Nat} {k:Nat} {o:Oper} {v:V}
theorem Y03:∀(rows:List (List V)) {us:List Value} {s:St} {fl:List Nat} {Bu:List (List V)} {c:Bool} {s':St},Rel P B io w tmps s U F fl->us.length=rows.flatten.length->
  (∀(k:Nat) (u:Value) (x:V),us[k]?=some u->rows.flatten[k]?=some x->En w (AI s U w) U u x)->s.Br rows=some (Bu,c,s')->
  ∃fp,Rel P B io w tmps s' U F (fp++fl)/\Bu.length=rows.length/\(∀sz,(∀r∈rows,r.length=sz)->∀r∈Bu,r.length=sz)/\us.length=Bu.flatten.length/\(c=true->B7 w us Bu.flatten fp)/\
   (∀(k:Nat) (u:Value) (y:V),us[k]?=some u->Bu.flatten[k]?=some y->Rd w (AI s' U w) u y)/\
   s'.env=s.env/\s'.ep=s.ep/\(∀id b,s'.heap id=some b->s.heap id=some b)/\(∀g,AI s U w g->AI s' U w g):=by
 intro rows
 induction rows with
 | nil=>
  intro us s fl Bu c s' h hl Wa hs;simp only[St.Br,AF,A7] at hs;obtain⟨rfl,rfl,rfl⟩:=hs;have:us=[]:=GK (by simpa using hl);subst this;exact⟨[],h,rfl,λ_ _ r hr=>by simp at hr,rfl,λ_=>.nil,λk u y hu=>by simp at hu,rfl,rfl,λ_ _ h=>h,λ_ h=>h⟩
 | cons row rows ih=>
  intro us s fl Bu c s' h hl Wa hs;simp only[St.Br] at hs;obtain⟨⟨ys,c1,s1⟩,Ch,hs⟩:=AA.1 hs;obtain⟨⟨zs,c2,s2⟩,Dv,hs⟩:=AM.1 hs;simp only[A7] at hs;obtain⟨rfl,rfl,rfl⟩:=hs;simp only at Dv;simp only[Ee,BW] at hl;have NX:(us.take row.length).length=row.length:=by simp;omega
  have CK:(us.drop row.length).length=rows.flatten.length:=by rw[KO];omega
  have NJ:us.take row.length++us.drop row.length=us:=List.take_append_drop _ _;obtain⟨f1,g1,g2,g3,g4,g5,g6,g7,g8⟩:=Y3r row h NX (λj u x hu hx=>Wa j u x (by
    rw[Dr] at hu;split at hu
    .exact hu
    .cases hu) (by
    rw[Ee,EW (Dg.1 hx).1];exact hx)) Ch
  obtain⟨f2,k1,k2,k3,k4,k5,k6,k7,k8,k9,xK⟩:=ih g1 CK (λj u x hu hx=>by
    rw[D4] at hu;have:=Wa (row.length+j) u x hu (by rw[Ee,Fq (by omega)];simpa using hx);exact (show En w (λg=>(¬AK s U g)/\g < w.heap.size) U u x from this).CE (.same (λg ht=>by
     obtain⟨Ax,b,o,c,sz,hb,ho,hU⟩:=ht;exact⟨Ax,b,o,c,sz,g7 Ax b hb,ho,hU⟩)) (λ_ _ h=>h)) Dv
  refine⟨f1++f2,k1.perm ?_,by simp[k2],λsz W3 r hr=>?_,by rw[Ee,BW,<-g2,<-k4,NX,CK];exact hl,λhc=>?_,λj u y hu hy=>?_,k7.trans g5,k8.trans g6,λid b hb=>g7 id b (k9 id b hb),λg hg=>xK g (g8 g hg)⟩
  .rw[List.append_assoc]
   exact (Px _ _ _)
  .rcases BX.1 hr with rfl|hr
   .rw[<-g2,NX];exact W3 row BI
   .exact k3 sz (λr hr=>W3 r (Cg _ hr)) r hr
  .rw[Bh] at hc
   have:=(g3 hc.1).append (k5 hc.2);rw[NJ] at this;exact this
  .rw[Ee] at hy
   by_cases hj:j < ys.length
   .rw[EW hj] at hy
    have:=g4 j u y (by rw[Dr,Ah (by omega)];exact hu) hy;exact this.mono (λ_ _ _=>rfl) xK
   .rw[Fq (by omega)] at hy
    exact k6 (j - ys.length) u y (by rw[D4,show row.length+(j - ys.length)=j by omega];exact hu) hy
theorem xL {r:List Nat} {s1:St} (h:Rel P B io w a.tmps s1 U F (r++fl)) (CW:s1.env=s.env) (Eg:s1.ep=s.ep) {id:Id} (Zu:U id=none) (Yo:id.1=s.ep) (hk:id.2 / 1024=k) {C:Array Value} {rows:List (List V)} {e:TypeId} {cl:Bool} {n:Nat}
  (hn:rows.length=n) (hm:n<=maxLen) (hu:∀q∈rows,q.length=P.cellsOf e)
  (Yp:C.size=rows.length*P.cellsOf e) (h1:cl=true->B7 w C.toList rows.flatten r) (h2:cl=false->r=[]/\∀(k:Nat) (x:V),rows.flatten[k]?=some x->∃v,C.toList[k]?=some v/\Rd w (AI s1 U w) v x):
  Cj P B io w a.tmps s U fl k (.sl id 0 n) (s1.A6 id ⟨false,true,cl,e,rows⟩) (.slice (some ⟨w.heap.size,0,none⟩) n n) (w.alloc (.cells C e)):=by
 subst hn;have hR:=h.grown (w':=w.alloc (.cells C e)) (c:=rows.length) (us:=C.toList) (zs:=[]) (e:=e) (cl:=cl) Zu (by rw[Eg];exact Yo) (T3 w _) (λg hg=>Below.heap_alloc w _ g hg) (by
  have:=iY w (.cells C e);simpa using this) (B2 _) hm hu (by simpa using Yp) (by simpa using Yp) h1 h2
 refine⟨CW,Eg,(C3.refl B io w).alloc h.base _,_,_,hR,?_,EB Zu,T7 Yo hk⟩;have:=En.sl (w:=w.alloc (.cells C e)) (ok:=AI (s1.A6 id ⟨false,true,cl,e,rows⟩) (Bm U id (some (.Bn w.heap.size 0 rows.length (P.cellsOf e)))) (w.alloc (.cells C e)))
  (off:=0) (len:=rows.length) (Yb U id (some (.Bn w.heap.size 0 rows.length (P.cellsOf e)))) (by omega)
 simpa using this
theorem Yts (h:Rel P B io w a.tmps s U F fl) {t e:TypeId} {n:Nat} {parts:Array (Nat×Operand)} {z cs:List V} {rows:List (List V)} {c:Bool} {s1:St} (ho:o.op=.buildSlice t n parts) (Q6:Q0 P t=some e) (hz:(if n*Z5 P e=0 then some [] else Fw P e)=some z)
  (W3:Z5 P e≠0) (hle:n*Z5 P e<=1048576) (Mu:Mg P e=true) (hf:I2 P (λi=>some (i*Z5 P e,Z5 P e)) (List.replicate n z).flatten (parts.toList.map λp=>(p.1,s.AQ p.2))=some cs)
  (hs:s.Br (I3 (Z5 P e) n cs)=some (rows,c,s1)) {id:Id} (Zu:U id=none) (Yo:id.1=s.ep) (hk:id.2 / 1024=k):
  Ci P o a w (Cj P B io w a.tmps s U fl k (.sl id 0 n) (s1.A6 id ⟨false,true,c,e,rows⟩)):=by
 have ht:=Mj Q6;have WJ:n≠0->Fw P e=some z:=λhn=>by
  split at hz
  .rename_i h0;exact absurd h0 (Nat.mul_ne_zero hn W3)
  .exact hz
 simp only[Z5] at W3 hle hf hs;have key:∃C',(Instr.buildSlice t n (parts.map λ(i,x)=>(i,a.eval x))).run P w=.ok (.slice (some ⟨w.heap.size,0,none⟩) n n) (w.alloc (.cells C' e))/\C'.size=cs.length/\cs.length=n*P.cellsOf e/\
   (∀(j:Nat) (u:Value) (x:V),C'[j]?=some u->cs[j]?=some x->En w (AI s U w) U u x):=by
  obtain⟨ti,CV,QC⟩:∃ti,P.info? e=some ti/\ti.size=P.cellsOf e:=by
   unfold Program.cellsOf at W3 ⊢;cases hq:P.info? e with
   | none=>rw[hq] at W3;simp at W3
   | some ti=>exact⟨ti,rfl,rfl⟩
  by_cases hn:n=0
  .subst hn
   have hpe:(List.replicate 0 z).flatten=[]:=rfl;rw[hpe] at hf;have IL:parts.toList=[]/\cs=[]:=by
    cases hp:parts.toList with
    | nil=>rw[hp] at hf;simp[I2] at hf;exact⟨rfl,hf⟩
    | cons p ps=>
     rw[hp] at hf;simp only[CD,I2,Ag] at hf;obtain⟨GV,_,hf⟩:=AA.1 hf;split at hf
     .rename_i hc;simp only[Bf] at hc;omega
     .cases hf
   obtain⟨hp,rfl⟩:=IL;refine⟨#[],?_,rfl,by simp,λj u x hu=>by simp at hu⟩;have hpa:parts=#[]:=by apply VF;simpa using hp
   subst hpa;simp[Instr.buildSlice,run_underlying ht,sizeOf,typeInfo,CV,QC,Instr.fill,newRow,Array.range_zero']
  .have hnz:n*P.cellsOf e≠0:=Nat.mul_ne_zero hn W3
   obtain⟨ti',zv,jM,F7,rfl,Hy⟩:=jL (WJ hn);rw[CV] at jM;injection jM with jM;subst jM;have DC:zv.cells.size=P.cellsOf e:=by
    unfold Mg at Mu;rw[CV] at Mu;simp only[Ag,F7] at Mu;simpa using Mu
   have xM:(List.replicate n (zv.cells.toList.map V.lit)).flatten.length=n*P.cellsOf e:=by
    rw[HU (sz:=P.cellsOf e) (λr hr=>by rw[(LY.1 hr).2];simp[DC])];simp
   obtain⟨C',WT,r1,r2,r3,r4⟩:=Y3h (P:=P) (w:=w) (ok:=AI s U w) (U:=U) (λi=>some (i*P.cellsOf e,P.cellsOf e)) (parts.toList.map λp=>(p.1,a.eval p.2,s.AQ p.2)) (madeCells zv.cells (n*zv.cells.size)) _ cs (by rw[size_madeCells,xM,DC])
    (λj u x hu hx=>by
     have Ya:=(Dg.1 hx).1;rw[xM] at Ya;have Cn:(madeCells zv.cells (n*zv.cells.size)).toList[j]?=some u:=by simpa using hu
     rw[xJ,xI (by simpa [DC] using Ya)] at Cn;rw[xI (by simpa [DC] using Ya)] at hx;simp only[GL] at hx;have:=Y26 (w:=w) (ok:=AI s U w) (U:=U) Hy (j % zv.cells.toList.length) u x (by simpa using Cn) hx;exact this) (λx hx=>by
     obtain⟨r,hr,hx⟩:=iI.1 hx;rw[(LY.1 hr).2] at hx;obtain⟨u,_,rfl⟩:=D7.1 hx;rfl) (λp hp=>by obtain⟨q,_,rfl⟩:=D7.1 hp;exact h.AQ q.2) (by simpa [P4] using hf)
   refine⟨C',?_,r1,by rw[r2,xM],r3⟩;refine run_buildSlice w t e n _ C' ti zv ht CV F7 (by rw[QC];omega) (by rw[QC];exact hnz) ?_;rw[<-WT,QC,<-DC]
   congr 1
   simp[P4]
 obtain⟨C',X2,xN,Qf,Wa⟩:=key;obtain⟨c1,c2,c3⟩:=Y6l n cs Qf;obtain⟨fp,k1,k2,k3,k4,k5,k6,k7,k8,k9,xK⟩:=Y03 (us:=C'.toList) _ h (by rw[c1];simpa using xN) (λj u x hu hx=>Wa j u x (by simpa using hu) (by rw[c1] at hx;exact hx)) hs;have Du:rows.length=n:=by rw[k2,c3]
 refine .value (v:=.slice (some ⟨w.heap.size,0,none⟩) n n) (w':=w.alloc (.cells C' e)) (by simp[execOp,ho,X2]) ?_;have WI:n<=maxLen:=by
  have:n<=n*P.cellsOf e:=Nat.le_mul_of_pos_right _ (vP W3);unfold maxLen;omega
 cases c with
 | true=>exact xL k1 k7 k8 Zu Yo hk Du WI (k3 _ c2) (by rw[Du,xN,Qf]) (λ_=>k5 rfl) (λhf=>by cases hf)
 | false=>
  refine xL (r:=[]) (k1.less (Ix _ _)) k7 k8 Zu Yo hk Du WI (k3 _ c2) (by rw[Du,xN,Qf]) (λhf=>by cases hf) (λ_=>⟨rfl,λj x hx=>?_⟩);have Ya:=(Dg.1 hx).1;have hu:C'.toList[j]?=some (C'.toList[j]'(by omega)):=C6 (by omega);exact⟨_,hu,k6 j _ x hu hx⟩
theorem Yyn (h:Rel P B io w a.tmps s U F fl) {t e:TypeId} {l c:Operand} {n:Nat} {z:List V} (ho:o.op=.makeSlice t l c) (Q6:Q0 P t=some e) (hz:Fw P e=some z) (hl:W1 (s.AQ l)=some n) (hc:W1 (s.AQ c)=some n)
  (PY:n*P.bytesOf e<=70368744177664) (h63:n<=9223372036854775807) (IM:z.length=Z5 P e) (W3:Z5 P e≠0) {id:Id} (Zu:U id=none) (Yo:id.1=s.ep) (hk:id.2 / 1024=k):
  Ci P o a w (Cj P B io w a.tmps s U fl k (.sl id 0 n) (s.A6 id ⟨false,true,true,e,List.replicate n (z.map Fa)⟩)):=by
 have ht:=Mj Q6;obtain⟨ti,zv,CV,F7,rfl,Hy⟩:=jL hz;simp only[Z5] at IM W3;have DC:zv.cells.size=P.cellsOf e:=by simpa using IM
 have QC:ti.size=P.cellsOf e:=by simp[Program.cellsOf,CV]
 have hbi:ti.bytes=P.bytesOf e:=by simp[Program.bytesOf,CV]
 obtain⟨kl,hl⟩:=VO (h.AQ l) hl;obtain⟨kc,hc⟩:=VO (h.AQ c) hc;have DT:(ti.bytes:Int)*(n:Int)<=281474976710656:=by
  rw[hbi];have h1:=Nat.mul_comm n (P.bytesOf e);have h2:((P.bytesOf e*n:Nat):Int)<=281474976710656:=by omega
  rwa [Int.natCast_mul] at h2
 have X2:=run_make (P:=P) w t e ti zv ht CV F7 kl kc n n (by omega) (Md _) DT (by omega);simp only[Iy] at X2;refine .value (v:=.slice (some ⟨w.heap.size,0,none⟩) n n) (w':=w.alloc (.cells (madeCells zv.cells (n*ti.size)) e)) (by simp[execOp,ho,hl,hc,X2]) ?_;have Qf:(madeCells zv.cells (n*ti.size)).toList=(List.replicate n zv.cells.toList).flatten:=by rw[QC,<-DC];exact xJ _ _
 exact xL (r:=[]) h rfl rfl Zu Yo hk (by simp) (by unfold maxLen;omega) (λq hq=>by rw[(LY.1 hq).2];simp[DC]) (by rw[size_madeCells];simp[QC]) (λ_=>by rw[Qf];exact B7.FB Hy n) (λhf=>by cases hf)
end
section
variable {P:Program} {B:Nat} {io:Nat->Prop} {w w':World} {a:Act} {tmps:Array Value} {s s':St} {U U':AZ} {F F':Id->List Nat} {fl fl':List Nat} {k:Nat} {o:Oper} {v:V}
theorem Y5e {u:Value} (h:DJ u=true):u.oneCell'=true:=by
 cases u<;>simp_all [DJ,Value.oneCell']
theorem Xan {id:Id} {b:Be} (h:s.heap id=some b):s.A6 id b=s:=by
 unfold St.A6
 congr 1
 funext x
 unfold Bm;split
 .rename_i e;rw[e,h]
 .rfl
theorem Xcu (h:Rel P B io w a.tmps s U F fl) {t e:TypeId} {x:Operand} {id:Id} {off n:Nat} {b:Be} {z:List V} (ho:o.op=.call {callee:=.builtin .clear,args:=#[x],argTypes:=#[t]}) (Q6:Q0 P t=some e) (hz:Fw P e=some z) (hx:s.AQ x=.sl id off n)
  (hb:s.heap id=some b) (Yz:b.own=true) (Xp:b.box=false) (Yp:off+n<=b.rows.length) (PX:b.el=e) (IM:z.length=Z5 P e) (W3:Z5 P e≠0):
  Ci P o a w (Cj P B io w a.tmps s U fl k (.AX []) (s.A6 id {b with rows:=b.rows.take off++List.replicate n (z.map Fa)++b.rows.drop (off+n)})):=by
 have ht:=Mj Q6;obtain⟨ti,zv,CV,F7,rfl,Hy⟩:=jL hz;simp only[Z5] at IM W3;have DC:zv.cells.size=P.cellsOf e:=by simpa using IM
 have EC:=h.AQ x;rw[hx] at EC;generalize hq:a.eval x=q at EC;have X4:n=0->(∃A c,q=.slice A 0 c)->Ci P o a w (Cj P B io w a.tmps s U fl k (.AX []) (s.A6 id {b with rows:=b.rows.take off++List.replicate n (zv.cells.toList.map V.lit |>.map Fa)++b.rows.drop (off+n)})):=by
  rintro rfl ⟨A,c,rfl⟩;have WV:({b with rows:=b.rows.take off++List.replicate 0 (zv.cells.toList.map V.lit |>.map Fa)++b.rows.drop (off+0)}:Be)=b:=by simp
  rw[WV,Xan hb];refine .value (v:=.tuple #[]) (w':=w) ?_ (.same h (.AX (by simp) (λk v x hv=>by simp at hv)));cases A<;>simp[execOp,ho,resolve,invoke,builtin,hq,Builtin.clear_,run_underlying ht]
 cases EC with
 | @sle _ A _ hU=>exact X4 rfl ⟨A,0,rfl⟩
 | @sl _ g o0 c sz _ _ hU hoc=>
  by_cases hn:n=0
  .subst hn;exact X4 rfl ⟨_,_,rfl⟩
  have hB:=h.heap id b hb;rw[hU] at hB;unfold Xw at hB;rw[Xp,Yz] at hB;rcases hB with⟨Y7,_⟩|⟨g',o',c',cur,Y7,hg,hl,hm,Ca,WJ,fp,CZ,h1,h2⟩
  .cases Y7
  .cases Y7
   subst PX
   let us:=(List.replicate n zv.cells.toList).flatten
   let ys:=(List.replicate n ((zv.cells.toList.map V.lit).map Fa)).flatten
   have WW:us=(List.replicate n zv.cells.toList).flatten:=rfl;have xO:ys=(List.replicate n ((zv.cells.toList.map V.lit).map Fa)).flatten:=rfl;have PE:us.length=n*P.cellsOf b.el:=by rw[WW,HU (sz:=P.cellsOf b.el) (λr hr=>by rw[(LY.1 hr).2];simp[DC])];simp
   have T4:ys.length=n*P.cellsOf b.el:=by rw[xO,HU (sz:=P.cellsOf b.el) (λr hr=>by rw[(LY.1 hr).2];simp[DC])];simp
   have hO0:∀{w:World},B7 w us ys []:=B7.FB Hy n;have xP:∀u∈us,u.oneCell'=true:=λu hu=>by
    obtain⟨r,hr,hu⟩:=iI.1 hu;rw[(LY.1 hr).2] at hu;exact Y5e (Hy u hu)
   have hrc:b.rows.length*P.cellsOf b.el<=c*P.cellsOf b.el:=N8 _ hl;have hon:(off+n)*P.cellsOf b.el<=b.rows.length*P.cellsOf b.el:=N8 _ Yp;rw[Nat.add_mul] at hon;have F9:=run_storeCells_at P g (o0+off*P.cellsOf b.el) b.el us 0 cur w hg (by omega) xP;simp only[Fv] at F9;generalize Xa:(cur.toList.take (o0+off*P.cellsOf b.el)++us++cur.toList.drop (o0+off*P.cellsOf b.el+us.length)).toArray=new at F9;have X2:(execOp a.eval o).run P w=.ok (.value (.tuple #[])) (w.setRow g new):=by
    have hzt:(Builtin.zeroCells zv.cells n).toList=us:=by rw[WW];exact xJ zv.cells n
    have hnn:n≠0:=hn;cases n with
    | zero=>exact absurd rfl hn
    | succ n=>simp[execOp,ho,resolve,invoke,builtin,hq,Builtin.clear_,run_underlying ht,zeroValue,typeInfo,CV,F7,hzt,F9]
   have Lc:new.size=cur.size:=by rw[<-Xa];simp;omega
   have Mq:∀k',k'≠g->(w.setRow g new).heap[k']?=w.heap[k']?:=λk' Qg=>setRow_other w g k' _ Qg;have NR:∀m,new[o0+m]?=if off*P.cellsOf b.el<=m/\m < off*P.cellsOf b.el+us.length then us[m - off*P.cellsOf b.el]? else cur[o0+m]?:=by
    intro m;rw[<-Xa];have:=NM (cur:=cur.toList) (n:=o0+off*P.cellsOf b.el) (vs:=us) (by simp;omega) (j:=o0+m);rw[iB,this];by_cases hc:off*P.cellsOf b.el<=m/\m < off*P.cellsOf b.el+us.length
    .rw[Ah (by omega),Ah hc];congr 1;omega
    .rw[Ai (by omega),Ai hc];simp
   have NQ:=HU Ca;have T5:(b.rows.take off++List.replicate n ((zv.cells.toList.map V.lit).map Fa)++b.rows.drop (off+n)).flatten=b.rows.flatten.take (off*P.cellsOf b.el)++ys++b.rows.flatten.drop (off*P.cellsOf b.el+ys.length):=by
    rw[List.flatten_append,List.flatten_append,wR off Ca,T4,<-Nat.add_mul,VS (off+n) Ca]
   have PS:∀r'∈b.rows.take off++List.replicate n ((zv.cells.toList.map V.lit).map Fa)++b.rows.drop (off+n),r'.length=P.cellsOf b.el:=λr' Cl=>by
    rcases BP.1 Cl with h4|h4
    .rcases BP.1 h4 with h4|h4
     .exact Ca r' (Gq h4)
     .rw[(LY.1 h4).2];simp[DC]
    .exact Ca r' (Gp h4)
   have PT:(b.rows.take off++List.replicate n ((zv.cells.toList.map V.lit).map Fa)++b.rows.drop (off+n)).length=b.rows.length:=by simp;omega
   have F5:(new.toList.drop o0).take (b.rows.length*P.cellsOf b.el)=((cur.toList.drop o0).take (b.rows.length*P.cellsOf b.el)).take (off*P.cellsOf b.el)++us++((cur.toList.drop o0).take (b.rows.length*P.cellsOf b.el)).drop (off*P.cellsOf b.el+us.length):=by
    apply V4;intro m;rw[NM (by simp;omega),Dr,Dr,D4,D4];have hm:=NR m;simp only[iD];rw[hm];by_cases hc:off*P.cellsOf b.el<=m/\m < off*P.cellsOf b.el+us.length
    .rw[Ah hc,Ah hc,Ah (by omega)]
    .rw[Ai hc,Ai hc]
   have IH:g ∉ fp:=by
    have:=h.once id b hb Yz;rw[CZ] at this;exact (EY.1 this).1
   let b':Be:={b with rows:=b.rows.take off++List.replicate n ((zv.cells.toList.map V.lit).map Fa)++b.rows.drop (off+n)}
   have Wf:AK s U g:=⟨id,b,_,_,_,hb,Yz,hU⟩;have E0:∀{u:Value} {z:V},Rd w (AI s U w) u z->Rd (w.setRow g new) (AI (s.A6 id b') U (w.setRow g new)) u z:=λhu=>
    hu.mono (λg' Yi _=>Mq g' (λe=>Yi.1 (e▸Wf))) (λg' Yi=>⟨λht=>Yi.1 ((jC (b':=b') hb rfl g').1 ht),by simpa using Yi.2⟩)
   have fin:∀(Fs:List Nat),(∃r',Fs=g::r')->(∀k'∈Fs,k'∈F id)->Fs.Nodup->
     Xw P (w.setRow g new) (AI (s.A6 id b') U (w.setRow g new)) U (some (.Bn g o0 c (P.cellsOf b.el))) Fs b'->
     Ci P o a w (Cj P B io w a.tmps s U fl k (.AX []) (s.A6 id b')):=by
    intro Fs PQ Hz Cz wU;obtain⟨w1,w2,w3⟩:=h.write (b':=b') (Fs:=Fs) (fl':=fl) (new:=new) hb Yz Yz hU hg ⟨fp,CZ⟩ PQ (λk hk=>.inl (Hz k hk)) Cz (λ_ h=>h) h.AU (λk' Qg=>h.A8 id b hb Yz k' (Hz k' Qg)) (by omega) wU;exact .value X2 ⟨rfl,rfl,w2,U,Bm F id Fs,w1,.AX (by simp) (λk v x hv=>by simp at hv),λ_ _ h=>h,λ_ h=>.inl h⟩
   show Ci P o a w (Cj P B io w a.tmps s U fl k (.AX []) (s.A6 id b'));cases Qf:b.cl with
   | true=>
    have wV:=(h1 Qf).frame (w':=w.setRow g new) (λk' Qg=>Mq k' (λe=>IH (e▸Qg)));obtain⟨f',hO,NS,NT⟩:=wV.put (hO0 (w:=w.setRow g new)) (off*P.cellsOf b.el);rw[<-F5,show us.length=ys.length by omega,<-T5] at hO;have Cz:=h.once id b hb Yz;rw[CZ] at Cz;have WX:∀k'∈f',k'∈fp:=λk' Qg=>by
     rcases NS k' Qg with h4|h4
     .exact h4
     .simp at h4
    refine fin (g::f') ⟨f',rfl⟩ (λk' Qg=>?_) (EY.2 ⟨λhf=>IH (WX g hf),NT (by simpa using (EY.1 Cz).2)⟩) (.Cu (fp:=f') Xp Yz rfl (setRow_heap w g cur new _ _ hg) (by show (b'.rows).length<=c;simp only[b'];rw[PT];exact hl) hm PS (by rw[Lc];exact WJ) rfl (λ_=>by simp only[b'];rw[PT];exact hO) (λhf=>by simp[b',Qf] at hf));rw[CZ];rcases BX.1 Qg with rfl|Qg
    .exact BI
    .exact Cg _ (WX k' Qg)
   | false=>
    refine fin [g] ⟨[],rfl⟩ (λk' Qg=>by rw[List.mem_singleton.1 Qg,CZ];exact BI) (by simp) (.Cu (fp:=[]) Xp Yz rfl (setRow_heap w g cur new _ _ hg) (by show (b'.rows).length<=c;simp only[b'];rw[PT];exact hl) hm PS (by rw[Lc];exact WJ) rfl (λhf=>by simp[b',Qf] at hf) (λ_=>⟨rfl,λm z H0=>?_⟩));simp only[b'] at H0;rw[T5,NM (by rw[NQ];omega)] at H0;rw[NR m,show us.length=ys.length by omega];split at H0
    .rename_i hc
     rw[Ah hc];obtain⟨u,hu,hr⟩:=(hO0 (w:=w)).rd (ok:=AI s U w) (λg hg=>by simp at hg) H0;exact⟨u,hu,E0 hr⟩
    .rename_i hc
     rw[Ai hc];obtain⟨u,hu,hr⟩:=(h2 Qf).2 m z H0;exact⟨u,hu,E0 hr⟩
theorem Y2y:∀{rows:List (List V)} {bs:List UInt8},NH rows=some bs->∃ns:List Int,rows=ns.map (λn=>[V.lit (.int .u8 n)])/\bs=ns.map λn=>UInt8.ofNat n.toNat:=by
 intro rows
 induction rows with
 | nil=>intro bs h;simp only[NH,Ht,Ty,AF] at h;subst h;exact⟨[],rfl,rfl⟩
 | cons r rows ih=>
  intro bs h;simp only[NH,CD] at h;split at h
  .rename_i n
   simp only[Ty] at h;obtain⟨bs',hb,rfl⟩:=AM.1 h;obtain⟨ns,h1,h2⟩:=ih hb;exact⟨n::ns,by rw[h1];rfl,by rw[h2];rfl⟩
  .simp[Ty] at h
theorem Xad (ns:List Int) (s:ByteArray):ns.foldl (λr n=>r.push (UInt8.ofNat n.toNat)) s=⟨s.data++(ns.map λn=>UInt8.ofNat n.toNat).toArray⟩:=by
 induction ns generalizing s with
 | nil=>simp
 | cons n ns ih=>
  rw[HO,ih]
  congr 1
  apply VF;simp[ByteArray.push]
theorem Xa5 (h:Rel P B io w a.tmps s U F fl) {src dst e:TypeId} {x:Operand} {rows:List (List V)} {bs:List UInt8} (ho:o.op=.convert src dst x) (hs:P.underlying src=some (.slice e)) (hd:P.underlying dst=some .string) (he:P.underlying e=some (.int .u8))
  (hr:s.rowsOf (s.AQ x)=some rows) (hb:NH rows=some bs):Ci P o a w (Cj P B io w a.tmps s U fl k (.lit (.string ⟨bs.toArray⟩)) s):=by
 obtain⟨ns,Wu,Lg⟩:=Y2y hb;have X2:(Conv.bytesToString (a.eval x)).run P w=.ok (.string ⟨bs.toArray⟩) w:=by
  have hu:=h.AQ x;generalize a.eval x=u at hu;rcases wX h hu hr (sz:=1) (λq hq=>by
   rw[Wu] at hq;obtain⟨n,_,rfl⟩:=D7.1 hq;rfl) with⟨rfl,A,c,rfl⟩|⟨us,hC⟩
  .have:ns=[]:=by cases ns with|nil=>rfl|cons n ns=>simp at Wu
   subst this;simp only[Ht] at Lg;subst Lg;cases A with
   | none=>simp[Conv.bytesToString];rfl
   | some ad=>
    have:=run_bytesToString (P:=P) w ad 0 c [] (by simp[loadCells,loadCellsFrom]);rw[iN] at this;exact this
  .obtain⟨ad,c,rfl,hc⟩:=hC.val
   have xQ:us=ns.map (Value.int .u8):=by
    apply V4;intro j;have Yp:us.length=ns.length:=by have:=hC.len;rw[Wu] at this;simpa using this
    by_cases hj:j < ns.length
    .have h1:rows.flatten[j]?=some (V.lit (.int .u8 ns[j])):=by
      rw[Wu];have:=T0 (sz:=1) (rows:=ns.map λn=>[V.lit (.int .u8 n)]) (i:=j) (j:=0) (x:=V.lit (.int .u8 ns[j])) (λr hr=>by obtain⟨n,_,rfl⟩:=D7.1 hr;rfl) (by rw[D5,C6 hj];rfl) rfl;simpa using this
     have xR:∃v,us[j]?=some v/\Rd w (AI s U w) v (V.lit (.int .u8 ns[j])):=by
      cases Qf:Fx rows with
      | true=>exact (hC.own Qf).rd (λg hg=>by simp at hg) h1
      | false=>exact (hC.see Qf).2 j _ h1
     obtain⟨v,hv,hr⟩:=xR;cases hr;rw[hv,D5,C6 hj];rfl
    .rw[Tr (by omega),Tr (by simp;omega)]
   have hld:(loadCells ad rows.length).run P w=.ok (ns.map (Value.int .u8)).toArray w:=by
    have:=run_loadCells_list (P:=P) (w:=w) ad us (λj u hj=>hc j u hj);rw[xQ] at this;rw[Wu];simpa using this
   have:=run_bytesToString (P:=P) w ad rows.length c ns hld;rw[this,Xad,Lg];simp
 refine .value (v:=.string ⟨bs.toArray⟩) (w':=w) ?_ (.same h (.lit rfl));have QD:∃A n c,a.eval x=.slice A n c:=by
  have hu:=h.AQ x;generalize a.eval x=u at hu;rcases wX h hu hr (sz:=1) (λq hq=>by
   rw[Wu] at hq;obtain⟨n,_,rfl⟩:=D7.1 hq;rfl) with⟨_,A,c,rfl⟩|⟨us,hC⟩
  .exact⟨_,_,_,rfl⟩
  .obtain⟨ad,c,rfl,_⟩:=hC.val;exact⟨_,_,_,rfl⟩
 obtain⟨A,n,c,hq⟩:=QD;rw[hq] at X2;simp[execOp,ho,hq,convert,run_underlying hs,run_underlying hd,run_underlying he,X2]
def Oa:BinOp->Bool|.neq=>true|_=>false
theorem jN (h:Rel P B io w a.tmps s U F fl) {op:BinOp} {t yt e:TypeId} {x y z:Operand} {rows:List (List V)} {r:List V} (ho:o.op=.binOp op t x y yt) (Q6:Q0 P t=some e) (WY:op=.eql\/op=.neq)
  (hz:(z=x/\s.AQ y=.lit (.slice none 0 0))\/(z=y/\s.AQ x=.lit (.slice none 0 0))) (hr:s.rowsOf (s.AQ z)=some (r::rows)) (he:v=.lit (.bool (Oa op))):
  Ci P o a w (Cj P B io w a.tmps s U fl k v s):=by
 have ht:=Mj Q6;have F7:∃ad n c,a.eval z=.slice (some ad) n c:=by
  have hR:=h.rowsOf (ok':=λg=>g < w.heap.size) (h.AQ z) hr (λg hg=>hg.2) (λ_ _ _ _ _ _ _ _ _ _ _ _ hg _=>hg);generalize a.eval z=q at hR;cases hR with
  | tr=>exact⟨_,_,_,rfl⟩
 obtain⟨ad,n,c,F7⟩:=F7;have IL:∀{y:Operand},s.AQ y=.lit (.slice none 0 0)->a.eval y=.slice none 0 0:=λ{y} hy=>by
  have:=h.AQ y;rw[hy] at this;generalize a.eval y=q at this;cases this;rfl
 subst he;refine .value (v:=.bool (Oa op)) (w':=w) ?_ (.same h (.lit rfl));have g1:∀d (u v:Value),(u=.slice (some ad) n c/\v=.slice none 0 0)\/(u=.slice none 0 0/\v=.slice (some ad) n c)->(Op.equalIn (d+1) t u v).run P w=.ok false w:=by
  rintro d u v (⟨rfl,rfl⟩|⟨rfl,rfl⟩)<;>simp[Op.equalIn,run_underlying ht]
 have g2:∀(u v:Value),(u=.slice (some ad) n c/\v=.slice none 0 0)\/(u=.slice none 0 0/\v=.slice (some ad) n c)->(Op.equal t u v).run P w=.ok false w:=λu v h=>g1 9999 u v h;have g3:∀(u v:Value) (x y:Operand),(u=.slice (some ad) n c/\v=.slice none 0 0)\/(u=.slice none 0 0/\v=.slice (some ad) n c)->(eqGuard op t x y u v).run P w=.ok () w:=by
  rintro u v x y (⟨rfl,rfl⟩|⟨rfl,rfl⟩)<;>rcases WY with rfl|rfl<;>simp[eqGuard]
 have g4:∀(u v:Value),(u=.slice (some ad) n c/\v=.slice none 0 0)\/(u=.slice none 0 0/\v=.slice (some ad) n c)->(binOp op t u v).run P w=.ok (.bool (Oa op)) w:=by
  intro u v h;have:=g2 u v h;rcases h with⟨rfl,rfl⟩|⟨rfl,rfl⟩<;>rcases WY with rfl|rfl<;>simp[binOp,this,Oa]
 rcases hz with⟨rfl,hy⟩|⟨rfl,hx⟩
 .have hh:(a.eval z=.slice (some ad) n c/\a.eval y=.slice none 0 0)\/(a.eval z=.slice none 0 0/\a.eval y=.slice (some ad) n c):=.inl ⟨F7,IL hy⟩
  simp only[execOp,ho,Sem.run_bind,Sem.run_pure,Result.andThen_ok,g3 _ _ _ _ hh,g4 _ _ hh]
 .have hh:(a.eval x=.slice (some ad) n c/\a.eval z=.slice none 0 0)\/(a.eval x=.slice none 0 0/\a.eval z=.slice (some ad) n c):=.inr ⟨IL hx,F7⟩
  simp only[execOp,ho,Sem.run_bind,Sem.run_pure,Result.andThen_ok,g3 _ _ _ _ hh,g4 _ _ hh]
theorem Yso (h:Rel P B io w a.tmps s U F fl) {op:BinOp} {t yt:TypeId} {x y:Operand} {id:Id} {i off:Nat} (ho:o.op=.binOp op t x y yt) (ht:P7 P t=true) (WY:op=.eql\/op=.neq)
  (hx:s.AQ x=.ptr id i off) (hy:s.AQ y=.lit (.pointer none)) (he:v=.lit (.bool (Oa op))):Ci P o a w (Cj P B io w a.tmps s U fl k v s):=by
 obtain⟨el,ht⟩:∃el,P.underlying t=some (.pointer el):=by
  unfold P7 at ht;split at ht
  .rename_i el hu;exact⟨el,hu⟩
  .cases ht
 obtain⟨ad,WZ⟩:∃ad,a.eval x=.pointer (some ad):=by
  have:=h.AQ x;rw[hx] at this;generalize a.eval x=u at this ⊢;generalize hq:V.ptr id i off=q at this;cases this<;>cases hq;exact⟨_,rfl⟩
 have hyv:a.eval y=.pointer none:=by
  have:=h.AQ y;rw[hy] at this;generalize a.eval y=q at this;cases this;rfl
 subst he;refine .value (v:=.bool (Oa op)) (w':=w) ?_ (.same h (.lit rfl));have g1:∀d,(Op.equalIn (d+1) t (.pointer (some ad)) (.pointer none)).run P w=.ok false w:=λd=>by simp[Op.equalIn,run_underlying ht]
 have g2:(Op.equal t (.pointer (some ad)) (.pointer none)).run P w=.ok false w:=g1 9999;have g3:(eqGuard op t x y (.pointer (some ad)) (.pointer none)).run P w=.ok () w:=by rcases WY with rfl|rfl<;>simp[eqGuard]
 have g4:(binOp op t (.pointer (some ad)) (.pointer none)).run P w=.ok (.bool (Oa op)) w:=by rcases WY with rfl|rfl<;>simp[binOp,g2,Oa]
 simp only[execOp,ho,WZ,hyv,Sem.run_bind,Sem.run_pure,Result.andThen_ok,g3,g4]
end
def XA (P:Program) (o:Oper) (a:Act) (w:World) (CF:Value->World->Prop):Prop:=∀(K:Act->World->Prop) (Q:Exit->Act->World->Prop),(∀v w',CF v w'->K (a.put o.dst v) w')->o.wp P a w K Q
theorem Ci.Cs {P:Program} {o:Oper} {a:Act} {w:World} {CF:Value->World->Prop} (h:Ci P o a w CF):XA P o a w CF:=λ_ _ hK=>h.wp hK
theorem jO {α:Type} {a:Array α} {x:α} (h:a.toList=[x]):a=#[x]:=by apply VF;simpa using h
theorem Ynm {α:Type} {a:Array α} {x y:α} (h:a.toList=[x,y]):a=#[x,y]:=by apply VF;simpa using h
def jP (P:Program) (B:Nat) (io:Nat->Prop) (w:World) (tmps:Array Value) (s:St) (U:AZ) (fl:List Nat) (k:Nat) (v:V) (s':St) (M:X9) (C:Kr):Prop:=
 ∀(g:FuncId) (args:List V) (us:Array Value),us.size=args.length->(∀(j:Nat) (u:Value) (x:V),us[j]?=some u->args[j]?=some x->En w (AI s U w) U u x)->KV P M C s k g args=some (v,s')->
  ∃fn,P.funcs[g]?=some fn/\fn.body.isSome=true/\(fn.name == "runtime.NumGoroutine")=false/\Calls P g us w (λe w'=>∃val,e=.returned val/\Cj P B io w tmps s U fl k v s' val w')
section
variable {P:Program} {B:Nat} {io:Nat->Prop} {w w':World} {a:Act} {s s':St} {U:AZ} {F:Id->List Nat} {fl:List Nat} {k:Nat} {o:Oper} {v:V} {M:X9} {C:Kr}
theorem Xfj (h:Rel P B io w a.tmps s U F fl) {f:Operand} {IN:Array Operand} {ts:Array TypeId} {g:FuncId} {Bv:List V} (ho:o.op=.call {callee:=.value f,args:=IN,argTypes:=ts}) (hf:s.AQ f=.fn g Bv)
  (he:KV P M C s k g (IN.toList.map s.AQ++Bv)=some (v,s')) (XB:jP P B io w a.tmps s U fl k v s' M C):XA P o a w (Cj P B io w a.tmps s U fl k v s'):=by
 have xS:=h.AQ f;rw[hf] at xS;generalize hq:a.eval f=q at xS;have key:∀(vs:Array Value),q=.func (.func g) #[] vs->vs.size=Bv.length->(∀(j:Nat) (u:Value) (x:V),vs[j]?=some u->Bv[j]?=some x->En w (AI s U w) U u x)->XA P o a w (Cj P B io w a.tmps s U fl k v s'):=by
  rintro vs rfl hl hr;obtain⟨fn,h1,h2,h3,h4⟩:=XB g _ (IN.map a.eval++vs) (by simp[hl]) (λj u x hu hx=>by
   by_cases hj:j < IN.size
   .rw[iA (by simpa using hj)] at hu
    rw[EW (by simpa using hj)] at hx;simp only[Array.getElem?_map,D5,AM] at hu hx;obtain⟨y,hy,rfl⟩:=hu;obtain⟨z,hz,rfl⟩:=hx;have:y=z:=by
     have h1:IN.toList[j]?=some y:=by simpa using hy
     rw[h1] at hz;injection hz
    subst this;exact h.AQ y
   .rw[Array.getElem?_append_right (by simp;omega)] at hu
    rw[Fq (by simp;omega)] at hx;simp only[Array.size_map,GL,Array.length_toList] at hu hx;exact hr _ u x hu hx) he
  have hb:fn.body.isNone=false:=by cases wT:fn.body with
   | none=>rw[wT] at h2;cases h2
   | some c=>rfl
  have X2:(execOp a.eval o).run P w=.ok (.enter g (IN.map a.eval++vs)) w:=by
   have h3':¬fn.name = "runtime.NumGoroutine" := by simpa using h3
   have Y1:¬fn.body=none:=λhh=>by rw[hh] at h2;cases h2
   simp[execOp,ho,resolve,hq,Deferred.ofValue,invoke,callFunc,h1,h3',Y1]
  intro K Q hK;unfold Oper.wp;rw[X2,Oper.upon_enter];refine h4.mono ?_;rintro e w'' ⟨val,rfl,hp⟩;exact hK _ _ hp
 cases xS with
 | fn hl hr=>exact key _ rfl hl hr
theorem Xfe (h:Rel P B io w a.tmps s U F fl) (he:I6 P M C s k o=some (v,s')) (Xa:∀id:Id,id.1=s.ep->id.2 / 1024=k->U id=none) (XB:jP P B io w a.tmps s U fl k v s' M C):
  XA P o a w (Cj P B io w a.tmps s U fl k v s'):=by
 have Zu:U (s.ep,1024*k)=none:=Xa _ rfl (by simp);have XC:(s.ep,1024*k).2 / 1024=k:=by simp
 have sc:∀{x:Option V},x=Qj P s.AQ o->(x.map λy=>(y,s))=some (v,s')->XA P o a w (Cj P B io w a.tmps s U fl k v s'):=by
  rintro _ rfl hx;obtain⟨y,hy,he⟩:=AM.1 hx;simp only[A7] at he;obtain⟨rfl,rfl⟩:=he;exact (Y8h h hy).Cs
 unfold I6 Xn at he;simp only at he;split at he
 .rename_i x ho
  split at he
  .cases he
  .simp only[AF,A7] at he
   obtain⟨hv,rfl⟩:=he;exact (Y3k h (.inl ho) hv).Cs
 .rename_i x ho
  split at he
  .cases he
  .simp only[AF,A7] at he
   obtain⟨hv,rfl⟩:=he;exact (Y3k h (.inr ho) hv).Cs
 .rename_i c x y ho
  split at he
  .rename_i t hc
   simp only[AF,A7] at he;obtain⟨hv,rfl⟩:=he;exact (Xfb h ho hc hv).Cs
  .cases he
 .rename_i t i ho
  split at he
  .rename_i vs ht
   obtain⟨y,hy,he⟩:=AM.1 he;simp only[A7] at he;obtain⟨rfl,rfl⟩:=he;exact (Y58 h ho ht hy).Cs
  .cases he
 .rename_i x ho
  split at he
  .rename_i i j n hx
   simp only[AF,A7] at he;obtain⟨rfl,rfl⟩:=he;exact (wI h ho hx (.inl ⟨_,_,_,rfl⟩)).Cs
  .rename_i b r n hx
   simp only[AF,A7] at he;obtain⟨rfl,rfl⟩:=he;exact (wI h ho hx (.inr (.inl ⟨_,_,_,rfl⟩))).Cs
  .rename_i f cs hx
   simp only[AF,A7] at he;obtain⟨rfl,rfl⟩:=he;exact (wI h ho hx (.inr (.inr ⟨_,_,rfl⟩))).Cs
  .cases he
 .rename_i t ho
  obtain⟨z,hz,he⟩:=AM.1 he;simp only[A7] at he;obtain⟨rfl,rfl⟩:=he;exact (Xa2 h ho hz Zu rfl XC).Cs
 .rename_i t x ho
  obtain⟨cs,BQ,he⟩:=AA.1 he;split at he
  .simp only[AF,A7] at he
   obtain⟨rfl,rfl⟩:=he;exact (PO h ho BQ Zu rfl XC).Cs
  .cases he
 .rename_i t parts ho
  obtain⟨z,hz,he⟩:=AA.1 he;split at he
  .rename_i fs hu
   split at he
   .cases he
   .rename_i Je
    obtain⟨cs,BQ,he⟩:=AM.1 he;simp only[A7] at he;obtain⟨rfl,rfl⟩:=he;exact (Xa1 h ho hz hu (by cases hh:fs.toList.all (λf=>(P.info? f.type).isSome) with|true=>rfl|false=>exact absurd hh Je) BQ).Cs
  .cases he
 .rename_i t n parts ho
  obtain⟨e,Q6,he⟩:=AA.1 he;obtain⟨z,hz,he⟩:=AA.1 he;split at he
  .cases he
  .rename_i hc
   obtain⟨cs,BQ,he⟩:=AA.1 he;obtain⟨⟨rows,c,s1⟩,hs,he⟩:=AM.1 he;simp only[A7] at he;obtain⟨rfl,rfl⟩:=he;have jK:Z5 P e≠0:=λhh=>hc (.inl hh);have FA:n*Z5 P e<=1048576:=by
    rcases Mc 1048576 (n*Z5 P e) with hh|hh
    .exact absurd (.inr (.inl hh)) hc
    .exact hh
   have xT:Mg P e=true:=by
    cases hh:Mg P e with
    | true=>rfl
    | false=>exact absurd (.inr (.inr hh)) hc
   exact (Yts h ho Q6 hz jK FA xT BQ hs Zu rfl XC).Cs
 .rename_i t x ho
  split at he
  .rename_i i j n hx
   obtain⟨b,hb,he⟩:=AA.1 he;obtain⟨row,Xj,he⟩:=AA.1 he;split at he
   .rename_i Yp
    obtain⟨y,hy,he⟩:=AM.1 he;simp only[A7] at he;obtain⟨rfl,rfl⟩:=he;exact (Y3o h ho (.inl ⟨i,j,n,b,row,hx,hb,Xj,Yp,hy⟩)).Cs
   .cases he
  .rename_i sh row n hx
   split at he
   .rename_i Yp
    obtain⟨y,hy,he⟩:=AM.1 he;simp only[A7] at he;obtain⟨rfl,rfl⟩:=he;exact (Y3o h ho (.inr ⟨sh,row,n,hx,Yp,hy⟩)).Cs
   .cases he
  .cases he
 .rename_i t x y ho
  split at he
  .rename_i i j n hx
   obtain⟨b,hb,he⟩:=AA.1 he;obtain⟨row,Xj,he⟩:=AA.1 he;obtain⟨cs,BQ,he⟩:=AA.1 he;split at he
   .rename_i hc
    obtain⟨h1,h2,h3,h4⟩:=hc;split at he
    .rename_i Xp
     simp only[AF,A7] at he;obtain⟨rfl,rfl⟩:=he;exact (Y2a h ho hx hb Xj BQ h1 Xp h2 h3 h4).Cs
    .rename_i Xp
     obtain⟨⟨ys,c,s1⟩,hs,he⟩:=AA.1 he;simp only at he;split at he
     .rename_i b1 CG
      simp only[AF,A7] at he;obtain⟨rfl,rfl⟩:=he;exact (Y2t h ho hx hb Xj BQ h1 (by simpa using Xp) h2 h3 h4 hs CG).Cs
     .cases he
   .cases he
  .cases he
 .rename_i t x f ho
  obtain⟨off,XD,he⟩:=AA.1 he;split at he
  .rename_i i j n hx
   simp only[AF,A7] at he;obtain⟨rfl,rfl⟩:=he;exact (Yft h ho XD (.inl ⟨_,_,_,hx,rfl⟩)).Cs
  .rename_i b r n hx
   simp only[AF,A7] at he;obtain⟨rfl,rfl⟩:=he;exact (Yft h ho XD (.inr ⟨_,_,_,hx,rfl⟩)).Cs
  .cases he
 .rename_i t x ix ho
  obtain⟨e,Q6,he⟩:=AA.1 he;split at he
  .cases he
  .rename_i hz
   obtain⟨n,hn,he⟩:=AA.1 he;split at he
   .rename_i i off len hx
    split at he
    .rename_i Ya
     obtain⟨b,hb,he⟩:=AA.1 he;obtain⟨row,Xj,he⟩:=AA.1 he;split at he
     .rename_i Du
      simp only[AF,A7] at he;obtain⟨rfl,rfl⟩:=he;exact (wJ h ho Q6 hn (.inl ⟨i,off,len,b,row,hx,Ya,hb,Xj,Du,rfl⟩) hz).Cs
     .cases he
    .cases he
   .rename_i rows hx
    obtain⟨row,Xj,he⟩:=AA.1 he;split at he
    .rename_i Du
     simp only[AF,A7] at he;obtain⟨rfl,rfl⟩:=he;exact (wJ h ho Q6 hn (.inr ⟨true,rows,row,.inl hx,Xj,Du,rfl⟩) hz).Cs
    .cases he
   .rename_i rows hx
    obtain⟨row,Xj,he⟩:=AA.1 he;split at he
    .rename_i Du
     simp only[AF,A7] at he;obtain⟨rfl,rfl⟩:=he;exact (wJ h ho Q6 hn (.inr ⟨false,rows,row,.inr hx,Xj,Du,rfl⟩) hz).Cs
    .cases he
   .cases he
 .rename_i t x lo hi ho
  split at he
  .obtain⟨y,hy,he⟩:=AM.1 he
   simp only[A7] at he;obtain⟨rfl,rfl⟩:=he;exact (xG h ho hy).Cs
  .obtain⟨y,hy,he⟩:=AM.1 he
   simp only[A7] at he;obtain⟨rfl,rfl⟩:=he;exact (xG h ho hy).Cs
  .obtain⟨y,hy,he⟩:=AM.1 he
   simp only[A7] at he;obtain⟨rfl,rfl⟩:=he;exact (xG h ho hy).Cs
  .exact sc rfl he
 .rename_i t l c ho
  obtain⟨e,Q6,he⟩:=AA.1 he;obtain⟨z,hz,he⟩:=AA.1 he;obtain⟨n,hn,he⟩:=AA.1 he;obtain⟨m,hm,he⟩:=AA.1 he;split at he
  .rename_i hc
   obtain⟨rfl,h2,h3,h4,h5⟩:=hc;simp only[AF,A7] at he;obtain⟨rfl,rfl⟩:=he;exact (Yyn h ho Q6 hz hn hm h2 h3 h4 h5 Zu rfl XC).Cs
  .cases he
 .rename_i f first Bv ho
  split at he
  .rename_i hf
   simp only[AF,A7] at he;obtain⟨rfl,rfl⟩:=he;have:first=#[]:=Array.eq_empty_of_size_eq_zero hf
   subst this;exact (Y0t h ho rfl).Cs
  .cases he
 .rename_i src dst x ho
  split at he
  .exact sc rfl he
  .split at he
   .rename_i e hs hd
    split at he
    .rename_i hu
     obtain⟨rows,hr,he⟩:=AA.1 he;obtain⟨bs,hb,he⟩:=AM.1 he;simp only[A7] at he;obtain⟨rfl,rfl⟩:=he;exact (Xa5 h ho hs hd hu hr hb).Cs
    .cases he
   .cases he
   .cases he
 .rename_i c ho
  obtain⟨callee,IN,ts⟩:=c;simp only at he;split at he
  .split at he
   .rename_i b x t t' ha ht
    split at he
    .rename_i htt
     subst htt;have:=Ynm ha;subst this;have:=Ynm ht;subst this;exact (Y9i h ho he Zu rfl XC).Cs
    .cases he
   .cases he
  .split at he
   .rename_i x t ha ht
    have:=jO ha;subst this;have:=jO ht;subst this;split at he
    .rename_i i off n hx
     split at he
     .rename_i Q6
      simp only[AF,A7] at he;obtain⟨rfl,rfl⟩:=he;exact (wL h ho Q6 (.inl ⟨i,off,hx⟩) rfl).Cs
     .cases he
    .rename_i rows hx
     split at he
     .rename_i Q6
      simp only[AF,A7] at he;obtain⟨rfl,rfl⟩:=he;exact (wL h ho Q6 (.inr ⟨rows,.inl hx,rfl⟩) rfl).Cs
     .cases he
    .rename_i rows hx
     split at he
     .rename_i Q6
      simp only[AF,A7] at he;obtain⟨rfl,rfl⟩:=he;exact (wL h ho Q6 (.inr ⟨rows,.inr hx,rfl⟩) rfl).Cs
     .cases he
    .exact sc rfl he
   .cases he
  .split at he
   .rename_i x t ha ht
    have:=jO ha;subst this;have:=jO ht;subst this;obtain⟨e,Q6,he⟩:=AA.1 he;obtain⟨z,hz,he⟩:=AA.1 he;split at he
    .rename_i i off n hx
     obtain⟨b,hb,he⟩:=AA.1 he;split at he
     .rename_i hc
      obtain⟨h1,h2,h3,h4,h5,h6⟩:=hc;simp only[AF,A7] at he;obtain⟨rfl,rfl⟩:=he;exact (Xcu h ho Q6 hz hx hb h1 h2 h3 h4 h5 h6).Cs
     .cases he
    .cases he
   .cases he
  .exact sc rfl he
  .split at he
   .rename_i f g Bv hf
    exact Xfj h ho hf he XB
   .cases he
  .cases he
 .rename_i op t x y yt ho
  split at he
  .exact sc rfl he
  .exact sc rfl he
  .exact sc rfl he
  .rename_i id i off hx hy
   split at he
   .rename_i ht
    split at he
    .simp only[AF,A7] at he
     obtain⟨rfl,rfl⟩:=he;exact (Yso h ho ht (.inl rfl) hx hy rfl).Cs
    .simp only[AF,A7] at he
     obtain⟨rfl,rfl⟩:=he;exact (Yso h ho ht (.inr rfl) hx hy rfl).Cs
    .cases he
   .cases he
  .rename_i z1 z2 hx hy
   split at he
   .cases he
   .rename_i Q6
    obtain⟨e,Q6⟩:=Ft.1 (show (Q0 P t).isSome=true by cases hh:(Q0 P t).isSome with|true=>rfl|false=>exact absurd hh Q6);split at he
    .rename_i r rows hr
     simp only[AF,A7] at he;obtain⟨rfl,rfl⟩:=he;exact (jN h ho Q6 (.inl rfl) (.inl ⟨rfl,by assumption⟩) hr rfl).Cs
    .rename_i r rows hr
     simp only[AF,A7] at he;obtain⟨rfl,rfl⟩:=he;exact (jN h ho Q6 (.inr rfl) (.inl ⟨rfl,by assumption⟩) hr rfl).Cs
    .cases he
  .rename_i z1 z2 hx hy
   split at he
   .cases he
   .rename_i Q6
    obtain⟨e,Q6⟩:=Ft.1 (show (Q0 P t).isSome=true by cases hh:(Q0 P t).isSome with|true=>rfl|false=>exact absurd hh Q6);split at he
    .rename_i r rows hr
     simp only[AF,A7] at he;obtain⟨rfl,rfl⟩:=he;exact (jN h ho Q6 (.inl rfl) (.inr ⟨rfl,by assumption⟩) hr rfl).Cs
    .rename_i r rows hr
     simp only[AF,A7] at he;obtain⟨rfl,rfl⟩:=he;exact (jN h ho Q6 (.inr rfl) (.inr ⟨rfl,by assumption⟩) hr rfl).Cs
    .cases he
  .cases he
 .exact sc rfl he
end
theorem Rd.C8 {w:World} {ok ok':Nat->Prop} {v:Value} {x:V} (h:Rd w ok v x) (Yl:∀g,ok g->ok' g):Rd w ok' v x:=h.mono (λ_ _ _=>rfl) Yl
theorem En.ext {w:World} {ok ok':Nat->Prop} {U U':AZ} {v:Value} {x:V} (h:En w ok U v x) (Yl:∀g,ok g->ok' g) (hU:∀id i,U id=some i->U' id=some i):En w ok' U' v x:=by
 induction h with
 | undef=>exact .undef
 | lit h=>exact .lit h
 | tr h=>exact .tr (h.C8 Yl)
 | vw h=>exact .vw (h.C8 Yl)
 | rp h=>exact .rp (h.C8 Yl)
 | ptr h=>exact .ptr (hU _ _ h)
 | sl h hc=>exact .sl (hU _ _ h) hc
 | sle h=>
  obtain⟨i,hi⟩:=Ft.1 h;exact .sle (by rw[hU _ _ hi];rfl)
 | fn hl hr ih=>exact .fn hl ih
 | agg hl hc hr ih=>exact .agg hl hc ih
 | AX hl hr ih=>exact .AX hl ih
theorem En.world {w w':World} {ok:Nat->Prop} {U:AZ} {v:Value} {x:V} (h:En w ok U v x) (hw:∀g,ok g->w'.heap[g]?=w.heap[g]?):En w' ok U v x:=by
 induction h with
 | undef=>exact .undef
 | lit h=>exact .lit h
 | tr h=>exact .tr (h.mono (λg hg _=>hw g hg) (λ_ h=>h))
 | vw h=>exact .vw (h.mono (λg hg _=>hw g hg) (λ_ h=>h))
 | rp h=>exact .rp (h.mono (λg hg _=>hw g hg) (λ_ h=>h))
 | ptr h=>exact .ptr h
 | sl h hc=>exact .sl h hc
 | sle h=>exact .sle h
 | fn hl hr ih=>exact .fn hl ih
 | agg hl hc hr ih=>exact .agg hl hc ih
 | AX hl hr ih=>exact .AX hl ih
theorem Xw.ext {P:Program} {w:World} {ok ok':Nat->Prop} {U U':AZ} {i:Option GP} {F:List Nat} {b:Be} (h:Xw P w ok U i F b) (Yl:∀g,ok g->ok' g) (hU:∀id i,U id=some i->U' id=some i):Xw P w ok' U' i F b:=by
 unfold Xw at h ⊢;split at h
 .obtain⟨h1,g,cur,e,row,hi,hg,hr,hs,he,VM,rfl⟩:=h
  exact⟨h1,g,cur,e,row,hi,hg,hr,hs,λk v x hv hx=>(he k v x hv hx).ext Yl hU,VM,rfl⟩
 .rcases h with h|⟨g,o,c,cur,hi,hg,hl,hm,hu,hz,fp,rfl,h1,h2⟩
  .exact .inl h
  .refine .inr ⟨g,o,c,cur,hi,hg,hl,hm,hu,hz,fp,rfl,h1,λhc=>⟨(h2 hc).1,λk x hx=>?_⟩⟩
   obtain⟨v,hv,hr⟩:=(h2 hc).2 k x hx;exact⟨v,hv,hr.C8 Yl⟩
 .obtain⟨h0,h⟩:=h
  refine⟨h0,?_⟩;rcases h with h|⟨g,o,c,sz,hi,hu,hr⟩
  .exact .inl h
  .exact .inr ⟨g,o,c,sz,hi,hu,hr.C8 Yl⟩
theorem Xw.world {P:Program} {w w':World} {ok:Nat->Prop} {U:AZ} {i:Option GP} {F:List Nat} {b:Be} (h:Xw P w ok U i F b) (hw:∀g,ok g->w'.heap[g]?=w.heap[g]?) (hF:∀g∈F,w'.heap[g]?=w.heap[g]?):Xw P w' ok U i F b:=by
 unfold Xw at h ⊢;split at h
 .obtain⟨h1,g,cur,e,row,hi,hg,hr,hs,he,VM,rfl⟩:=h
  exact⟨h1,g,cur,e,row,hi,by rw[hF g BI];exact hg,hr,hs,λk v x hv hx=>(he k v x hv hx).world hw,VM,rfl⟩
 .rcases h with h|⟨g,o,c,cur,hi,hg,hl,hm,hu,hz,fp,rfl,h1,h2⟩
  .exact .inl h
  .refine .inr ⟨g,o,c,cur,hi,by rw[hF g BI];exact hg,hl,hm,hu,hz,fp,rfl,λhc=>(h1 hc).frame λk hk=>hF k (Cg _ hk),λhc=>⟨(h2 hc).1,λk x hx=>?_⟩⟩
   obtain⟨v,hv,hr⟩:=(h2 hc).2 k x hx;exact⟨v,hv,hr.mono (λg hg _=>hw g hg) (λ_ h=>h)⟩
 .obtain⟨h0,h⟩:=h
  refine⟨h0,?_⟩;rcases h with h|⟨g,o,c,sz,hi,hu,hr⟩
  .exact .inl h
  .exact .inr ⟨g,o,c,sz,hi,hu,hr.mono (λg hg _=>hw g hg) (λ_ h=>h)⟩
structure J0 (P:Program) (B:Nat) (io:Nat->Prop) (w:World) (tmps:Array Value) (s:St) (U:AZ) (F:Id->List Nat) (fl:List Nat) (ok:Nat->Prop):Prop where
 env:∀(t:Nat) (v:Value),tmps[t]?=some v->En w ok U v (s.env t)
 out:∀t,tmps.size<=t->s.env t=.undef
 heap:∀id b,s.heap id=some b->Xw P w ok U (U id) (F id) b
 CR:∀id b,s.heap id=some b->b.own=true->∀g∈F id,g < w.heap.size
 top:∀id b,s.heap id=some b->b.own=true->PA (U id)->∀g,(F id).head?=some g->io g\/B<=g
 apart:∀id Ax b b',s.heap id=some b->b.own=true->s.heap Ax=some b'->b'.own=true->id≠Ax->∀g∈F id,g ∉ F Ax
 once:∀id b,s.heap id=some b->b.own=true->(F id).Nodup
 CB:∀id,(U id).isSome=true->id.1<=s.ep
 Cv:VL B io w
 AS:∀g∈fl,g < w.heap.size
 A8:∀id b,s.heap id=some b->b.own=true->∀g∈F id,g ∉ fl
 AU:fl.Nodup
inductive Dh (P:Program) (w:World) (ok top:Nat->Prop):Value->V->List Nat->Prop
 | lit {v:Value} (h:DJ v=true):Dh P w ok top v (.lit v) []
 | tr {v:Value} {rows:List (List V)} (h:Rd w ok v (.tr rows)):Dh P w ok top v (.tr rows) []
 | own {v:Value} {e:TypeId} {rows:List (List V)} {fp:List Nat} (h:NK P w e v rows fp) (ht:∀g,fp.head?=some g->top g):Dh P w ok top v (.own e rows) fp
inductive FC (P:Program) (w:World) (ok top:Nat->Prop):List Value->List V->List Nat->Prop
 | nil:FC P w ok top [] [] []
 | cons {v:Value} {x:V} {vs:List Value} {xs:List V} {f1 f2:List Nat} (h:Dh P w ok top v x f1) (hs:FC P w ok top vs xs f2):FC P w ok top (v::vs) (x::xs) (f1++f2)
theorem FC.length {P:Program} {w:World} {ok top:Nat->Prop} {vs:List Value} {xs:List V} {fp:List Nat} (h:FC P w ok top vs xs fp):vs.length=xs.length:=by
 induction h with
 | nil=>rfl
 | cons _ _ ih=>simp[ih]
def DD (P:Program) (w:World) (ok top:Nat->Prop) (u:Value):V->List Nat->Prop
 | .agg cs,fp=>∃us:Array Value,u=.agg us/\FC P w ok top us.toList cs fp
 | .CQ cs,fp=>∃g cur e BT,u=.pointer (some ⟨g,0,none⟩)/\w.heap[g]?=some (.cells cur e (0,0))/\FC P w ok top cur.toList cs BT/\fp=g::BT/\top g
 | x,fp=>Dh P w ok top u x fp
inductive Ob (P:Program) (w:World) (ok top:Nat->Prop):Value->V->List Nat->Prop
 | one {v:Value} {x:V} {fp:List Nat} (h:Dh P w ok top v x fp):Ob P w ok top v x fp
 | box {v:Value} {cs:List V} {fp:List Nat} (h:DD P w ok top v (.CQ cs) fp):Ob P w ok top v (.CQ cs) fp
inductive Gd (P:Program) (w:World) (ok top:Nat->Prop):List Value->List V->List Nat->Prop
 | nil:Gd P w ok top [] [] []
 | cons {v:Value} {x:V} {vs:List Value} {xs:List V} {f1 f2:List Nat} (h:Ob P w ok top v x f1) (hs:Gd P w ok top vs xs f2):Gd P w ok top (v::vs) (x::xs) (f1++f2)
theorem Gd.length {P:Program} {w:World} {ok top:Nat->Prop} {vs:List Value} {xs:List V} {fp:List Nat} (h:Gd P w ok top vs xs fp):vs.length=xs.length:=by
 induction h with
 | nil=>rfl
 | cons _ _ ih=>simp[ih]
def IP (P:Program) (w:World) (ok top:Nat->Prop) (u:Value) (cs:List V) (fp:List Nat):Prop:=∃g cur e BT,u=.pointer (some ⟨g,0,none⟩)/\w.heap[g]?=some (.cells cur e (0,0))/\Gd P w ok top cur.toList cs BT/\fp=g::BT/\top g
section
variable {P:Program} {B:Nat} {io:Nat->Prop} {w w':World} {tmps:Array Value} {s s':St} {U U':AZ} {F F':Id->List Nat} {fl fl':List Nat} {ok ok' top:Nat->Prop}
theorem J0.IQ (h:J0 P B io w tmps s U F fl ok) (Yl:∀g,ok g->AI s U w g):Rel P B io w tmps s U F fl:=
 {h with
  env:=λt v hv=>(h.env t v hv).ext Yl (λ_ _ h=>h)
  heap:=λid b hb=>(h.heap id b hb).ext Yl (λ_ _ h=>h)}
theorem J0.less (h:J0 P B io w tmps s U F fl ok) (hs:fl'.Sublist fl):J0 P B io w tmps s U F fl' ok:=
 {h with
  AS:=λg hg=>h.AS g (hs.subset hg)
  A8:=λid b hb ho g hg Yi=>h.A8 id b hb ho g hg (hs.subset Yi)
  AU:=h.AU.sublist hs}
theorem J0.perm (h:J0 P B io w tmps s U F fl ok) (hs:fl'.Perm fl):J0 P B io w tmps s U F fl' ok:=
 {h with
  AS:=λg hg=>h.AS g (hs.mem_iff.1 hg)
  A8:=λid b hb ho g hg Yi=>h.A8 id b hb ho g hg (hs.mem_iff.1 Yi)
  AU:=hs.nodup_iff.2 h.AU}
theorem J0.put (h:J0 P B io w tmps s U F fl ok) {p:Nat} {x:V} {u:Value} (hp:tmps[p]?=some u) (hx:En w ok U u x):J0 P B io w tmps (s.put (some p) x) U F fl ok:=
 {h with
  env:=λt v hv=>by
   simp only[St.put,Bm];split
   .rename_i e;subst e;rw[hp] at hv;injection hv with hv;subst hv;exact hx
   .exact h.env t v hv
  out:=λt ht=>by
   simp only[St.put,Bm];split
   .rename_i e;subst e
    have:=(HM.1 hp).1;omega
   .exact h.out t ht}
theorem J0.add {fp:List Nat} (h:J0 P B io w tmps s U F (fp++fl) ok) {id:Id} (hs:s.heap id=none) (Yo:id.1<=s.ep) (hU:∀Ax i,U Ax=some i->U' Ax=some i) (KY:∀Ax,Ax≠id->U' Ax=U Ax) {b:Be} (hB:Xw P w ok U' (U' id) fp b)
  (Wf:PA (U' id)->∀g,fp.head?=some g->io g\/B<=g):J0 P B io w tmps (s.A6 id b) U' (Bm F id fp) fl ok:=by
 have Cz:=EX.1 h.AU;refine⟨λt v hv=>(h.env t v hv).ext (λ_ h=>h) hU,h.out,λAx b' hb=>?_,λAx b' hb ho g hg=>?_,λAx b' hb ho Co g hg=>?_,λxU G0 b1 b2 CG PG DT HV Yj g XE IS=>?_,λAx b' hb ho=>?_,λAx hi=>?_,h.Cv,λg hg=>h.AS g (D3 _ hg),λAx b' hb ho g hg Yi=>?_,Cz.2.1⟩
 .by_cases e:Ax=id
  .subst e;rw[La] at hb;injection hb with hb;subst hb;rw[Yb];exact hB
  .rw[X8 e] at hb;rw[KY Ax e,Wc e];exact (h.heap Ax b' hb).ext (λ_ h=>h) hU
 .by_cases e:Ax=id
  .subst e;rw[Yb] at hg;exact h.AS g (CH _ hg)
  .rw[X8 e] at hb;rw[Wc e] at hg;exact h.CR Ax b' hb ho g hg
 .by_cases e:Ax=id
  .subst e;rw[Yb] at hg;exact Wf Co g hg
  .rw[X8 e] at hb;rw[Wc e] at hg;rw[KY Ax e] at Co;exact h.top Ax b' hb ho Co g hg
 .by_cases e1:xU=id
  .subst e1
   rw[Yb] at XE;rw[X8 (Ne.symm Yj)] at DT;rw[Wc (Ne.symm Yj)] at IS;exact h.A8 G0 b2 DT HV g IS (CH _ XE)
  .rw[X8 e1] at CG
   rw[Wc e1] at XE;by_cases e2:G0=id
   .subst e2
    rw[Yb] at IS;exact h.A8 xU b1 CG PG g XE (CH _ IS)
   .rw[X8 e2] at DT;rw[Wc e2] at IS
    exact h.apart xU G0 b1 b2 CG PG DT HV Yj g XE IS
 .by_cases e:Ax=id
  .subst e;rw[Yb];exact Cz.1
  .rw[X8 e] at hb;rw[Wc e];exact h.once Ax b' hb ho
 .by_cases e:Ax=id
  .subst e;exact Yo
  .rw[KY Ax e] at hi;exact h.CB Ax hi
 .by_cases e:Ax=id
  .subst e;rw[Yb] at hg;exact Cz.2.2 g hg g Yi rfl
  .rw[X8 e] at hb;rw[Wc e] at hg;exact h.A8 Ax b' hb ho g hg (D3 _ Yi)
structure C9 (P:Program) (B:Nat) (io:Nat->Prop) (w:World) (tmps:Array Value) (s:St) (U:AZ) (fl:List Nat) (ok top:Nat->Prop) (J:Id->Prop) (s':St) (U':AZ) (F':Id->List Nat):Prop where
 rel:J0 P B io w tmps s' U' F' fl ok
 ext:∀id i,U id=some i->U' id=some i
 CB:∀id,(U' id).isSome=true->(U id).isSome=true\/J id
 env:s'.env=s.env
 ep:s'.ep=s.ep
 heap:∀id,¬J id->s'.heap id=s.heap id
 AK:∀g,Ev.AK s' U' g->Ev.AK s U g\/top g
theorem C9.trans {fl1:List Nat} {J K:Id->Prop} {s1 s2:St} {U1 U2:AZ} {F1 F2:Id->List Nat} (h1:C9 P B io w tmps s U fl1 ok top J s1 U1 F1) (h2:C9 P B io w tmps s1 U1 fl ok top K s2 U2 F2):C9 P B io w tmps s U fl ok top (λid=>J id\/K id) s2 U2 F2 where
 rel:=h2.rel
 ext:=λid i h=>h2.ext id i (h1.ext id i h)
 CB:=λid h=>by
  rcases h2.CB id h with h|h
  .rcases h1.CB id h with h|h
   .exact .inl h
   .exact .inr (.inl h)
  .exact .inr (.inr h)
 env:=h2.env.trans h1.env
 ep:=h2.ep.trans h1.ep
 heap:=λid h=>(h2.heap id λhk=>h (.inr hk)).trans (h1.heap id λhj=>h (.inl hj))
 AK:=λg h=>by
  rcases h2.AK g h with h|h
  .exact h1.AK g h
  .exact .inr h
theorem C9.mono {J K:Id->Prop} {s1:St} {U1:AZ} {F1:Id->List Nat} (h:C9 P B io w tmps s U fl ok top J s1 U1 F1) (hJ:∀id,J id->K id):C9 P B io w tmps s U fl ok top K s1 U1 F1:=
 {h with
  CB:=λid hi=>(h.CB id hi).imp (λh=>h) (hJ id)
  heap:=λid hk=>h.heap id λhj=>hk (hJ id hj)}
theorem C9.refl (h:J0 P B io w tmps s U F fl ok):C9 P B io w tmps s U fl ok top (λ_=>False) s U F:=
 ⟨h,λ_ _ h=>h,λ_ h=>.inl h,rfl,rfl,λ_ _=>rfl,λ_ h=>.inl h⟩
theorem XF {id:Id} {b:Be} (KY:∀Ax,Ax≠id->U' Ax=U Ax) {g:Nat} (h:AK (s.A6 id b) U' g):AK s U g\/(b.own=true/\∃o c sz,U' id=some (.Bn g o c sz)):=by
 obtain⟨Ax,b',o,c,sz,hb,ho,hU⟩:=h;by_cases e:Ax=id
 .subst e;rw[La] at hb;injection hb with hb;subst hb;exact .inr ⟨ho,o,c,sz,hU⟩
 .rw[X8 e] at hb;rw[KY Ax e] at hU;exact .inl ⟨Ax,b',o,c,sz,hb,ho,hU⟩
theorem Xcy {fp:List Nat} (h:J0 P B io w tmps s U F (fp++fl) ok) {u:Value} {e:TypeId} {rows:List (List V)} (hO:NK P w e u rows fp) (ht:∀g,fp.head?=some g->top g) (Wf:∀g,top g->io g\/B<=g) {id:Id} (Zu:U id=none) (hs:s.heap id=none) (Yo:id.1<=s.ep):
  ∃U' F',C9 P B io w tmps s U fl ok top (λAx=>Ax=id) (s.A6 id ⟨false,true,true,e,rows⟩) U' F'/\En w ok U' u (.sl id 0 rows.length):=by
 rcases hO with⟨A,rfl,rfl,rfl⟩|⟨g,o,c,cur,BT,rfl,hg,hl,hm,Ca,hz,hO,rfl⟩
 .refine⟨Bm U id (some .emp),Bm F id [],⟨h.add hs Yo (EB Zu) (λAx e=>Wc e) (by rw[Yb];exact .IA rfl rfl rfl rfl rfl) (λ_ g hg=>by simp at hg),EB Zu,λAx hi=>?_,rfl,rfl,λAx e=>X8 e,λg hg=>?_⟩,.sle (by rw[Yb];rfl)⟩
  .by_cases e:Ax=id
   .exact .inr e
   .rw[Wc e] at hi;exact .inl hi
  .rcases XF (λAx e=>Wc e) hg with h1|⟨_,o,c,sz,h1⟩
   .exact .inl h1
   .rw[Yb] at h1;cases h1
 .refine⟨Bm U id (some (.Bn g o c (P.cellsOf e))),Bm F id (g::BT),⟨h.add hs Yo (EB Zu) (λAx e=>Wc e) (by
   rw[Yb];exact .Cu rfl rfl rfl hg hl hm Ca hz rfl (λ_=>hO) (λhf=>by cases hf)) (λ_ g' Yi=>Wf g' (ht g' Yi)),EB Zu,λAx hi=>?_,rfl,rfl,λAx e=>X8 e,λg' Yi=>?_⟩,?_⟩
  .by_cases e:Ax=id
   .exact .inr e
   .rw[Wc e] at hi;exact .inl hi
  .rcases XF (λAx e=>Wc e) Yi with h1|⟨_,o',c',sz,h1⟩
   .exact .inl h1
   .rw[Yb] at h1
    injection h1 with h1;injection h1 with h1;subst h1;exact .inr (ht _ rfl)
  .have:=En.sl (w:=w) (ok:=ok) (off:=0) (len:=rows.length) (Yb U id (some (.Bn g o c (P.cellsOf e)))) (by omega)
   simpa using this
theorem xV {fp:List Nat} (h:J0 P B io w tmps s U F (fp++fl) ok) {u:Value} {x y:V} (hg:Dh P w ok top u x fp) (Wf:∀g,top g->io g\/B<=g) {id:Id} (Zu:U id=none) (hs:s.heap id=none) (Yo:id.1<=s.ep) (ht:s.AT id x=some (y,s')):
  ∃U' F',C9 P B io w tmps s U fl ok top (λAx=>Ax=id) s' U' F'/\En w ok U' u y/\AG y=true:=by
 cases hg with
 | lit Hy=>
  simp only[St.AT,AF,A7] at ht;obtain⟨rfl,rfl⟩:=ht;exact⟨U,F,(C9.refl h).mono (λ_ h=>h.elim),.lit Hy,rfl⟩
 | tr hr=>
  simp only[St.AT,AF,A7] at ht;obtain⟨rfl,rfl⟩:=ht;exact⟨U,F,(C9.refl h).mono (λ_ h=>h.elim),.tr hr,rfl⟩
 | own hO htp=>
  simp only[St.AT,AF,A7] at ht;obtain⟨rfl,rfl⟩:=ht;obtain⟨U',F',h1,h2⟩:=Xcy h hO htp Wf Zu hs Yo;exact⟨U',F',h1,h2,rfl⟩
theorem xW {e:Nat}:∀(xs:List V) {us:List Value} {k:Nat} {fp fl:List Nat} {s s':St} {U:AZ} {F:Id->List Nat} {ys:List V},J0 P B io w tmps s U F (fp++fl) ok->FC P w ok top us xs fp->(∀g,top g->io g\/B<=g)->e<=s.ep->
  (∀j,k<=j->j < k+xs.length->U (e,j)=none/\s.heap (e,j)=none)->s.AN e k xs=some (ys,s')->
  ∃U' F',C9 P B io w tmps s U fl ok top (λid=>id.1=e/\k<=id.2/\id.2 < k+xs.length) s' U' F'/\us.length=ys.length/\(∀y∈ys,AG y=true)/\(∀(j:Nat) (u:Value) (y:V),us[j]?=some u->ys[j]?=some y->En w ok U' u y):=by
 intro xs
 induction xs with
 | nil=>
  intro us k fp fl s s' U F ys h hg Wf Yo Xa ht;cases hg;simp only[St.AN,AF,A7] at ht;obtain⟨rfl,rfl⟩:=ht;exact⟨U,F,(C9.refl h).mono (λ_ h=>h.elim),rfl,by simp,λj u y hu=>by simp at hu⟩
 | cons x xs ih=>
  intro us k fp fl s s' U F ys h hg Wf Yo Xa ht;cases hg with
  | @cons u _ us _ f1 f2 hg XG=>
   simp only[St.AN] at ht;obtain⟨⟨y,s1⟩,h1,ht⟩:=AA.1 ht;obtain⟨⟨zs,s2⟩,h2,ht⟩:=AM.1 ht;simp only[A7] at ht;obtain⟨rfl,rfl⟩:=ht;simp only at h2;obtain⟨XH,QE⟩:=Xa k (B2 _) (by simp);obtain⟨U1,F1,t1,e1,c1⟩:=xV (fl:=f2++fl) (by rw[<-List.append_assoc];exact h) hg Wf XH QE Yo h1;obtain⟨U2,F2,t2,l2,c2,e2⟩:=ih t1.rel XG Wf (by rw[t1.ep];exact Yo) (λj hj Ya=>by
    obtain⟨a1,a2⟩:=Xa j (by omega) (by simp only[AP];omega);have Yj:¬((e,j):Id)=(e,k):=λhh=>by injection hh with _ hh;omega
    refine⟨?_,by rw[t1.heap _ Yj];exact a2⟩;cases hr:U1 (e,j) with
    | none=>rfl
    | some i=>
     rcases t1.CB (e,j) (by rw[hr];rfl) with hh|hh
     .rw[a1] at hh;cases hh
     .exact absurd hh Yj) h2
   refine⟨U2,F2,(t1.trans t2).mono (λid Zu=>?_),by simp[l2],λz hz=>?_,λj u' z hu hz=>?_⟩
   .rcases Zu with rfl|⟨a,b,c⟩
    .exact⟨rfl,B2 _,by simp⟩
    .exact⟨a,by omega,by simp only[AP];omega⟩
   .rcases BX.1 hz with rfl|hz
    .exact c1
    .exact c2 z hz
   .cases j with
    | zero=>
     have a1:u=u':=by simpa using hu
     have a2:y=z:=by simpa using hz
     subst a1;subst a2;exact e1.ext (λ_ h=>h) t2.ext
    | succ j=>exact e2 j u' z (by simpa using hu) (by simpa using hz)
theorem xX {g:Nat} {J:Id->Prop} {s1:St} {U1:AZ} {F1:Id->List Nat} (t:C9 P B io w tmps s U ([g]++fl) ok top J s1 U1 F1) {id:Id} (Yo:id.1<=s.ep) (n1:U id=none) (n2:s.heap id=none) (hJ:¬J id) (Wf:∀g,top g->io g\/B<=g) (IT:top g)
  {cur:Array Value} {e':TypeId} {ys:List V} (Ei:w.heap[g]?=some (.cells cur e' (0,0))) (l:cur.toList.length=ys.length) (c:∀y∈ys,AG y=true) (en:∀(j:Nat) (u:Value) (y:V),cur.toList[j]?=some u->ys[j]?=some y->En w ok U1 u y):
  ∃U' F',C9 P B io w tmps s U fl ok top (λi=>J i\/i=id) (s1.A6 id ⟨true,true,true,0,[ys]⟩) U' F'/\En w ok U' (.pointer (some ⟨g,0,none⟩)) (.ptr id 0 0):=by
 have XH:U1 id=none:=by
  cases hr:U1 id with
  | none=>rfl
  | some i=>
   rcases t.CB _ (by rw[hr];rfl) with hh|hh
   .rw[n1] at hh;cases hh
   .exact absurd hh hJ
 have QE:s1.heap id=none:=by rw[t.heap _ hJ];exact n2
 have HW:=t.rel.add (fp:=[g]) (fl:=fl) (id:=id) (U':=Bm U1 id (some (.Bn g 0 1 ys.length))) (b:=⟨true,true,true,0,[ys]⟩) QE (by rw[t.ep];exact Yo) (EB XH) (λAx e=>Wc e) (by
  rw[Yb];exact .I9 rfl rfl rfl Ei rfl (by simpa using l) (λj v z hv hz=>(en j v z (by simpa using hv) hz).ext (λ_ h=>h) (EB XH)) c rfl) (λ_ g' Yi=>by
  have:g=g':=by simpa using Yi
  subst this;exact Wf g IT)
 refine⟨_,_,⟨HW,λid i hi=>EB XH id i (t.ext id i hi),λi hi=>?_,t.env,t.ep,λi Zu=>?_,λg' Yi=>?_⟩,?_⟩
 .by_cases e1:i=id
  .exact .inr (.inr e1)
  .rw[Wc e1] at hi
   exact (t.CB i hi).imp (λh=>h) .inl
 .rw[X8 (λhh=>Zu (.inr hh))]
  exact t.heap i (λhh=>Zu (.inl hh))
 .rcases XF (λAx e=>Wc e) Yi with h3|⟨_,o,c',sz,h3⟩
  .exact t.AK g' h3
  .rw[Yb] at h3
   injection h3 with h3;injection h3 with h3;subst h3;exact .inr IT
 .have:=En.ptr (w:=w) (ok:=ok) (i:=0) (off:=0) (Yb U1 id (some (.Bn g 0 1 ys.length)))
  simpa using this
theorem xY {fp:List Nat} (h:J0 P B io w tmps s U F (fp++fl) ok) {u:Value} {x y:V} (hg:DD P w ok top u x fp) (Wf:∀g,top g->io g\/B<=g) {e k:Nat} (Yo:e<=s.ep) (Xa:∀j,k<=j->j < k+64->U (e,j)=none/\s.heap (e,j)=none) (ht:s.Bc e k x=some (y,s')):
  ∃U' F',C9 P B io w tmps s U fl ok top (λid=>id.1=e/\k<=id.2/\id.2 < k+64) s' U' F'/\En w ok U' u y:=by
 have one:∀{x},Dh P w ok top u x fp->s.AT (e,k) x=some (y,s')->∃U' F',C9 P B io w tmps s U fl ok top (λid=>id.1=e/\k<=id.2/\id.2 < k+64) s' U' F'/\En w ok U' u y:=by
  intro x hg ht;obtain⟨a1,a2⟩:=Xa k (B2 _) (by omega);obtain⟨U',F',h1,h2,_⟩:=xV h hg Wf a1 a2 Yo ht;exact⟨U',F',h1.mono (λid Zu=>by subst Zu;exact⟨rfl,B2 _,by omega⟩),h2⟩
 unfold St.Bc at ht;split at ht
 .rename_i cs
  split at ht
  .rename_i hl
   obtain⟨⟨ys,s1⟩,h1,ht⟩:=AM.1 ht;simp only[A7] at ht;obtain⟨rfl,rfl⟩:=ht;obtain⟨us,rfl,GW⟩:=hg;obtain⟨U',F',t,l,c,en⟩:=xW cs h GW Wf Yo (λj hj Ya=>Xa j hj (by omega)) h1;exact⟨U',F',t.mono (λid Zu=>⟨Zu.1,Zu.2.1,by omega⟩),.agg (by simpa using l) c (λj v z hv hz=>en j v z (by simpa using hv) hz)⟩
  .cases ht
 .rename_i cs
  split at ht
  .rename_i hl
   obtain⟨⟨ys,s1⟩,h1,ht⟩:=AM.1 ht;simp only[A7] at ht;obtain⟨rfl,rfl⟩:=ht;obtain⟨g,cur,e',BT,rfl,Ei,GW,rfl,IT⟩:=hg;have xZ:((BT++([g]++fl)):List Nat).Perm (g::BT++fl):=by
    exact Tu
   obtain⟨U1,F1,t,l,c,en⟩:=xW cs (fl:=[g]++fl) (h.perm xZ) GW Wf Yo (λj hj Ya=>Xa j hj (by omega)) h1;obtain⟨n1,n2⟩:=Xa (k+63) (by omega) (by omega);obtain⟨U',F',t2,e2⟩:=xX t (id:=(e,k+63)) Yo n1 n2 (λhh=>by have:=hh.2.2;simp only at this;omega) Wf IT Ei l c en;refine⟨U',F',t2.mono λid Zu=>?_,e2⟩;rcases Zu with hh|rfl
   .exact⟨hh.1,hh.2.1,by omega⟩
   .exact⟨rfl,by simp,by simp⟩
  .cases ht
 .rename_i h1 h2
  exact one (by
   cases x with
   | agg cs=>exact absurd rfl (h1 cs)
   | CQ cs=>exact absurd rfl (h2 cs)
   | _=>exact hg) ht
theorem Yxe {fp:List Nat} (h:J0 P B io w tmps s U F (fp++fl) ok) {u:Value} {x y:V} (hg:Ob P w ok top u x fp) (Wf:∀g,top g->io g\/B<=g) {e k:Nat} (Yo:e<=s.ep) (Xa:∀j,k<=j->j < k+KU x->U (e,j)=none/\s.heap (e,j)=none) (ht:s.B4 e k x=some (y,s')):
  ∃U' F',C9 P B io w tmps s U fl ok top (λid=>id.1=e/\k<=id.2/\id.2 < k+KU x) s' U' F'/\En w ok U' u y/\AG y=true:=by
 cases hg with
 | one hg=>
  have hx:KU x=1/\s.B4 e k x=s.AT (e,k) x:=by cases hg<;>exact⟨rfl,rfl⟩
  rw[hx.2] at ht;obtain⟨a1,a2⟩:=Xa k (B2 _) (by omega);obtain⟨U',F',h1,h2,h3⟩:=xV h hg Wf a1 a2 Yo ht;exact⟨U',F',h1.mono (λid Zu=>by subst Zu;exact⟨rfl,B2 _,by rw[hx.1];omega⟩),h2,h3⟩
 | @box cs _ hg=>
  simp only[St.B4] at ht;obtain⟨⟨ys,s1⟩,h1,ht⟩:=AM.1 ht;simp only[A7] at ht;obtain⟨rfl,rfl⟩:=ht;obtain⟨g,cur,e',BT,rfl,Ei,GW,rfl,IT⟩:=hg;simp only[KU] at Xa ⊢;obtain⟨U1,F1,t,l,c,en⟩:=xW cs (fl:=[g]++fl) (h.perm Tu) GW Wf Yo (λj hj Ya=>Xa j (by omega) (by omega)) h1;obtain⟨n1,n2⟩:=Xa k (B2 _) (by omega);obtain⟨U',F',t2,e2⟩:=xX t (id:=(e,k)) Yo n1 n2 (λhh=>by have:=hh.2.1;simp only at this;omega) Wf IT Ei l c en;refine⟨U',F',t2.mono λid Zu=>?_,e2,rfl⟩;rcases Zu with hh|rfl
  .exact⟨hh.1,by omega,by omega⟩
  .exact⟨rfl,B2 _,by simp only;omega⟩
theorem Yc7 {e:Nat}:∀(xs:List V) {us:List Value} {k:Nat} {fp fl:List Nat} {s s':St} {U:AZ} {F:Id->List Nat} {ys:List V},J0 P B io w tmps s U F (fp++fl) ok->Gd P w ok top us xs fp->(∀g,top g->io g\/B<=g)->e<=s.ep->
  (∀j,k<=j->j < k+wt xs->U (e,j)=none/\s.heap (e,j)=none)->s.AY e k xs=some (ys,s')->
  ∃U' F',C9 P B io w tmps s U fl ok top (λid=>id.1=e/\k<=id.2/\id.2 < k+wt xs) s' U' F'/\us.length=ys.length/\(∀y∈ys,AG y=true)/\(∀(j:Nat) (u:Value) (y:V),us[j]?=some u->ys[j]?=some y->En w ok U' u y):=by
 intro xs
 induction xs with
 | nil=>
  intro us k fp fl s s' U F ys h hg Wf Yo Xa ht;cases hg;simp only[St.AY,AF,A7] at ht;obtain⟨rfl,rfl⟩:=ht;exact⟨U,F,(C9.refl h).mono (λ_ h=>h.elim),rfl,by simp,λj u y hu=>by simp at hu⟩
 | cons x xs ih=>
  intro us k fp fl s s' U F ys h hg Wf Yo Xa ht;simp only[wt] at Xa ⊢;cases hg with
  | @cons u _ us _ f1 f2 hg XG=>
   simp only[St.AY] at ht;obtain⟨⟨y,s1⟩,h1,ht⟩:=AA.1 ht;obtain⟨⟨zs,s2⟩,h2,ht⟩:=AM.1 ht;simp only[A7] at ht;obtain⟨rfl,rfl⟩:=ht;simp only at h2;obtain⟨U1,F1,t1,e1,c1⟩:=Yxe (fl:=f2++fl) (by rw[<-List.append_assoc];exact h) hg Wf Yo (λj hj Ya=>Xa j hj (by omega)) h1;obtain⟨U2,F2,t2,l2,c2,e2⟩:=ih t1.rel XG Wf (by rw[t1.ep];exact Yo) (λj hj Ya=>by
    obtain⟨a1,a2⟩:=Xa j (by omega) (by omega);have Yj:¬(((e,j):Id).1=e/\k<=((e,j):Id).2/\((e,j):Id).2 < k+KU x):=λhh=>by have:=hh.2.2;simp only at this;omega
    refine⟨?_,by rw[t1.heap _ Yj];exact a2⟩;cases hr:U1 (e,j) with
    | none=>rfl
    | some i=>
     rcases t1.CB (e,j) (by rw[hr];rfl) with hh|hh
     .rw[a1] at hh;cases hh
     .exact absurd hh Yj) h2
   refine⟨U2,F2,(t1.trans t2).mono (λid Zu=>?_),by simp[l2],λz hz=>?_,λj u' z hu hz=>?_⟩
   .rcases Zu with⟨a,b,c⟩|⟨a,b,c⟩
    .exact⟨a,b,by omega⟩
    .exact⟨a,by omega,by omega⟩
   .rcases BX.1 hz with rfl|hz
    .exact c1
    .exact c2 z hz
   .cases j with
    | zero=>
     have a1:u=u':=by simpa using hu
     have a2:y=z:=by simpa using hz
     subst a1;subst a2;exact e1.ext (λ_ h=>h) t2.ext
    | succ j=>exact e2 j u' z (by simpa using hu) (by simpa using hz)
theorem Y4n {fp:List Nat} (h:J0 P B io w tmps s U F (fp++fl) ok) {u:Value} {cs:List V} {y:V} (hg:IP P w ok top u cs fp) (Wf:∀g,top g->io g\/B<=g) {e k:Nat} (Yo:e<=s.ep) (Xa:∀j,k<=j->j < k+64->U (e,j)=none/\s.heap (e,j)=none) (ht:s.BC e k cs=some (y,s')):
  ∃U' F',C9 P B io w tmps s U fl ok top (λid=>id.1=e/\k<=id.2/\id.2 < k+64) s' U' F'/\En w ok U' u y/\y=.ptr (e,k+63) 0 0:=by
 unfold St.BC at ht;split at ht
 .rename_i hl
  obtain⟨⟨ys,s1⟩,h1,ht⟩:=AM.1 ht;simp only[A7] at ht;obtain⟨rfl,rfl⟩:=ht;obtain⟨g,cur,e',BT,rfl,Ei,GW,rfl,IT⟩:=hg;obtain⟨U1,F1,t,l,c,en⟩:=Yc7 cs (fl:=[g]++fl) (h.perm Tu) GW Wf Yo (λj hj Ya=>Xa j hj (by omega)) h1;obtain⟨n1,n2⟩:=Xa (k+63) (by omega) (by omega);obtain⟨U',F',t2,e2⟩:=xX t (id:=(e,k+63)) Yo n1 n2 (λhh=>by have:=hh.2.2;simp only at this;omega) Wf IT Ei l c en;refine⟨U',F',t2.mono λid Zu=>?_,e2,rfl⟩;rcases Zu with hh|rfl
  .exact⟨hh.1,hh.2.1,by omega⟩
  .exact⟨rfl,by simp,by simp⟩
 .cases ht
end
def DK (s s':St) (U:AZ) (F:Id->List Nat) (g:Nat):Prop:=∃id b,s.heap id=some b/\b.own=true/\s'.heap id=none/\(F id).head?=some g/\PA (U id)
structure Wi (s s':St):Prop where
 env:s'.env=s.env
 ep:s'.ep=s.ep
 sub:∀id b,s'.heap id=some b->s.heap id=some b
theorem Wi.refl (s:St):Wi s s:=⟨rfl,rfl,λ_ _ h=>h⟩
theorem Wi.trans {a b c:St} (h:Wi a b) (k:Wi b c):Wi a c:=⟨k.env.trans h.env,k.ep.trans h.ep,λid x hx=>h.sub id x (k.sub id x hx)⟩
theorem Wi.none {a b:St} (h:Wi a b) {id:Id} (hn:a.heap id=none):b.heap id=none:=by
 cases hb:b.heap id with
 | none=>rfl
 | some x=>rw[h.sub id x hb] at hn;cases hn
theorem Wi.kill (s:St) (id:Id):Wi s (s.kill id):=⟨rfl,rfl,λ_ _ h=>IC h⟩
theorem DK.left {a b c:St} {U:AZ} {F:Id->List Nat} {g:Nat} (h:DK a b U F g) (k:Wi b c):DK a c U F g:=by
 obtain⟨id,x,h1,h2,h3,h4⟩:=h;exact⟨id,x,h1,h2,k.none h3,h4⟩
theorem DK.right {a b c:St} {U:AZ} {F:Id->List Nat} {g:Nat} (h:DK b c U F g) (k:Wi a b):DK a c U F g:=by
 obtain⟨id,x,h1,h2,h3,h4⟩:=h;exact⟨id,x,k.sub id x h1,h2,h3,h4⟩
theorem Dh.top {P:Program} {w:World} {ok top top':Nat->Prop} {v:Value} {x:V} {fp:List Nat} (h:Dh P w ok top v x fp) (ht:∀g,top g->top' g):Dh P w ok top' v x fp:=by
 cases h with
 | lit h=>exact .lit h
 | tr h=>exact .tr h
 | own h k=>exact .own h λg hg=>ht g (k g hg)
theorem FC.top {P:Program} {w:World} {ok top top':Nat->Prop} {v:List Value} {x:List V} {fp:List Nat} (h:FC P w ok top v x fp) (ht:∀g,top g->top' g):FC P w ok top' v x fp:=by
 induction h with
 | nil=>exact .nil
 | cons h _ ih=>exact .cons (h.top ht) ih
theorem DD.top {P:Program} {w:World} {ok top top':Nat->Prop} {v:Value} {x:V} {fp:List Nat} (h:DD P w ok top v x fp) (ht:∀g,top g->top' g):DD P w ok top' v x fp:=by
 cases x
 case agg cs=>obtain⟨us,h1,h2⟩:=h;exact⟨us,h1,h2.top ht⟩
 case CQ cs=>obtain⟨g,cur,e,BT,h1,h2,h3,h4,h5⟩:=h;exact⟨g,cur,e,BT,h1,h2,h3.top ht,h4,ht g h5⟩
 all_goals exact Dh.top h ht
theorem Ob.top {P:Program} {w:World} {ok top top':Nat->Prop} {v:Value} {x:V} {fp:List Nat} (h:Ob P w ok top v x fp) (ht:∀g,top g->top' g):Ob P w ok top' v x fp:=by
 cases h with
 | one h=>exact .one (h.top ht)
 | box h=>exact .box (DD.top h ht)
theorem Gd.top {P:Program} {w:World} {ok top top':Nat->Prop} {v:List Value} {x:List V} {fp:List Nat} (h:Gd P w ok top v x fp) (ht:∀g,top g->top' g):Gd P w ok top' v x fp:=by
 induction h with
 | nil=>exact .nil
 | cons h _ ih=>exact .cons (h.top ht) ih
theorem IP.top {P:Program} {w:World} {ok top top':Nat->Prop} {u:Value} {cs:List V} {fp:List Nat} (h:IP P w ok top u cs fp) (ht:∀g,top g->top' g):IP P w ok top' u cs fp:=by
 obtain⟨g,cur,e,BT,h1,h2,h3,h4,h5⟩:=h;exact⟨g,cur,e,BT,h1,h2,h3.top ht,h4,ht g h5⟩
section
variable {P:Program} {B:Nat} {io:Nat->Prop} {w w':World} {tmps:Array Value} {s s' s1:St} {U U':AZ} {F F':Id->List Nat} {fl fl':List Nat} {ok ok' top:Nat->Prop}
theorem QF (h:Wi s s') {g:Nat} (hg:AI s U w g):AI s' U w g:=
 ⟨λ⟨id,b,o,c,sz,h1,h2,h3⟩=>hg.1 ⟨id,b,o,c,sz,h.sub id b h1,h2,h3⟩,hg.2⟩
theorem Rel.E1 (h:Rel P B io w tmps s U F fl) {id:Id} {b:Be} {g:Nat} (hb:s.heap id=some b) (ho:b.own=true) (hg:(F id).head?=some g):AK s U g:=by
 have hB:=h.heap id b hb;unfold Xw at hB;split at hB
 .obtain⟨_,g',cur,e,row,hi,_,_,_,_,_,hF⟩:=hB
  rw[hF] at hg;have:g'=g:=by simpa using hg
  subst this;exact⟨id,b,_,_,_,hb,ho,hi⟩
 .rcases hB with⟨_,_,hF⟩|⟨g',o',c',cur,hi,_,_,_,_,_,fp,hF,_⟩
  .rw[hF] at hg;simp at hg
  .rw[hF] at hg
   have:g'=g:=by simpa using hg
   subst this;exact⟨id,b,_,_,_,hb,ho,hi⟩
 .rename_i h2;rw[ho] at h2;cases h2
theorem jQ (h:Rel P B io w tmps s U F fl) {u:Value} {x y:V} {t:Option TypeId} (hu:En w ok U u x) (Yl:∀g,ok g->AI s U w g) (hg:s.AB t x=some (y,s')):
  ∃fp,Rel P B io w tmps s' U F (fp++fl)/\Dh P w ok (DK s s' U F) u y fp/\Wi s s':=by
 unfold St.AB at hg;split at hg
 .obtain⟨e,_,he⟩:=AM.1 hg
  simp only[A7] at he;obtain⟨rfl,rfl⟩:=he;cases hu;exact⟨[],h,.own (.inl ⟨none,rfl,rfl,rfl⟩) (λg hg=>by simp at hg),.refl _⟩
 .simp only[AF,A7] at hg
  obtain⟨rfl,rfl⟩:=hg;cases hu with|lit hs=>exact⟨[],h,.lit hs,.refl _⟩
 .simp only[AF,A7] at hg
  obtain⟨rfl,rfl⟩:=hg;cases hu with|tr hr=>exact⟨[],h,.tr hr,.refl _⟩
 .simp only[AF,A7] at hg
  obtain⟨rfl,rfl⟩:=hg;cases hu with|vw hr=>exact⟨[],h,.tr hr,.refl _⟩
 .rename_i id off len
  obtain⟨⟨e,rows⟩,hw,he⟩:=AM.1 hg;simp only[A7] at he;obtain⟨rfl,rfl⟩:=he;obtain⟨fp,hR,hO,hh⟩:=h.Gu (hu.ext Yl (λ_ _ h=>h)) hw;refine⟨fp,hR,.own hO (λg hg=>?_),.kill s id⟩;unfold St.whole at hw;obtain⟨b,hb,hw⟩:=AA.1 hw;split at hw
  .rename_i hc
   exact⟨id,b,hb,hc.2.1,Ke,(hh g hg).1,(hh g hg).2⟩
  .cases hw
 .cases hg
theorem Yfo:∀(xs:List V) {us:List Value} {ts:List (Option TypeId)} {s s':St} {fl:List Nat} {ys:List V},Rel P B io w tmps s U F fl->us.length=xs.length->(∀(j:Nat) (u:Value) (x:V),us[j]?=some u->xs[j]?=some x->En w ok U u x)->
  (∀g,ok g->AI s U w g)->s.AL ts xs=some (ys,s')->∃fp,Rel P B io w tmps s' U F (fp++fl)/\FC P w ok (DK s s' U F) us ys fp/\Wi s s'/\ys.length=xs.length:=by
 intro xs
 induction xs with
 | nil=>
  intro us ts s s' fl ys h hl Wa Yl hg;have:us=[]:=GK (by simpa using hl);subst this;simp only[St.AL,AF,A7] at hg;obtain⟨rfl,rfl⟩:=hg;exact⟨[],h,.nil,.refl _,rfl⟩
 | cons x xs ih=>
  intro us ts s s' fl ys h hl Wa Yl hg
  match us,hl with
  | u::us,hl=>
   simp only[St.AL] at hg;obtain⟨⟨y,s1⟩,h1,hg⟩:=AA.1 hg;obtain⟨⟨zs,s2⟩,h2,hg⟩:=AM.1 hg;simp only[A7] at hg;obtain⟨rfl,rfl⟩:=hg;simp only at h2;obtain⟨f1,r1,g1,l1⟩:=jQ h (Wa 0 u x rfl rfl) Yl h1;obtain⟨f2,r2,g2,l2,l3⟩:=ih r1 (by simpa using hl) (λj v z hv hz=>Wa (j+1) v z (by simpa using hv) (by simpa using hz)) (λg hg=>QF l1 (Yl g hg)) h2;refine⟨f1++f2,r2.perm ?_,.cons (g1.top λg hg=>hg.left l2) (g2.top λg hg=>hg.right l1),l1.trans l2,by simp[l3]⟩;rw[List.append_assoc];exact (Px _ _ _)
theorem x5 (h:Rel P B io w tmps s U F fl) {ts:List (Option TypeId)} {u:Value} {x y:V} (hu:En w ok U u x) (Yl:∀g,ok g->AI s U w g) (hg:s.Bb ts x=some (y,s')):
  ∃fp,Rel P B io w tmps s' U F (fp++fl)/\DD P w ok (DK s s' U F) u y fp/\Wi s s':=by
 unfold St.Bb at hg;split at hg
 .rename_i cs
  obtain⟨⟨ys,s1⟩,h1,he⟩:=AM.1 hg;simp only[A7] at he;obtain⟨rfl,rfl⟩:=he;cases hu with
  | @agg vs _ hl hc hr=>
   obtain⟨fp,a,b,c,_⟩:=Yfo cs (us:=vs.toList) h (by simpa using hl) (λj v z hv hz=>hr j v z (by simpa using hv) hz) Yl h1;exact⟨fp,a,⟨vs,rfl,b⟩,c⟩
 .rename_i Yj
  obtain⟨fp,a,b,c⟩:=jQ h hu Yl hg;refine⟨fp,a,?_,c⟩;cases b with
  | lit h=>exact .lit h
  | tr h=>exact .tr h
  | own h k=>exact .own h k
theorem Yn6 (h:Rel P B io w tmps s U F fl) {ts:List (Option TypeId)} {u:Value} {id:Id} {ys:List V} (hu:En w ok U u (.ptr id 0 0)) (Yl:∀g,ok g->AI s U w g) (Ge:∀b row,s.heap id=some b->b.rows=[row]->b.box=true->∀(j:Nat) (cur:Array Value) (e:TypeId) (g o c sz:Nat) (v:Value) (x:V),U id=some (.Bn g o c sz)->w.heap[g]?=some (.cells cur e (0,0))->cur[j]?=some v->row[j]?=some x->En w ok U v x)
  (hg:s.Bw ts id=some (ys,s')):∃fp,Rel P B io w tmps s' U F (fp++fl)/\DD P w ok (DK s s' U F) u (.CQ ys) fp/\Wi s s'/\∃g,U id=some (.Bn g 0 1 ys.length):=by
 unfold St.Bw at hg;obtain⟨b,hb,hg⟩:=AA.1 hg;split at hg
 .rename_i hc
  obtain⟨Xp,Yz⟩:=hc;split at hg
  .rename_i row hr
   have hB:=h.heap id b hb;unfold Xw at hB;rw[Xp] at hB;obtain⟨_,g,cur,e,Ck,hi,Ei,Cl,hs,he,GQ,hF⟩:=hB;rw[hr] at Cl;injection Cl with Cl _;subst Cl;have BK:=h.float hb Yz;obtain⟨fp,a,b',c,d⟩:=Yfo row (us:=cur.toList) BK (by simpa using hs) (λj v z hv hz=>Ge b row hb hr Xp j cur e g _ _ _ v z hi Ei (by simpa using hv) hz) (λg hg=>QF (.kill s id) (Yl g hg)) hg;rw[hF] at a;refine⟨g::fp,a.perm (Tu (l₁:=fp) (l₂:=fl)).symm,?_,(Wi.kill s id).trans c,g,by rw[d];exact hi⟩;generalize hq:(V.ptr id 0 0)=q at hu;cases hu<;>cases hq;rename_i g' o' c' sz hU;rw[hi] at hU;injection hU with hU;injection hU with h1 h2 h3 h4;subst h1;subst h2;refine⟨g,cur,e,fp,by simp,Ei,b'.top (λg hg=>hg.right (.kill s id)),rfl,⟨id,b,hb,Yz,c.none Ke,by rw[hF];rfl,g,0,1,_,hi,Nat.one_pos⟩⟩
  .cases hg
 .cases hg
def QG (w:World) (ok:Nat->Prop) (U:AZ) (s:St):Prop:=∀(id:Id) b row,s.heap id=some b->b.rows=[row]->b.box=true->∀(j:Nat) (cur:Array Value) (e:TypeId) (g o c sz:Nat) (v:Value) (x:V),U id=some (.Bn g o c sz)->w.heap[g]?=some (.cells cur e (0,0))->cur[j]?=some v->row[j]?=some x->En w ok U v x
theorem QG.less (h:QG w ok U s) (hl:Wi s s'):QG w ok U s':=λid b row hb=>h id b row (hl.sub id b hb)
theorem Ywy (h:Rel P B io w tmps s U F fl) {u:Value} {x y:V} {t:Option TypeId} (hu:En w ok U u x) (Yl:∀g,ok g->AI s U w g) (Ge:QG w ok U s) (hg:s.Bj t x=some (y,s')):
  ∃fp,Rel P B io w tmps s' U F (fp++fl)/\Ob P w ok (DK s s' U F) u y fp/\Wi s s':=by
 unfold St.Bj at hg;split at hg
 .rename_i id
  obtain⟨⟨cs,s4⟩,h3,he⟩:=AM.1 hg;simp only[A7] at he;obtain⟨rfl,rfl⟩:=he;obtain⟨fp,a,b,c,_⟩:=Yn6 h hu Yl (Ge id) h3;exact⟨fp,a,.box b,c⟩
 .obtain⟨fp,a,b,c⟩:=jQ h hu Yl hg
  exact⟨fp,a,.one b,c⟩
theorem Yt6:∀(xs:List V) {us:List Value} {ts:List (Option TypeId)} {s s':St} {fl:List Nat} {ys:List V},Rel P B io w tmps s U F fl->us.length=xs.length->(∀(j:Nat) (u:Value) (x:V),us[j]?=some u->xs[j]?=some x->En w ok U u x)->
  (∀g,ok g->AI s U w g)->QG w ok U s->s.AR ts xs=some (ys,s')->∃fp,Rel P B io w tmps s' U F (fp++fl)/\Gd P w ok (DK s s' U F) us ys fp/\Wi s s'/\ys.length=xs.length:=by
 intro xs
 induction xs with
 | nil=>
  intro us ts s s' fl ys h hl Wa Yl _ hg;have:us=[]:=GK (by simpa using hl);subst this;simp only[St.AR,AF,A7] at hg;obtain⟨rfl,rfl⟩:=hg;exact⟨[],h,.nil,.refl _,rfl⟩
 | cons x xs ih=>
  intro us ts s s' fl ys h hl Wa Yl Ge hg
  match us,hl with
  | u::us,hl=>
   simp only[St.AR] at hg;obtain⟨⟨y,s1⟩,h1,hg⟩:=AA.1 hg;obtain⟨⟨zs,s2⟩,h2,hg⟩:=AM.1 hg;simp only[A7] at hg;obtain⟨rfl,rfl⟩:=hg;simp only at h2;obtain⟨f1,r1,g1,l1⟩:=Ywy h (Wa 0 u x rfl rfl) Yl Ge h1;obtain⟨f2,r2,g2,l2,l3⟩:=ih r1 (by simpa using hl) (λj v z hv hz=>Wa (j+1) v z (by simpa using hv) (by simpa using hz)) (λg hg=>QF l1 (Yl g hg)) (Ge.less l1) h2;refine⟨f1++f2,r2.perm ?_,.cons (g1.top λg hg=>hg.left l2) (g2.top λg hg=>hg.right l1),l1.trans l2,by simp[l3]⟩;rw[List.append_assoc];exact (Px _ _ _)
theorem Yi8 (h:Rel P B io w tmps s U F fl) {ts:List (Option TypeId)} {u:Value} {id:Id} {ys:List V} (hu:En w ok U u (.ptr id 0 0)) (Yl:∀g,ok g->AI s U w g) (Ge:QG w ok U s)
  (hg:s.Bg ts id=some (ys,s')):∃fp,Rel P B io w tmps s' U F (fp++fl)/\IP P w ok (DK s s' U F) u ys fp/\Wi s s'/\∃g,U id=some (.Bn g 0 1 ys.length):=by
 unfold St.Bg at hg;obtain⟨b,hb,hg⟩:=AA.1 hg;split at hg
 .rename_i hc
  obtain⟨Xp,Yz⟩:=hc;split at hg
  .rename_i row hr
   have hB:=h.heap id b hb;unfold Xw at hB;rw[Xp] at hB;obtain⟨_,g,cur,e,Ck,hi,Ei,Cl,hs,he,GQ,hF⟩:=hB;rw[hr] at Cl;injection Cl with Cl _;subst Cl;have BK:=h.float hb Yz;obtain⟨fp,a,b',c,d⟩:=Yt6 row (us:=cur.toList) BK (by simpa using hs) (λj v z hv hz=>Ge id b row hb hr Xp j cur e g _ _ _ v z hi Ei (by simpa using hv) hz) (λg hg=>QF (.kill s id) (Yl g hg)) (Ge.less (.kill s id)) hg;rw[hF] at a;refine⟨g::fp,a.perm (Tu (l₁:=fp) (l₂:=fl)).symm,?_,(Wi.kill s id).trans c,g,by rw[d];exact hi⟩;generalize hq:(V.ptr id 0 0)=q at hu;cases hu<;>cases hq;rename_i g' o' c' sz hU;rw[hi] at hU;injection hU with hU;injection hU with h1 h2 h3 h4;subst h1;subst h2;refine⟨g,cur,e,fp,by simp,Ei,b'.top (λg hg=>hg.right (.kill s id)),rfl,⟨id,b,hb,Yz,c.none Ke,by rw[hF];rfl,g,0,1,_,hi,Nat.one_pos⟩⟩
  .cases hg
 .cases hg
end
end Go.Proofs.YthdljdelfgofdaaGreatDoor.Ev
