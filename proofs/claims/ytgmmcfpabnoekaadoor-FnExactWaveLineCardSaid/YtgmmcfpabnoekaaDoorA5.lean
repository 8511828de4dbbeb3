/- A part of the proof of FnExactWaveLine: see the text YtgmmcfpabnoekaaDoorLawFnExactWaveLine for what is proved and its conditions. Conditions here: those in each line. -/
import Derived.Test.YtgmmcfpabnoekaaDoorA4
namespace Go.Proofs.YtgmmcfpabnoekaaDoor.Ev
open Go Go.Proofs
set_option linter.unusedVariables false
set_option linter.unusedSimpArgs false
section
variable {α β σ ρ:Type}
end
section
variable {α:Type}
end
def L8 (b:ByteArray):List UInt8:=b.data.toList
theorem W9 (a b:ByteArray):L8 (a++b)=L8 a++L8 b:=by simp[L8]
theorem Zcx {a b:ByteArray} (h:L8 a=L8 b):a=b:=by
 cases a;cases b
 simp only[L8] at h
 rw[Array.toList_inj.1 h]
theorem Wa (a:ByteArray):a.size=(L8 a).length:=by show a.data.size=a.data.toList.length;rw[Array.length_toList]
theorem Xr (l:List UInt8):L8 (strL l)=l:=rfl
theorem Zg9:L8 ByteArray.empty=[]:=rfl
theorem Q2 {a b:ByteArray} (h:a.size+b.size < 9223372036854775808):catI a b=some ():=by
 unfold catI
 rw[if_neg (by simp[IntKind.max,IntKind.signed,IntKind.bits];omega)]
theorem Xp (a b:ByteArray):(a++b).size=a.size+b.size:=by rw[Wa,W9,List.length_append,Wa,Wa]
theorem Z3 (l:List UInt8):(strL l).size=l.length:=by rw[Wa,Xr]
theorem Kq:∀(k u:Nat),u < 10^(k+1)→(Lib.decDigits u).length≤k+1:=by
 intro k
 induction k with
 | zero=>
  intro u hu
  rw[Lib.decDigits,dif_pos (by omega)];simp
 | succ k ih=>
  intro u hu
  rw[Lib.decDigits]
  split
  ·simp
  ·rw[List.length_append]
   have:=ih (u / 10) (by rw[Nat.pow_succ] at hu;omega)
   simp;omega
def dgL (u:Nat):List UInt8:=if u=0 then [] else Lib.decDigits u
theorem Zg8 {u:Nat} (h:u≠0):dgL u=dgL (u / 10)++[UInt8.ofNat (48+u % 10)]:=by
 unfold dgL
 rw[if_neg h,Lib.decDigits]
 split
 ·rename_i h1
  rw[if_pos (by omega),Nat.mod_eq_of_lt h1];rfl
 ·rw[if_neg (by omega)]
def InR (x:Int):Prop:=-9223372036854775808≤x∧x≤9223372036854775807
def decB (x:Int):ByteArray:=⟨(Lib.itoa x).toArray⟩
theorem Wu (x:Int):L8 (decB x)=Lib.itoa x:=rfl
theorem Zil {x:Int} (h:InR x):(Lib.itoa x).length≤20:=by
 obtain⟨h1,h2⟩:=h
 unfold Lib.itoa
 split
 ·have:=Kq 18 x.natAbs (by omega)
  simp;omega
 ·have:=Kq 18 x.toNat (by omega)
  omega
theorem K1 {x:Int} (h:InR x):(decB x).size≤20:=by rw[Wa,Wu];exact Zil h
theorem Zhy {x:Int} (h:x≠0):Lib.itoa x=(if x < 0 then [45] else [])++dgL x.natAbs:=by
 unfold Lib.itoa dgL
 have hn:¬x.natAbs=0:=by omega
 by_cases hx:x < 0
 ·rw[if_pos hx,if_pos hx,if_neg hn];rfl
 ·have:x.toNat=x.natAbs:=by omega
  rw[if_neg hx,if_neg hx,if_neg hn,this];rfl
theorem Zfu:Lib.itoa 0=[48]:=by
 unfold Lib.itoa
 rw[if_neg (by omega),show (0:Int).toNat=0 from rfl,Lib.decDigits,dif_pos (by omega)];rfl
theorem digB {d:Int} (h0:0≤d) (h1:d < 10):strB [w8 (addW 48 d)]=strL [UInt8.ofNat (48+d.toNat)]:=by
 have:w8 (addW 48 d)=((48+d.toNat:Nat):Int):=by
  simp[w8,addW,IntKind.wrap,IntKind.bits,IntKind.signed];omega
 rw[this]
 rfl
theorem Zew (x0:Int):∀(m:Nat) (v0:Int) (v1:ByteArray),v0.natAbs < m→InR v0→(v1.size+v0.natAbs < 9223372036854775807∨v1.size=0)→
  ∃r,Y0 x0 m v0 v1=some r∧L8 r=(if x0 < 0 then [45] else [])++dgL v0.natAbs++L8 v1:=by
 intro m
 induction m with
 | zero=>intro v0 v1 h;omega
 | succ m ih=>
  intro v0 v1 hm hr hs
  show ∃r,W6 x0 (Y0 x0 m) v0 v1=some r∧_
  unfold W6
  obtain⟨hr1,hr2⟩:=hr
  by_cases h0:v0=0
  ·subst h0
   rw[if_neg (by simp)]
   by_cases hx:x0 < 0
   ·rw[if_pos (by simpa using hx),Q2 (by
     have hz:(0:Int).natAbs=0:=rfl
     rw[hz] at hs
     rw[Z3]
     show 1+v1.size < _
     omega),Option.bind_some]
    exact⟨_,rfl,by rw[if_pos hx,W9];rfl⟩
   ·rw[if_neg (by simpa using hx)]
    exact⟨_,rfl,by rw[if_neg hx];rfl⟩
  ·rw[if_pos (by simpa using h0)]
   have hq:quoW v0 10=v0.tdiv 10:=by
    unfold quoW
    have:(v0.tdiv 10).natAbs=v0.natAbs / 10:=by rw[Int.natAbs_tdiv];rfl
    simp[IntKind.wrap,IntKind.bits,IntKind.signed];omega
   have hqa:(v0.tdiv 10).natAbs=v0.natAbs / 10:=by rw[Int.natAbs_tdiv];rfl
   have hra:(v0.tmod 10).natAbs=v0.natAbs % 10:=by rw[Int.natAbs_tmod];rfl
   have step:∀d:Int,0≤d→d.toNat=v0.natAbs % 10→∃r,Xj x0 (Y0 x0 m) v0 v1 d=some r∧L8 r=(if x0 < 0 then [45] else [])++dgL v0.natAbs++L8 v1:=fun d hd0 hd=>by
    unfold Xj
    rw[digB hd0 (by omega),Q2 (by rw[Z3];simp;omega),Option.bind_some,hq]
    obtain⟨r,h1,h2⟩:=ih (v0.tdiv 10) (strL [UInt8.ofNat (48+d.toNat)]++v1) (by omega) (by constructor<;>omega) (.inl (by rw[Xp,Z3,hqa];simp;omega))
    refine⟨r,h1,?_⟩
    rw[h2,hqa,W9,Xr,Zg8 (u:=v0.natAbs) (by omega),hd]
    simp
   unfold remW at*
   by_cases hn:v0.tmod 10 < 0
   ·rw[if_pos (by simpa using hn)]
    have hneg:negW (v0.tmod 10)=-(v0.tmod 10):=by
     simp[negW,IntKind.wrap,IntKind.bits,IntKind.signed];omega
    rw[hneg]
    exact step _ (by omega) (by omega)
   ·rw[if_neg (by simpa using hn)]
    exact step _ (by omega) (by omega)
theorem Zcl {x:Int} (h:InR x):Qx x=some (decB x):=by
 unfold Qx
 by_cases h0:x=0
 ·subst h0
  rw[if_pos (by simp)]
  exact congrArg some (Zcx (by rw[Wu,Zfu,Xr]))
 ·rw[if_neg (by simpa using h0)]
  obtain⟨r,h1,h2⟩:=Zew x FU x ByteArray.empty (by obtain⟨h1,h2⟩:=h;unfold FU;omega) h (.inr rfl)
  rw[h1]
  exact congrArg some (Zcx (by rw[h2,Wu,Zhy h0,Zg9,List.append_nil]))
theorem Zbo {x:Int} (h:InR x):Qz x=some (decB x):=by
 unfold Qz Xi
 rw[if_pos (show _∧_ from h)]
 rfl
theorem Zhr {ws:List ByteArray} {sep:ByteArray} (h1:ws.length≤1000000000) (h2:(Lib.join (ws.map L8) (L8 sep)).length≤140737488355328):Yt ws sep=some ⟨(Lib.join (ws.map L8) (L8 sep)).toArray⟩:=by
 unfold Yt
 rw[if_pos ⟨by omega,h2⟩]
 rfl
theorem Qy {n:Int} (h:(Lit.int .i64 n).wf=true):InR n:=by
 simp[Lit.wf,IntKind.min,IntKind.max,IntKind.signed,IntKind.bits] at h
 exact⟨by omega,by omega⟩
def X1 (x:Int):ByteArray:=if x=0 then strL [111,107,97,121] else if x=1 then strL [101,114,114,111,114] else if x=2 then strL [114,101,116,114,121] else if x=3 then strL [115,112,108,105,116] else ByteArray.empty
theorem Jy (x:Int):(X1 x).size≤5:=by
 unfold X1
 repeat' split
 all_goals first|decide|(rw[Z3];simp)
theorem Zbc (x:Int):Xf x=some (X1 x):=by
 by_cases h0:x < 0
 ·unfold Xf Kg X1
  rw[if_neg (by simp;omega),if_neg (by omega),if_neg (by omega),if_neg (by omega),if_neg (by omega)];rfl
 ·by_cases h3:3 < x
  ·unfold Xf Kg X1
   rw[if_pos (by simp;omega),Option.bind_some,if_pos (by simp;omega),if_neg (by omega),if_neg (by omega),if_neg (by omega),if_neg (by omega)]
  ·have:x=0∨x=1∨x=2∨x=3:=by omega
   rcases this with rfl|rfl|rfl|rfl<;>rfl
theorem Zbb (x:Int):Xe x=some (X1 x):=by
 have hl:subW (([strL [111,107,97,121],strL [101,114,114,111,114],strL [114,101,116,114,121],strL [115,112,108,105,116]]:List ByteArray).length:Int) 1=3:=by rfl
 by_cases h0:x < 0
 ·unfold Xe Yy Xh X1
  rw[if_neg (by simp;omega),if_neg (by omega),if_neg (by omega),if_neg (by omega),if_neg (by omega)];rfl
 ·by_cases h3:3 < x
  ·unfold Xe Yy Xh X1
   rw[hl,if_pos (by simp;omega),Option.bind_some,if_pos (by simp;omega),if_neg (by omega),if_neg (by omega),if_neg (by omega),if_neg (by omega)];rfl
  ·have:x=0∨x=1∨x=2∨x=3:=by omega
   rcases this with rfl|rfl|rfl|rfl<;>rfl
def Wq (x:Int):ByteArray:=if x=0 then strL [105,100,108,101] else if x=2 then strL [102,105,114,115,116] else if x=3 then strL [110,101,120,116] else ByteArray.empty
theorem Zah (x:Int):(Wq x).size≤5:=by
 unfold Wq
 repeat' split
 all_goals first|decide|(rw[Z3];simp)
theorem Zbg (x:Int):X3 x=some (Wq x):=by
 unfold X3 Wq
 by_cases h0:x=0
 ·rw[if_pos (by simpa using h0),if_pos h0]
 ·rw[if_neg (by simpa using h0),if_neg h0]
  by_cases h2:x=2
  ·rw[if_pos (by simpa using h2),if_pos h2]
  ·rw[if_neg (by simpa using h2),if_neg h2]
   by_cases h3:x=3
   ·rw[if_pos (by simpa using h3),if_pos h3]
   ·rw[if_neg (by simpa using h3),if_neg h3]
theorem Za5 (x:Int):Y9 x=some (Wq x):=by
 have hl:subW (([strL [105,100,108,101],ByteArray.empty,strL [102,105,114,115,116],strL [110,101,120,116]]:List ByteArray).length:Int) 1=3:=by rfl
 by_cases h0:x < 0
 ·unfold Y9 Yy Xh Wq
  rw[if_neg (by simp;omega),if_neg (by omega),if_neg (by omega),if_neg (by omega)];rfl
 ·by_cases h3:3 < x
  ·unfold Y9 Yy Xh Wq
   rw[hl,if_pos (by simp;omega),Option.bind_some,if_pos (by simp;omega),if_neg (by omega),if_neg (by omega),if_neg (by omega)];rfl
  ·have:x=0∨x=1∨x=2∨x=3:=by omega
   rcases this with rfl|rfl|rfl|rfl<;>rfl
def Yp (x:Int):ByteArray:=if x < 0 then strL [45] else decB x
theorem Z8 {x:Int} (h:InR x):(Yp x).size≤20:=by
 unfold Yp
 split
 ·rw[Z3];simp
 ·exact K1 h
theorem Xm {x:Int} (h:InR x):Yo x=some (Yp x):=by
 unfold Yo Yp
 by_cases h0:x < 0
 ·rw[if_pos (by simpa using h0),if_pos h0]
 ·rw[if_neg (by simpa using h0),if_neg h0,Zcl h];rfl
theorem Xk {x:Int} (h:InR x):Ym x=some (Yp x):=by
 unfold Ym Yp
 by_cases h0:x < 0
 ·rw[if_pos (by simpa using h0),if_pos h0]
 ·rw[if_neg (by simpa using h0),if_neg h0,Zbo h];rfl
structure GWave.nums (w:GWave):Prop where
 cycle:InR w.cycle
 who:InR w.who
 addr:InR w.addr
 from_:InR w.from_
 data_:InR w.data_
 got:InR w.got
theorem GWave.ok.nums {w:GWave} (h:w.ok):w.nums:=by
 obtain⟨h1,h2,h3,h4,h5,h6,_,h8,h9⟩:=h
 exact⟨Qy h1,Qy h4,Qy h2,Qy h6,Qy h5,Qy h9⟩
def Kz (b:Bool):List UInt8:=if b=true then [114,101,97,100,121] else [119,97,105,116]
def Qq (w:GWave):List UInt8:=Lib.itoa w.cycle++[32]++L8 (Wq w.kind)++[32]++L8 (Yp w.who)++[58]++L8 (Yp w.addr)++[32]++L8 (Yp w.from_)++[58]++L8 (Yp w.data_)++[32]++Kz w.ready++[32]++L8 (X1 w.resp)++[32]++L8 (Yp w.got)
theorem Za7 {w:GWave} (h:w.nums):Xv w=some ⟨(Qq w).toArray⟩:=by
 have h1:=K1 h.cycle
 have h2:=Z8 h.who
 have h3:=Z8 h.addr
 have h4:=Z8 h.from_
 have h5:=Z8 h.data_
 have h6:=Z8 h.got
 have h7:=Jy w.resp
 have h8:=Zah w.kind
 have key:∀(v0:ByteArray) (X:List UInt8),v0.size≤1000→L8 v0++L8 (X1 w.resp)++[32]++L8 (Yp w.got)=X→Yi w v0=some ⟨X.toArray⟩:=fun v0 X hv hX=>by
  unfold Yi
  rw[Xm h.got,Zbc]
  simp (disch:=(first|omega|(simp only[Xp,Z3,List.length_cons,List.length_nil];omega))) only[Q2,Option.bind_some]
  refine congrArg some (Zcx ?_)
  rw[←hX]
  simp only[W9,Xr]
  rfl
 unfold Xv
 rw[Zcl h.cycle,Xm h.who,Xm h.addr,Xm h.from_,Xm h.data_,Zbg]
 simp (disch:=(first|omega|(simp only[Xp,Z3,List.length_cons,List.length_nil];omega))) only[Q2,Option.bind_some]
 cases hw:w.ready with
 | true=>
  rw[if_pos rfl]
  refine key _ _ (by simp only[Xp,Z3,List.length_cons,List.length_nil];omega) ?_
  unfold Qq Kz
  rw[if_pos hw]
  simp only[W9,Xr,Wu,List.append_assoc,List.cons_append,List.nil_append]
 | false=>
  rw[if_neg (by simp)]
  refine key _ _ (by simp only[Xp,Z3,List.length_cons,List.length_nil];omega) ?_
  unfold Qq Kz
  rw[if_neg (by rw[hw];simp)]
  simp only[W9,Xr,Wu,List.append_assoc,List.cons_append,List.nil_append]
theorem Za8 {w:GWave} (h:w.nums):Xx w=some ⟨(Qq w).toArray⟩:=by
 have h1:=K1 h.cycle
 have h2:=Z8 h.who
 have h3:=Z8 h.addr
 have h4:=Z8 h.from_
 have h5:=Z8 h.data_
 have h6:=Z8 h.got
 have h7:=Jy w.resp
 have h8:=Zah w.kind
 have key:∀v0:ByteArray,L8 v0=Kz w.ready→Yh w v0=some ⟨(Qq w).toArray⟩:=fun v0 hv=>by
  have hv5:v0.size≤5:=by rw[Wa,hv];unfold Kz;split<;>simp
  have ej:Lib.join ([decB w.cycle,Wq w.kind,Yp w.who++strL [58]++Yp w.addr,Yp w.from_++strL [58]++Yp w.data_,v0,X1 w.resp,Yp w.got].map L8) (L8 (strL [32]))=Qq w:=by
   unfold Qq
   simp only[List.map_cons,List.map_nil,Lib.join,List.intercalate,List.intersperse,List.flatten_cons,List.flatten_nil,Xr,Wu,W9,hv]
   simp
  have hl:(Qq w).length≤1000:=by
   rw[←ej]
   simp only[List.map_cons,List.map_nil,Lib.join,List.intercalate,List.intersperse,List.flatten_cons,List.flatten_nil,List.length_append,←Wa,Xp,Z3,Xr,List.length_cons,List.length_nil]
   omega
  unfold Yh
  rw[Zbo h.cycle,Xk h.who,Xk h.addr,Xk h.from_,Xk h.data_,Xk h.got,Za5,Zbb]
  simp (disch:=(simp only[Xp,Z3,List.length_cons,List.length_nil];omega)) only[Q2,Option.bind_some]
  rw[Zhr (by simp) (by rw[ej];omega),Option.bind_some,ej]
 unfold Xx
 cases hw:w.ready with
 | true=>rw[if_pos rfl];exact key _ (by rw[hw];rfl)
 | false=>rw[if_neg (by simp)];exact key _ (by rw[hw];rfl)
end Go.Proofs.YtgmmcfpabnoekaaDoor.Ev
namespace Go.Proofs.YtgmmcfpabnoekaaDoor.Ev
open Go Go.Proofs
theorem Q4 (w:GWave) (h:w.ok):Y3 w=some true:=by
 unfold Y3 Wt
 rw[Option.bind_some,Za7 h.nums,Option.bind_some,Option.bind_some,Za8 h.nums,Option.bind_some,if_neg (by simp)]
end Go.Proofs.YtgmmcfpabnoekaaDoor.Ev
