/- A part of the proof of FnExactDoneLine: see the text YtgmmcfpabnoekaaDoorLawFnExactDoneLine for what is proved and its conditions. Conditions here: those in each line. -/
import Derived.Test.YtgmmcfpabnoekaaDoorA4
namespace Go.Proofs.YtgmmcfpabnoekaaDoor.Ev
open Go Go.Proofs
set_option linter.unusedVariables false
set_option linter.unusedSimpArgs false
section
variable {α β σ ρ:Type}
end
section
variable {α:Type}
end
def L8 (b:ByteArray):List UInt8:=b.data.toList
theorem Jx (a b:ByteArray):L8 (a++b)=L8 a++L8 b:=by simp[L8]
theorem Jj {a b:ByteArray} (h:L8 a=L8 b):a=b:=by
 cases a;cases b
 simp only[L8] at h
 rw[Array.toList_inj.1 h]
theorem Wl (a:ByteArray):a.size=(L8 a).length:=by show a.data.size=a.data.toList.length;rw[Array.length_toList]
theorem L8_mk (l:List UInt8):L8 ⟨l.toArray⟩=l:=rfl
theorem Xi (l:List UInt8):L8 (strL l)=l:=rfl
theorem Zgd:L8 ByteArray.empty=[]:=rfl
theorem Zaa {a b:ByteArray} (h:a.size+b.size < 9223372036854775808):catI a b=some ():=by
 unfold catI
 rw[if_neg (by simp[IntKind.max,IntKind.signed,IntKind.bits];omega)]
theorem Zcc (a b:ByteArray):(a++b).size=a.size+b.size:=by rw[Wl,Jx,List.length_append,Wl,Wl]
theorem Y6 (l:List UInt8):(strL l).size=l.length:=by rw[Wl,Xi]
theorem Ke:∀(k u:Nat),u < 10^(k+1)→(Lib.decDigits u).length≤k+1:=by
 intro k
 induction k with
 | zero=>
  intro u hu
  rw[Lib.decDigits,dif_pos (by omega)];simp
 | succ k ih=>
  intro u hu
  rw[Lib.decDigits]
  split
  ·simp
  ·rw[List.length_append]
   have:=ih (u / 10) (by rw[Nat.pow_succ] at hu;omega)
   simp;omega
def dgL (u:Nat):List UInt8:=if u=0 then [] else Lib.decDigits u
theorem Zf0 {u:Nat} (h:u≠0):dgL u=dgL (u / 10)++[UInt8.ofNat (48+u % 10)]:=by
 unfold dgL
 rw[if_neg h,Lib.decDigits]
 split
 ·rename_i h1
  rw[if_pos (by omega),Nat.mod_eq_of_lt h1];rfl
 ·rw[if_neg (by omega)]
def InR (x:Int):Prop:=-9223372036854775808≤x∧x≤9223372036854775807
def decB (x:Int):ByteArray:=⟨(Lib.itoa x).toArray⟩
theorem Ql (x:Int):L8 (decB x)=Lib.itoa x:=rfl
theorem Qm {x:Int} (h:InR x):(Lib.itoa x).length≤20:=by
 obtain⟨h1,h2⟩:=h
 unfold Lib.itoa
 split
 ·have:=Ke 18 x.natAbs (by omega)
  simp;omega
 ·have:=Ke 18 x.toNat (by omega)
  omega
theorem W9 {x:Int} (h:InR x):(decB x).size≤20:=by rw[Wl,Ql];exact Qm h
theorem Zhg {x:Int} (h:x≠0):Lib.itoa x=(if x < 0 then [45] else [])++dgL x.natAbs:=by
 unfold Lib.itoa dgL
 have hn:¬x.natAbs=0:=by omega
 by_cases hx:x < 0
 ·rw[if_pos hx,if_pos hx,if_neg hn];rfl
 ·have:x.toNat=x.natAbs:=by omega
  rw[if_neg hx,if_neg hx,if_neg hn,this];rfl
theorem Ze1:Lib.itoa 0=[48]:=by
 unfold Lib.itoa
 rw[if_neg (by omega),show (0:Int).toNat=0 from rfl,Lib.decDigits,dif_pos (by omega)];rfl
theorem digB {d:Int} (h0:0≤d) (h1:d < 10):strB [w8 (addW 48 d)]=strL [UInt8.ofNat (48+d.toNat)]:=by
 have:w8 (addW 48 d)=((48+d.toNat:Nat):Int):=by
  simp[w8,addW,IntKind.wrap,IntKind.bits,IntKind.signed];omega
 rw[this]
 rfl
theorem Zea (x0:Int):∀(m:Nat) (v0:Int) (v1:ByteArray),v0.natAbs < m→InR v0→(v1.size+v0.natAbs < 9223372036854775807∨v1.size=0)→
  ∃r,Ys x0 m v0 v1=some r∧L8 r=(if x0 < 0 then [45] else [])++dgL v0.natAbs++L8 v1:=by
 intro m
 induction m with
 | zero=>intro v0 v1 h;omega
 | succ m ih=>
  intro v0 v1 hm hr hs
  show ∃r,Wo x0 (Ys x0 m) v0 v1=some r∧_
  unfold Wo
  obtain⟨hr1,hr2⟩:=hr
  by_cases h0:v0=0
  ·subst h0
   rw[if_neg (by simp)]
   by_cases hx:x0 < 0
   ·rw[if_pos (by simpa using hx),Zaa (by
     have hz:(0:Int).natAbs=0:=rfl
     rw[hz] at hs
     rw[Y6]
     show 1+v1.size < _
     omega),Option.bind_some]
    exact⟨_,rfl,by rw[if_pos hx,Jx];rfl⟩
   ·rw[if_neg (by simpa using hx)]
    exact⟨_,rfl,by rw[if_neg hx];rfl⟩
  ·rw[if_pos (by simpa using h0)]
   have hq:quoW v0 10=v0.tdiv 10:=by
    unfold quoW
    have:(v0.tdiv 10).natAbs=v0.natAbs / 10:=by rw[Int.natAbs_tdiv];rfl
    simp[IntKind.wrap,IntKind.bits,IntKind.signed];omega
   have hqa:(v0.tdiv 10).natAbs=v0.natAbs / 10:=by rw[Int.natAbs_tdiv];rfl
   have hra:(v0.tmod 10).natAbs=v0.natAbs % 10:=by rw[Int.natAbs_tmod];rfl
   have step:∀d:Int,0≤d→d.toNat=v0.natAbs % 10→∃r,Xa x0 (Ys x0 m) v0 v1 d=some r∧L8 r=(if x0 < 0 then [45] else [])++dgL v0.natAbs++L8 v1:=fun d hd0 hd=>by
    unfold Xa
    rw[digB hd0 (by omega),Zaa (by rw[Y6];simp;omega),Option.bind_some,hq]
    obtain⟨r,h1,h2⟩:=ih (v0.tdiv 10) (strL [UInt8.ofNat (48+d.toNat)]++v1) (by omega) (by constructor<;>omega) (.inl (by rw[Zcc,Y6,hqa];simp;omega))
    refine⟨r,h1,?_⟩
    rw[h2,hqa,Jx,Xi,Zf0 (u:=v0.natAbs) (by omega),hd]
    simp
   unfold remW at*
   by_cases hn:v0.tmod 10 < 0
   ·rw[if_pos (by simpa using hn)]
    have hneg:negW (v0.tmod 10)=-(v0.tmod 10):=by
     simp[negW,IntKind.wrap,IntKind.bits,IntKind.signed];omega
    rw[hneg]
    exact step _ (by omega) (by omega)
   ·rw[if_neg (by simpa using hn)]
    exact step _ (by omega) (by omega)
theorem Q9 {x:Int} (h:InR x):Xv x=some (decB x):=by
 unfold Xv
 by_cases h0:x=0
 ·subst h0
  rw[if_pos (by simp)]
  exact congrArg some (Jj (by rw[Ql,Ze1,Xi]))
 ·rw[if_neg (by simpa using h0)]
  obtain⟨r,h1,h2⟩:=Zea x FU x ByteArray.empty (by obtain⟨h1,h2⟩:=h;unfold FU;omega) h (.inr rfl)
  rw[h1]
  exact congrArg some (Jj (by rw[h2,Ql,Zhg h0,Zgd,List.append_nil]))
theorem Q0 {x:Int} (h:InR x):Xw x=some (decB x):=by
 unfold Xw Y7
 rw[if_pos (show _∧_ from h)]
 rfl
theorem Zhl {ws:List ByteArray} {sep:ByteArray} (h1:ws.length≤1000000000) (h2:(Lib.join (ws.map L8) (L8 sep)).length≤140737488355328):Yo ws sep=some ⟨(Lib.join (ws.map L8) (L8 sep)).toArray⟩:=by
 unfold Yo
 rw[if_pos ⟨by omega,h2⟩]
 rfl
theorem Jk {n:Int} (h:(Lit.int .i64 n).wf=true):InR n:=by
 simp[Lit.wf,IntKind.min,IntKind.max,IntKind.signed,IntKind.bits] at h
 exact⟨by omega,by omega⟩
def Xs (x:Int):ByteArray:=if x=0 then strL [111,107,97,121] else if x=1 then strL [101,114,114,111,114] else if x=2 then strL [114,101,116,114,121] else if x=3 then strL [115,112,108,105,116] else ByteArray.empty
theorem Jp (x:Int):(Xs x).size≤5:=by
 unfold Xs
 repeat' split
 all_goals first|decide|(rw[Y6];simp)
theorem Zaz (x:Int):Y1 x=some (Xs x):=by
 by_cases h0:x < 0
 ·unfold Y1 Q8 Xs
  rw[if_neg (by simp;omega),if_neg (by omega),if_neg (by omega),if_neg (by omega),if_neg (by omega)];rfl
 ·by_cases h3:3 < x
  ·unfold Y1 Q8 Xs
   rw[if_pos (by simp;omega),Option.bind_some,if_pos (by simp;omega),if_neg (by omega),if_neg (by omega),if_neg (by omega),if_neg (by omega)]
  ·have:x=0∨x=1∨x=2∨x=3:=by omega
   rcases this with rfl|rfl|rfl|rfl<;>rfl
theorem Za2 (x:Int):Y5 x=some (Xs x):=by
 have hl:subW (([strL [111,107,97,121],strL [101,114,114,111,114],strL [114,101,116,114,121],strL [115,112,108,105,116]]:List ByteArray).length:Int) 1=3:=by rfl
 by_cases h0:x < 0
 ·unfold Y5 We Wi Xs
  rw[if_neg (by simp;omega),if_neg (by omega),if_neg (by omega),if_neg (by omega),if_neg (by omega)];rfl
 ·by_cases h3:3 < x
  ·unfold Y5 We Wi Xs
   rw[hl,if_pos (by simp;omega),Option.bind_some,if_pos (by simp;omega),if_neg (by omega),if_neg (by omega),if_neg (by omega),if_neg (by omega)];rfl
  ·have:x=0∨x=1∨x=2∨x=3:=by omega
   rcases this with rfl|rfl|rfl|rfl<;>rfl
def GDone.nums (d:GDone):Prop:=InR d.cycle∧InR d.who∧InR d.addr∧InR d.value
theorem GDone.ok.nums {d:GDone} (h:d.ok):d.nums:=⟨Jk h.1,Jk h.2.1,Jk h.2.2.2.1,Jk h.2.2.2.2.2.1⟩
def X0 (d:GDone):List UInt8:=Lib.itoa d.cycle++[32]++Lib.itoa d.who++[32]++(if d.write=true then [119,114,105,116,101] else [114,101,97,100])++[32]++Lib.itoa d.addr++[32]++Lib.itoa d.value++[32]++L8 (Xs d.resp)
theorem Zf4 {d:GDone} (h:d.nums):(X0 d).length≤100:=by
 have h1:=Qm h.1
 have h2:=Qm h.2.1
 have h3:=Qm h.2.2.1
 have h4:=Qm h.2.2.2
 have h5:=Jp d.resp
 rw[Wl] at h5
 unfold X0
 simp only[List.length_append,List.length_cons,List.length_nil]
 split<;>simp<;>omega
theorem Zav {d:GDone} (h:d.nums):Xo d=some ⟨(X0 d).toArray⟩:=by
 have h1:=W9 h.1
 have h2:=W9 h.2.1
 have h3:=W9 h.2.2.1
 have h4:=W9 h.2.2.2
 have h5:=Jp d.resp
 have key:∀v0:ByteArray,v0.size≤6→∃r,Yf d v0=some r∧L8 r=Lib.itoa d.cycle++[32]++Lib.itoa d.who++[32]++L8 v0++Lib.itoa d.addr++[32]++Lib.itoa d.value++[32]++L8 (Xs d.resp):=fun v0 hv=>by
  unfold Yf
  rw[Q9 h.1,Q9 h.2.1,Q9 h.2.2.1,Q9 h.2.2.2,Zaz]
  simp (disch:=(simp only[Zcc,Y6,List.length_cons,List.length_nil];omega)) only[Zaa,Option.bind_some]
  refine⟨_,rfl,?_⟩
  simp only[Jx,Xi,Ql]
 unfold Xo
 cases hw:d.write with
 | true=>
  rw[if_pos rfl]
  obtain⟨r,e,hr⟩:=key (strL [119,114,105,116,101,32]) (by rw[Y6];simp)
  rw[e]
  refine congrArg some (Jj ?_)
  rw[hr,Xi]
  refine Eq.trans ?_ (L8_mk (X0 d)).symm
  unfold X0
  rw[if_pos hw]
  simp
 | false=>
  rw[if_neg (by simp)]
  obtain⟨r,e,hr⟩:=key (strL [114,101,97,100,32]) (by rw[Y6];simp)
  rw[e]
  refine congrArg some (Jj ?_)
  rw[hr,Xi]
  refine Eq.trans ?_ (L8_mk (X0 d)).symm
  unfold X0
  rw[if_neg (by rw[hw];simp)]
  simp
theorem Zay {d:GDone} (h:d.nums):Xq d=some ⟨(X0 d).toArray⟩:=by
 have hl:=Zf4 h
 have ej:Lib.join ([decB d.cycle,decB d.who,(if d.write=true then strL [119,114,105,116,101] else strL [114,101,97,100]),decB d.addr,decB d.value,Xs d.resp].map L8) (L8 (strL [32]))=X0 d:=by
  unfold X0
  simp only[List.map_cons,List.map_nil,Lib.join,List.intercalate,List.intersperse,List.flatten_cons,List.flatten_nil,Xi,Ql]
  cases d.write<;>simp[Xi]
 have hw:Xb d.write=some (if d.write=true then strL [119,114,105,116,101] else strL [114,101,97,100]):=by
  unfold Xb
  cases d.write<;>rfl
 unfold Xq
 rw[Q0 h.1,Q0 h.2.1,Q0 h.2.2.1,Q0 h.2.2.2,Za2,hw]
 simp only[Option.bind_some]
 rw[Zhl (by simp) (by rw[ej];omega),Option.bind_some,ej]
end Go.Proofs.YtgmmcfpabnoekaaDoor.Ev
namespace Go.Proofs.YtgmmcfpabnoekaaDoor.Ev
open Go Go.Proofs
theorem Qq (d:GDone) (h:d.ok):Yu d=some true:=by
 unfold Yu Wb
 rw[Option.bind_some,Zav h.nums,Option.bind_some,Option.bind_some,Zay h.nums,Option.bind_some,if_neg (by simp)]
end Go.Proofs.YtgmmcfpabnoekaaDoor.Ev
