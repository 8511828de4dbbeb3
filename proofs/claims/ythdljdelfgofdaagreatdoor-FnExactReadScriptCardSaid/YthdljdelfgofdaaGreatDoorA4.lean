/- A part of the proof of FnExactReadScript: see the text YthdljdelfgofdaaGreatDoorLawFnExactReadScript for what is proved and its conditions. Conditions here: those in each line. -/
import Derived.Test.YthdljdelfgofdaaGreatDoorA3
import Derived.Deep.DeepFit
import Derived.KernelRfl
import Derived.Lib.AtoiAll
import Derived.Lib.ItoaNum
import Derived.Lib.Join
import Derived.Lib.Split
import Derived.Lib.Strings
import Derived.Shelf.LaysC
import Derived.Shelf.LaysM
import Derived.Shelf.Strconv.AtoiAll
import Derived.Shelf.Strconv.Itoa3
import Derived.Shelf.Strings.Cut
import Derived.Shelf.Strings.OnBuilder
import Derived.Shelf.Strings.Prefix
import Derived.Shelf.Strings.Search3
import Derived.Shelf.Strings.SplitShaped
import Derived.Test.YthdljdelfgofdaaGreatDoorProg
import Derived.WalkKit
set_option linter.unusedSimpArgs false
set_option linter.unusedVariables false
set_option linter.unusedSectionVars false
namespace Go.Proofs.YthdljdelfgofdaaGreatDoor.Ev
open Go Go.Proofs
structure Zj where
 write:Bool
 addr:Int
 size:Int
 burst:Int
 lock:Bool
 data_:List Int
 deriving DecidableEq
structure Zf where
 at_:Int
 who:Int
 req:Zj
 deriving DecidableEq
structure Za where
 posts:List Zf
 waits:List Int
 says:List Int
 deriving DecidableEq
abbrev Zj.z0:Zj:=⟨false,0,0,0,false,[]⟩
abbrev Za.z0:Za:=⟨[],[],[]⟩
def Zf1 (x0:ByteArray) (x1:Int)  (k:(List ByteArray)->Int->Int->Option (List ByteArray)) (v0:List ByteArray) (v1:Int) (v2:Int):Option (List ByteArray):=
 if decide (v2 < (x0.size:Int))=true then (
  (atS x0 v2).bind λa0=>
  if decide (a0=x1)=true then (
   (Zke x0 v1 v2).bind λs0=>
   (Zak 16 v0 [s0]).bind λz0=>
   k z0 (Zq v2 1) (Zq v2 1))
  else (
   k v0 v1 (Zq v2 1)))
 else (
  (Zke x0 v1 (x0.size:Int)).bind λs1=>
  (Zak 16 v0 [s1]).bind λz1=>
  some z1)
def Zba (x0:ByteArray) (x1:Int)  : Nat->(List ByteArray)->Int->Int->Option (List ByteArray)
 | 0,_,_,_=>none
 | m+1,v0,v1,v2=>Zf1 x0 x1  (Zba x0 x1  m) v0 v1 v2
def Ql (x0:ByteArray) (x1:Int):Option (List ByteArray):=
 Zba x0 x1 FU [] 0 0
def Qj (x0:ByteArray) (k_L1:ByteArray->Int->Int->Int->Option Int) (v0:ByteArray) (v1:Int) (v2:Int) (v3:Int) (v4:Bool):Option Int:=
 if v4=true then (
  some 0)
 else (
  (atS v0 v3).bind λa0=>
  k_L1 v0 v1 (Zoy (Zq (Zdh v2 10) (w64 a0)) 48) (Zq v3 1))
def Zai (x0:ByteArray)  (k:ByteArray->Int->Int->Int->Option Int) (v0:ByteArray) (v1:Int) (v2:Int) (v3:Int):Option Int:=
 if decide (v3 < (v0.size:Int))=true then (
  (atS v0 v3).bind λa1=>
  if decide (a1 < 48)=true then (
   Qj x0 k v0 v1 v2 v3 true)
  else (
   if decide (a1 > 57)=true then (
    Qj x0 k v0 v1 v2 v3 true)
   else (
    Qj x0 k v0 v1 v2 v3 (decide ((v0.size:Int) > 18)))))
 else (
  some (Zdh v1 v2))
def Qk (x0:ByteArray)  : Nat->ByteArray->Int->Int->Int->Option Int
 | 0,_,_,_,_=>none
 | m+1,v0,v1,v2,v3=>Zai x0  (Qk x0  m) v0 v1 v2 v3
def Kv (x0:ByteArray)  (v0:ByteArray) (v1:Int):Option Int:=
 Qk x0 FU v0 v1 0 0
def W4 (x0:ByteArray)  (v5:Bool):Option Int:=
 if v5=true then (
  (Zke x0 1 (x0.size:Int)).bind λs0=>
  Kv x0 s0 (-1))
 else (
  Kv x0 x0 1)
def Zas (x0:ByteArray):Option Int:=
 if decide ((x0.size:Int) > 0)=true then (
  (atS x0 0).bind λa2=>
  W4 x0 (decide (a2=45)))
 else (
  W4 x0 false)
def Qz (x0:List ByteArray)  (k:(List Int)->Int->Option (List Int)) (v0:List Int) (v1:Int):Option (List Int):=
 if decide (v1 < (x0.length:Int))=true then (
  (idx x0 v1).bind λa0=>
  (Zas a0).bind λr0=>
  (Zak 8 v0 [r0]).bind λz0=>
  k z0 (Zq v1 1))
 else (
  some v0)
def Km (x0:List ByteArray)  : Nat->(List Int)->Int->Option (List Int)
 | 0,_,_=>none
 | m+1,v0,v1=>Qz x0  (Km x0  m) v0 v1
def J5 (x0:List ByteArray):Option (List Int):=
 Km x0 FU [] 0
def Kp (x0:List ByteArray) (x1:ByteArray)  (k:Int->Option Int) (v0:Int):Option Int:=
 if decide (v0 < (x0.length:Int))=true then (
  (idx x0 v0).bind λa0=>
  if (a0.toList == x1.toList)=true then (
   some v0)
  else (
   k (Zq v0 1)))
 else (
  some (-1))
def Ja (x0:List ByteArray) (x1:ByteArray)  : Nat->Int->Option Int
 | 0,_=>none
 | m+1,v0=>Kp x0 x1  (Ja x0 x1  m) v0
def Jz (x0:List ByteArray) (x1:ByteArray):Option Int:=
 Ja x0 x1 FU 0
def Zcq (x0:Int) (x1:Int) (x2:Int):Option Bool:=
 if decide (x0≥x1)=true then (
  some (decide (x0<=x2)))
 else (
  some false)
def Q8 (x0:Int):Option Int:=
 (Zcq x0 0 3).bind λr0=>
 if (!r0)=true then (
  some 0)
 else (
  (idx [1,4,4,8] x0).bind λa0=>
  some a0)
def Q6 (x0:Int):Option Int:=
 (Zcq x0 0 2).bind λr0=>
 if (!r0)=true then (
  some 0)
 else (
  (nnI x0).bind λn0=>
  some (shlW 1 x0))
def Zf3 (x0:Int) (x1:Int):Option Bool:=
 (Q6 x1).bind λr0=>
 if decide (r0 > 0)=true then (
  if decide (x0≥0)=true then (
   (Q6 x1).bind λr1=>
   (nzI r1).bind λn0=>
   some (decide ((Zfv x0 r1)=0)))
  else (
   some false))
 else (
  some false)
def Za4 (x0:Int) (x1:Int) (x2:Int)  (v0:Int) (v1:Bool):Option Int:=
 if v1=true then (
  some (Zoy (Zq x0 v0) (Zdh 4 v0)))
 else (
  some (Zq x0 v0))
def Je (x0:Int) (x1:Int) (x2:Int)  (v0:Int) (v2:Bool):Option Int:=
 if v2=true then (
  some (-1))
 else (
  if decide (x2=2)=true then (
   (nzI (Zdh 4 v0)).bind λn0=>
   Za4 x0 x1 x2 v0 (decide ((Zfv (Zq x0 v0) (Zdh 4 v0))=0)))
  else (
   Za4 x0 x1 x2 v0 false))
def Zci (x0:Int) (x1:Int) (x2:Int):Option Int:=
 (Q6 x1).bind λr0=>
 (Zf3 x0 x1).bind λr1=>
 if (!r1)=true then (
  Je x0 x1 x2 r0 true)
 else (
  (Zcq x0 0 511).bind λr2=>
  if (!r2)=true then (
   Je x0 x1 x2 r0 true)
  else (
   (Q8 x2).bind λr3=>
   Je x0 x1 x2 r0 (decide (r3=0))))
def Ke (x0:Int) (x1:Int) (x2:Int) (k_L1:Int->(List Int)->Option (List Int)) (v0:Int) (v1:List Int) (v2:Bool):Option (List Int):=
 if v2=true then (
  (Zak 8 v1 [v0]).bind λz0=>
  (Zci v0 x1 x2).bind λr0=>
  k_L1 r0 z0)
 else (
  (Q8 x2).bind λr1=>
  if decide ((v1.length:Int) < r1)=true then (
   some [])
  else (
   some v1))
def Qo (x0:Int) (x1:Int) (x2:Int)  (k:Int->(List Int)->Option (List Int)) (v0:Int) (v1:List Int):Option (List Int):=
 (Q8 x2).bind λr2=>
 if decide ((v1.length:Int) < r2)=true then (
  (Zci v0 x1 x2).bind λr3=>
  Ke x0 x1 x2 k v0 v1 (decide (r3≥0)))
 else (
  Ke x0 x1 x2 k v0 v1 false)
def Js (x0:Int) (x1:Int) (x2:Int)  : Nat->Int->(List Int)->Option (List Int)
 | 0,_,_=>none
 | m+1,v0,v1=>Qo x0 x1 x2  (Js x0 x1 x2  m) v0 v1
def Zc5 (x0:Int) (x1:Int) (x2:Int):Option (List Int):=
 Js x0 x1 x2 FU x0 []
def Zec (x0:Int) (x1:Int) (x2:Int)  (k:(List Int)->Int->Option Bool) (v0:List Int) (v1:Int):Option Bool:=
 if decide (v1 < (v0.length:Int))=true then (
  (idx v0 v1).bind λa0=>
  (idx v0 0).bind λa1=>
  if decide ((Zj6 a0 64)≠(Zj6 a1 64))=true then (
   some false)
  else (
   k v0 (Zq v1 1)))
 else (
  some (decide ((v0.length:Int) > 0)))
def Zbv (x0:Int) (x1:Int) (x2:Int)  : Nat->(List Int)->Int->Option Bool
 | 0,_,_=>none
 | m+1,v0,v1=>Zec x0 x1 x2  (Zbv x0 x1 x2  m) v0 v1
def Zgi (x0:Int) (x1:Int) (x2:Int):Option Bool:=
 (Zc5 x0 x1 x2).bind λr0=>
 Zbv x0 x1 x2 FU r0 0
def Zdo (x0:Int):Option Int:=
 (Q6 x0).bind λr0=>
 if decide (r0=0)=true then (
  some 0)
 else (
  (Q6 x0).bind λr1=>
  (nnI (Zdh 8 r1)).bind λn0=>
  some (shlW 1 (Zdh 8 r1)))
def Zfw (x0:Zj)  (k:Int->Option Bool) (v0:Int):Option Bool:=
 if decide (v0 < (x0.data_.length:Int))=true then (
  (idx x0.data_ v0).bind λa0=>
  (Zdo x0.size).bind λr0=>
  (Zcq a0 0 (Zoy r0 1)).bind λr1=>
  if (!r1)=true then (
   some false)
  else (
   k (Zq v0 1)))
 else (
  if decide ((x0.data_.length:Int)=0)=true then (
   if (!x0.write)=true then (
    some true)
   else (
    (Q8 x0.burst).bind λr2=>
    if decide ((x0.data_.length:Int)=r2)=true then (
     some x0.write)
    else (
     some false)))
  else (
   (Q8 x0.burst).bind λr2=>
   if decide ((x0.data_.length:Int)=r2)=true then (
    some x0.write)
   else (
    some false)))
def Zd0 (x0:Zj)  : Nat->Int->Option Bool
 | 0,_=>none
 | m+1,v0=>Zfw x0  (Zd0 x0  m) v0
def Zi7 (x0:Zj):Option Bool:=
 (Zgi x0.addr x0.size x0.burst).bind λr3=>
 if (!r3)=true then (
  some false)
 else (
  Zd0 x0 FU 0)
def Zdr (x0:Int) (k_L1:Int->ByteArray->Option ByteArray) (v0:Int) (v1:ByteArray) (v2:Int):Option ByteArray:=
 (X9 (strB [(w8 (Zq 48 v2))]) v1).bind λn0=>
 k_L1 (Zj6 v0 10) ((strB [(w8 (Zq 48 v2))])++v1)
def Zia (x0:Int)  (k:Int->ByteArray->Option ByteArray) (v0:Int) (v1:ByteArray):Option ByteArray:=
 if decide (v0≠0)=true then (
  if decide ((Zfv v0 10) < 0)=true then (
   Zdr x0 k v0 v1 (negW (Zfv v0 10)))
  else (
   Zdr x0 k v0 v1 (Zfv v0 10)))
 else (
  if decide (x0 < 0)=true then (
   (X9 (Zd [45]) v1).bind λn1=>
   some ((Zd [45])++v1))
  else (
   some v1))
def Zbd (x0:Int)  : Nat->Int->ByteArray->Option ByteArray
 | 0,_,_=>none
 | m+1,v0,v1=>Zia x0  (Zbd x0  m) v0 v1
def Zef (x0:Int):Option ByteArray:=
 if decide (x0=0)=true then (
  some (Zd [48]))
 else (
  Zbd x0 FU x0 ByteArray.empty)
def Zax (x0:Zj)  (k:ByteArray->Int->Option ByteArray) (v0:ByteArray) (v1:Int):Option ByteArray:=
 if decide (v1 < (x0.data_.length:Int))=true then (
  (X9 v0 (Zd [32])).bind λn0=>
  (idx x0.data_ v1).bind λa0=>
  (Zef a0).bind λr0=>
  (X9 (v0++(Zd [32])) r0).bind λn1=>
  k ((v0++(Zd [32]))++r0) (Zq v1 1))
 else (
  some v0)
def Ko (x0:Zj)  : Nat->ByteArray->Int->Option ByteArray
 | 0,_,_=>none
 | m+1,v0,v1=>Zax x0  (Ko x0  m) v0 v1
def Zbw (x0:Zj)  (v0:ByteArray):Option ByteArray:=
 Ko x0 FU v0 0
def Jp (x0:Zj)  (v0:ByteArray):Option ByteArray:=
 (X9 v0 (Zd [32])).bind λn2=>
 (idx [(Zd [98,121,116,101]),(Zd [104,97,108,102]),(Zd [119,111,114,100])] x0.size).bind λa1=>
 (X9 (v0++(Zd [32])) a1).bind λn3=>
 (X9 ((v0++(Zd [32]))++a1) (Zd [32])).bind λn4=>
 (idx [(Zd [111,110,101]),(Zd [102,111,117,114]),(Zd [119,114,97,112]),(Zd [101,105,103,104,116])] x0.burst).bind λa2=>
 (X9 (((v0++(Zd [32]))++a1)++(Zd [32])) a2).bind λn5=>
 (X9 ((((v0++(Zd [32]))++a1)++(Zd [32]))++a2) (Zd [32])).bind λn6=>
 (Zef x0.addr).bind λr1=>
 (X9 (((((v0++(Zd [32]))++a1)++(Zd [32]))++a2)++(Zd [32])) r1).bind λn7=>
 if x0.lock=true then (
  (X9 ((((((v0++(Zd [32]))++a1)++(Zd [32]))++a2)++(Zd [32]))++r1) (Zd [32,108,111,99,107])).bind λn8=>
  Zbw x0 (((((((v0++(Zd [32]))++a1)++(Zd [32]))++a2)++(Zd [32]))++r1)++(Zd [32,108,111,99,107])))
 else (
  Zbw x0 ((((((v0++(Zd [32]))++a1)++(Zd [32]))++a2)++(Zd [32]))++r1))
def Zbh (x0:Zj):Option ByteArray:=
 (Zi7 x0).bind λr2=>
 if (!r2)=true then (
  some ByteArray.empty)
 else (
  if x0.write=true then (
   Jp x0 (Zd [119,114,105,116,101]))
  else (
   Jp x0 (Zd [114,101,97,100])))
def X3 (x0:ByteArray)  (k:Zj->(List ByteArray)->Int->Option (Zj×Bool)) (vb0:Zj) (v0:List ByteArray) (v1:Int):Option (Zj×Bool):=
 if decide (v1 < (v0.length:Int))=true then (
  (idx v0 v1).bind λa0=>
  (Zas a0).bind λr0=>
  (Zak 8 vb0.data_ [r0]).bind λz0=>
  k {vb0 with data_:=z0} v0 (Zq v1 1))
 else (
  (Zbh vb0).bind λr1=>
  if (!(r1.toList == x0.toList))=true then (
   some (Zj.z0,false))
  else (
   some (vb0,true)))
def Xx (x0:ByteArray)  : Nat->Zj->(List ByteArray)->Int->Option (Zj×Bool)
 | 0,_,_,_=>none
 | m+1,vb0,v0,v1=>X3 x0  (Xx x0  m) vb0 v0 v1
def Kr (x0:ByteArray)  (vb0:Zj) (v0:List ByteArray):Option (Zj×Bool):=
 Xx x0 FU vb0 v0 0
def Wy (x0:ByteArray)  (vb0:Zj) (v0:List ByteArray) (v2:Bool):Option (Zj×Bool):=
 if v2=true then (
  (Y6 v0 1 (v0.length:Int)).bind λs0=>
  Kr x0 {vb0 with lock:=true} s0)
 else (
  Kr x0 vb0 v0)
def Zbf (x0:ByteArray):Option (Zj×Bool):=
 (Ql x0 32).bind λr2=>
 if decide ((r2.length:Int) < 4)=true then (
  some (Zj.z0,false))
 else (
  (idx r2 0).bind λa1=>
  (idx r2 1).bind λa2=>
  (Jz [(Zd [98,121,116,101]),(Zd [104,97,108,102]),(Zd [119,111,114,100])] a2).bind λr3=>
  (idx r2 2).bind λa3=>
  (Jz [(Zd [111,110,101]),(Zd [102,111,117,114]),(Zd [119,114,97,112]),(Zd [101,105,103,104,116])] a3).bind λr4=>
  (idx r2 3).bind λa4=>
  (Zas a4).bind λr5=>
  (Y6 r2 4 (r2.length:Int)).bind λs1=>
  if decide ((s1.length:Int) > 0)=true then (
   (idx s1 0).bind λa5=>
   Wy x0 (Zj.mk (a1.toList == (Zd [119,114,105,116,101]).toList) r5 r3 r4 false []) s1 (a5.toList == (Zd [108,111,99,107]).toList))
  else (
   Wy x0 (Zj.mk (a1.toList == (Zd [119,114,105,116,101]).toList) r5 r3 r4 false []) s1 false))
def Za3 (x0:ByteArray) (x1:List Int)  (k:ByteArray->Int->Option ByteArray) (v0:ByteArray) (v1:Int):Option ByteArray:=
 if decide (v1 < (x1.length:Int))=true then (
  (X9 v0 (Zd [32])).bind λn0=>
  (idx x1 v1).bind λa0=>
  (Zef a0).bind λr0=>
  (X9 (v0++(Zd [32])) r0).bind λn1=>
  k ((v0++(Zd [32]))++r0) (Zq v1 1))
 else (
  (X9 v0 (Zd [10])).bind λn2=>
  some (v0++(Zd [10])))
def Jx (x0:ByteArray) (x1:List Int)  : Nat->ByteArray->Int->Option ByteArray
 | 0,_,_=>none
 | m+1,v0,v1=>Za3 x0 x1  (Jx x0 x1  m) v0 v1
def Zdl (x0:ByteArray) (x1:List Int):Option ByteArray:=
 if decide ((x1.length:Int)=0)=true then (
  some ByteArray.empty)
 else (
  Jx x0 x1 FU x0 0)
def Zbr (x0:Za)  (k:ByteArray->Int->Option ByteArray) (v0:ByteArray) (v1:Int):Option ByteArray:=
 if decide (v1 < (x0.posts.length:Int))=true then (
  (idx x0.posts v1).bind λa0=>
  (Zbh a0.req).bind λr0=>
  if (r0.toList == ByteArray.empty.toList)=true then (
   some ByteArray.empty)
  else (
   (X9 v0 (Zd [112,111,115,116,32])).bind λn0=>
   (Zef a0.at_).bind λr1=>
   (X9 (v0++(Zd [112,111,115,116,32])) r1).bind λn1=>
   (X9 ((v0++(Zd [112,111,115,116,32]))++r1) (Zd [32])).bind λn2=>
   (Zef a0.who).bind λr2=>
   (X9 (((v0++(Zd [112,111,115,116,32]))++r1)++(Zd [32])) r2).bind λn3=>
   (X9 ((((v0++(Zd [112,111,115,116,32]))++r1)++(Zd [32]))++r2) (Zd [32])).bind λn4=>
   (X9 (((((v0++(Zd [112,111,115,116,32]))++r1)++(Zd [32]))++r2)++(Zd [32])) r0).bind λn5=>
   (X9 ((((((v0++(Zd [112,111,115,116,32]))++r1)++(Zd [32]))++r2)++(Zd [32]))++r0) (Zd [10])).bind λn6=>
   k (((((((v0++(Zd [112,111,115,116,32]))++r1)++(Zd [32]))++r2)++(Zd [32]))++r0)++(Zd [10])) (Zq v1 1)))
 else (
  some v0)
def Kb (x0:Za)  : Nat->ByteArray->Int->Option ByteArray
 | 0,_,_=>none
 | m+1,v0,v1=>Zbr x0  (Kb x0  m) v0 v1
def Zc1 (x0:Za):Option ByteArray:=
 (Zdl (Zd [119,97,105,116,115]) x0.waits).bind λr3=>
 (Zdl (Zd [115,97,121,115]) x0.says).bind λr4=>
 (X9 r3 r4).bind λn7=>
 Kb x0 FU (r3++r4) 0
def X8 (x0:ByteArray)  (k:Za->(List ByteArray)->Int->Option (Za×Bool)) (vb0:Za) (v0:List ByteArray) (v1:Int):Option (Za×Bool):=
 if decide (v1 < (v0.length:Int))=true then (
  (idx v0 v1).bind λa0=>
  (Ql a0 32).bind λr0=>
  (idx r0 0).bind λa1=>
  if (a1.toList == (Zd [119,97,105,116,115]).toList)=true then (
   (Y6 r0 1 (r0.length:Int)).bind λs0=>
   (J5 s0).bind λr1=>
   k {vb0 with waits:=r1} v0 (Zq v1 1))
  else (
   if (a1.toList == (Zd [115,97,121,115]).toList)=true then (
    (Y6 r0 1 (r0.length:Int)).bind λs1=>
    (J5 s1).bind λr2=>
    k {vb0 with says:=r2} v0 (Zq v1 1))
   else (
    if decide ((r0.length:Int) > 3)=true then (
     (Y6 r0 1 3).bind λs2=>
     (J5 s2).bind λr3=>
     (idx r0 1).bind λa2=>
     (idx r0 2).bind λa3=>
     (Zke a0 (minI (a0.size:Int) (Zq (Zq (Zq (a1.size:Int) (a2.size:Int)) (a3.size:Int)) 3)) (a0.size:Int)).bind λs3=>
     (Zbf s3).bind λr4=>
     (idx r3 0).bind λa4=>
     (idx r3 1).bind λa5=>
     (Zak 80 vb0.posts [(Zf.mk a4 a5 r4.1)]).bind λz0=>
     k {vb0 with posts:=z0} v0 (Zq v1 1))
    else (
     k vb0 v0 (Zq v1 1)))))
 else (
  (Zc1 vb0).bind λr5=>
  if (!(r5.toList == x0.toList))=true then (
   some (Za.z0,false))
  else (
   some (vb0,true)))
def Wf (x0:ByteArray)  : Nat->Za->(List ByteArray)->Int->Option (Za×Bool)
 | 0,_,_,_=>none
 | m+1,vb0,v0,v1=>X8 x0  (Wf x0  m) vb0 v0 v1
def Q0 (x0:ByteArray):Option (Za×Bool):=
 (Ql x0 10).bind λr6=>
 Wf x0 FU Za.z0 r6 0
def X4 (x0:ByteArray) (x1:ByteArray):Option ByteArray:=if x0.size<=9223372036854775807 then some ⟨(Lib.trimSuffix x0.data.toList x1.data.toList).toArray⟩ else none
def Qe (x0:ByteArray) (x1:ByteArray):Option (List ByteArray):=if x0.size < 4294967281/\1<=x1.size then some (Lib.splitB x1 0 (Lib.countB x0 x1) x0) else none
def Q5 (x0:ByteArray) (x1:Int):Option (Int×Bool):=if x0.size<=281474976710656 then (match Lib.atoiAll x0.data.toList with
 | .ok v=>if Lib.itoa v=x0.data.toList/\((Lib.trimPrefix x0.data.toList [45]).length:Int)<=x1 then some (v,true) else some (0,false)
 | _=>some (0,false)) else none
def Qv (x0:List ByteArray)  (k:(List Int)->Int->Option (List Int×Bool)) (v0:List Int) (v1:Int):Option (List Int×Bool):=
 if decide (v1 < (x0.length:Int))=true then (
  (idx x0 v1).bind λa0=>
  (Q5 a0 18).bind λr0=>
  if (!r0.2)=true then (
   some ([],false))
  else (
   (Zak 8 v0 [r0.1]).bind λz0=>
   k z0 (Zq v1 1)))
 else (
  some (v0,true))
def Kl (x0:List ByteArray)  : Nat->(List Int)->Int->Option (List Int×Bool)
 | 0,_,_=>none
 | m+1,v0,v1=>Qv x0  (Kl x0  m) v0 v1
def J6 (x0:List ByteArray):Option (List Int×Bool):=
 Kl x0 FU [] 0
def Wp (x0:List ByteArray) (x1:ByteArray):Option ByteArray:=if x0.length<=140737488355328/\(Lib.join (x0.map (·.data.toList)) x1.data.toList).length<=140737488355328 then some ⟨(Lib.join (x0.map (·.data.toList)) x1.data.toList).toArray⟩ else none
def Jl  : Option (List ByteArray):=
 some [(Zd [98,121,116,101]),(Zd [104,97,108,102]),(Zd [119,111,114,100])]
def Yv (x0:List ByteArray) (x1:ByteArray)  (k:Int->Option Int) (v0:Int):Option Int:=
 if decide (v0 < (x0.length:Int))=true then (
  (idx x0 v0).bind λa0=>
  if (x1.toList == a0.toList)=true then (
   some v0)
  else (
   k (Zq v0 1)))
 else (
  some (-1))
def Yz (x0:List ByteArray) (x1:ByteArray)  : Nat->Int->Option Int
 | 0,_=>none
 | m+1,v0=>Yv x0 x1  (Yz x0 x1  m) v0
def Ym (x0:List ByteArray) (x1:ByteArray):Option Int:=
 Yz x0 x1 FU 0
def Jb  : Option (List ByteArray):=
 some [(Zd [111,110,101]),(Zd [102,111,117,114]),(Zd [119,114,97,112]),(Zd [101,105,103,104,116])]
def Zaz (x0:Int) (x1:Int) (x2:Int):Option Bool:=
 if decide (x1<=x0)=true then (
  some (decide (x0<=x2)))
 else (
  some false)
def Zbk (x0:Int):Option Int:=
 (Zaz x0 0 3).bind λr0=>
 if (!r0)=true then (
  some 0)
 else (
  (idx [1,4,4,8] x0).bind λa0=>
  some a0)
def K5 (x0:Int):Option Int:=
 (Zaz x0 0 2).bind λr0=>
 if (!r0)=true then (
  some 0)
 else (
  (nnI x0).bind λn0=>
  some (shlW 1 x0))
def Zf9 (x0:Int) (x1:Int):Option Bool:=
 (Zaz x1 0 2).bind λr0=>
 if r0=true then (
  if decide (x0≥0)=true then (
   (K5 x1).bind λr1=>
   (nzI r1).bind λn0=>
   some (decide ((Zfv x0 r1)=0)))
  else (
   some false))
 else (
  some false)
def Jf (x0:Int) (x1:Int) (x2:Int)  (v0:Bool):Option Int:=
 if v0=true then (
  some (-1))
 else (
  (K5 x1).bind λr0=>
  (K5 x1).bind λr1=>
  if decide (x2=2)=true then (
   (nzI (Zdh 4 r1)).bind λn0=>
   if decide ((Zfv (Zq x0 r0) (Zdh 4 r1))=0)=true then (
    some (Zoy (Zq x0 r0) (Zdh 4 r1)))
   else (
    some (Zq x0 r0)))
  else (
   some (Zq x0 r0)))
def Zfb (x0:Int) (x1:Int) (x2:Int):Option Int:=
 (Zf9 x0 x1).bind λr2=>
 if (!r2)=true then (
  Jf x0 x1 x2 true)
 else (
  if decide (x0≥512)=true then (
   Jf x0 x1 x2 true)
  else (
   (Zbk x2).bind λr3=>
   Jf x0 x1 x2 (decide (r3=0))))
def Qs (x0:Int) (x1:Int) (x2:Int)  (k:Int->(List Int)->Int->Int->Option (List Int)) (v0:Int) (v1:List Int) (v2:Int) (v3:Int):Option (List Int):=
 if decide (v3 < v2)=true then (
  (Zfb v0 x1 x2).bind λr0=>
  if decide (r0 < 0)=true then (
   some [])
  else (
   (Zak 8 v1 [v0]).bind λz0=>
   k r0 z0 v2 (Zq v3 1)))
 else (
  some v1)
def Jr (x0:Int) (x1:Int) (x2:Int)  : Nat->Int->(List Int)->Int->Int->Option (List Int)
 | 0,_,_,_,_=>none
 | m+1,v0,v1,v2,v3=>Qs x0 x1 x2  (Jr x0 x1 x2  m) v0 v1 v2 v3
def Zda (x0:Int) (x1:Int) (x2:Int):Option (List Int):=
 (Zbk x2).bind λr1=>
 Jr x0 x1 x2 FU x0 [] r1 0
def Zd2 (x0:Int) (x1:Int) (x2:Int)  (k:(List Int)->Int->Int->Option Bool) (v0:List Int) (v1:Int) (v2:Int):Option Bool:=
 if decide (v2 < v1)=true then (
  (idx v0 v2).bind λa0=>
  (idx v0 0).bind λa1=>
  if decide ((Zj6 a0 64)≠(Zj6 a1 64))=true then (
   some false)
  else (
   k v0 v1 (Zq v2 1)))
 else (
  some (decide ((v0.length:Int) > 0)))
def Zbx (x0:Int) (x1:Int) (x2:Int)  : Nat->(List Int)->Int->Int->Option Bool
 | 0,_,_,_=>none
 | m+1,v0,v1,v2=>Zd2 x0 x1 x2  (Zbx x0 x1 x2  m) v0 v1 v2
def Zgb (x0:Int) (x1:Int) (x2:Int):Option Bool:=
 (Zda x0 x1 x2).bind λr0=>
 Zbx x0 x1 x2 FU r0 (r0.length:Int) 0
def Zf6 (x0:Int):Option Int:=
 (K5 x0).bind λr0=>
 if decide (r0=0)=true then (
  some 0)
 else (
  (K5 x0).bind λr1=>
  (nnI (Zdh 8 r1)).bind λn0=>
  some (shlW 1 (Zdh 8 r1)))
def Zi5 (x0:Int) (x1:Int):Option Bool:=
 (Zf6 x1).bind λr0=>
 (Zaz x0 0 (Zoy r0 1)).bind λr1=>
 some r1
def Zf5 (x0:Int) (x1:Zj):Option Bool:=
 (Zi5 x0 x1.size).bind λr0=>
 some (!r0)
def Zam (x0:List Int) (x1c0:Zj)  (k:Int->Option Int) (v0:Int):Option Int:=
 if decide (v0 < (x0.length:Int))=true then (
  (idx x0 v0).bind λa0=>
  (Zf5 a0 x1c0).bind λr0=>
  if r0=true then (
   some v0)
  else (
   k (Zq v0 1)))
 else (
  some (-1))
def Xz (x0:List Int) (x1c0:Zj)  : Nat->Int->Option Int
 | 0,_=>none
 | m+1,v0=>Zam x0 x1c0  (Xz x0 x1c0  m) v0
def We (x0:List Int) (x1c0:Zj):Option Int:=
 Xz x0 x1c0 FU 0
def Xc (x0:List Int) (x1c0:Zj):Option Bool:=
 (We x0 x1c0).bind λr0=>
 some (decide (r0≥0))
def Zdy (x0:Zj)  (v0:Int):Option Bool:=
 (Zgb x0.addr x0.size x0.burst).bind λr0=>
 if r0=true then (
  if decide ((x0.data_.length:Int)=v0)=true then (
   (Xc x0.data_ x0).bind λr1=>
   some (!r1))
  else (
   some false))
 else (
  some false)
def Zeg (x0:Zj):Option Bool:=
 if x0.write=true then (
  (Zbk x0.burst).bind λr2=>
  Zdy x0 r2)
 else (
  Zdy x0 0)
def Zdv (x0:Bool):Option ByteArray:=
 if x0=true then (
  some (Zd [119,114,105,116,101]))
 else (
  some (Zd [114,101,97,100]))
def Zdc (x0:Int):Option ByteArray:=if -9223372036854775808<=x0/\x0<=9223372036854775807 then some ⟨(Lib.itoa x0).toArray⟩ else none
def Zf0 (x0:Int):Option ByteArray:=
 (Zdc x0).bind λr0=>
 some r0
def Zdz (x0:List Int)  (k:(List ByteArray)->Int->Option (List ByteArray)) (v0:List ByteArray) (v1:Int):Option (List ByteArray):=
 if decide (v1 < (x0.length:Int))=true then (
  (idx x0 v1).bind λa0=>
  (Zf0 a0).bind λr0=>
  (Zak 16 v0 [r0]).bind λz0=>
  k z0 (Zq v1 1))
 else (
  some v0)
def Zfd (x0:List Int)  : Nat->(List ByteArray)->Int->Option (List ByteArray)
 | 0,_,_=>none
 | m+1,v0,v1=>Zdz x0  (Zfd x0  m) v0 v1
def Zfx (x0:List Int):Option (List ByteArray):=
 Zfd x0 FU [] 0
def Zbi (x0:Zj):Option ByteArray:=
 (Zeg x0).bind λr0=>
 if (!r0)=true then (
  some ByteArray.empty)
 else (
  (Zdv x0.write).bind λr1=>
  (Jl).bind λr2=>
  (idx r2 x0.size).bind λa0=>
  (Jb).bind λr3=>
  (idx r3 x0.burst).bind λa1=>
  (Zf0 x0.addr).bind λr4=>
  if x0.lock=true then (
   (Zak 16 [r1,a0,a1,r4] [(Zd [108,111,99,107])]).bind λz0=>
   (Zfx x0.data_).bind λr5=>
   (Zak 16 z0 r5).bind λz1=>
   (Wp z1 (Zd [32])).bind λr6=>
   some r6)
  else (
   (Zfx x0.data_).bind λr5=>
   (Zak 16 [r1,a0,a1,r4] r5).bind λz1=>
   (Wp z1 (Zd [32])).bind λr6=>
   some r6))
def Qg (x0:ByteArray)  (vb0:Zj) (v0:List ByteArray) (v1:List ByteArray):Option (Zj×Bool):=
 (idx v0 3).bind λa0=>
 (Q5 a0 18).bind λr0=>
 (J6 v1).bind λr1=>
 if (!r0.2)=true then (
  some (Zj.z0,false))
 else (
  if (!r1.2)=true then (
   some (Zj.z0,false))
  else (
   (Zeg {vb0 with addr:=r0.1,data_:=r1.1}).bind λr2=>
   if (!r2)=true then (
    some (Zj.z0,false))
   else (
    (Zbi {vb0 with addr:=r0.1,data_:=r1.1}).bind λr3=>
    if (!(r3.toList == x0.toList))=true then (
     some (Zj.z0,false))
    else (
     some ({vb0 with addr:=r0.1,data_:=r1.1},true)))))
def Wx (x0:ByteArray)  (vb0:Zj) (v0:List ByteArray) (v1:List ByteArray) (v2:Bool):Option (Zj×Bool):=
 if v2=true then (
  (Y6 v1 1 (v1.length:Int)).bind λs0=>
  Qg x0 {vb0 with lock:=true} v0 s0)
 else (
  Qg x0 vb0 v0 v1)
def Zbe (x0:ByteArray):Option (Zj×Bool):=
 (Qe x0 (Zd [32])).bind λr4=>
 if decide ((r4.length:Int) < 4)=true then (
  some (Zj.z0,false))
 else (
  (idx r4 0).bind λa1=>
  (Jl).bind λr5=>
  (idx r4 1).bind λa2=>
  (Ym r5 a2).bind λr6=>
  (Jb).bind λr7=>
  (idx r4 2).bind λa3=>
  (Ym r7 a3).bind λr8=>
  (Y6 r4 4 (r4.length:Int)).bind λs1=>
  if decide ((s1.length:Int) > 0)=true then (
   (idx s1 0).bind λa4=>
   Wx x0 (Zj.mk (a1.toList == (Zd [119,114,105,116,101]).toList) 0 r6 r8 false []) r4 s1 (a4.toList == (Zd [108,111,99,107]).toList))
  else (
   Wx x0 (Zj.mk (a1.toList == (Zd [119,114,105,116,101]).toList) 0 r6 r8 false []) r4 s1 false))
def Zcs (x0:ByteArray) (x1:List Int):Option ByteArray:=
 if decide ((x1.length:Int)=0)=true then (
  some ByteArray.empty)
 else (
  (X9 x0 (Zd [32])).bind λn0=>
  (Zfx x1).bind λr0=>
  (Wp r0 (Zd [32])).bind λr1=>
  (X9 (x0++(Zd [32])) r1).bind λn1=>
  (X9 ((x0++(Zd [32]))++r1) (Zd [10])).bind λn2=>
  some (((x0++(Zd [32]))++r1)++(Zd [10])))
def Zbl (x0:Za)  (k:ByteArray->Int->Option ByteArray) (v0:ByteArray) (v1:Int):Option ByteArray:=
 if decide (v1 < (x0.posts.length:Int))=true then (
  (idx x0.posts v1).bind λa0=>
  (Zbi a0.req).bind λr0=>
  if (r0.toList == ByteArray.empty.toList)=true then (
   some ByteArray.empty)
  else (
   (Zf0 a0.at_).bind λr1=>
   (X9 (Zd [112,111,115,116,32]) r1).bind λn0=>
   (X9 ((Zd [112,111,115,116,32])++r1) (Zd [32])).bind λn1=>
   (Zf0 a0.who).bind λr2=>
   (X9 (((Zd [112,111,115,116,32])++r1)++(Zd [32])) r2).bind λn2=>
   (X9 ((((Zd [112,111,115,116,32])++r1)++(Zd [32]))++r2) (Zd [32])).bind λn3=>
   (X9 (((((Zd [112,111,115,116,32])++r1)++(Zd [32]))++r2)++(Zd [32])) r0).bind λn4=>
   (X9 ((((((Zd [112,111,115,116,32])++r1)++(Zd [32]))++r2)++(Zd [32]))++r0) (Zd [10])).bind λn5=>
   (X9 v0 (((((((Zd [112,111,115,116,32])++r1)++(Zd [32]))++r2)++(Zd [32]))++r0)++(Zd [10]))).bind λn6=>
   k (v0++(((((((Zd [112,111,115,116,32])++r1)++(Zd [32]))++r2)++(Zd [32]))++r0)++(Zd [10]))) (Zq v1 1)))
 else (
  some v0)
def Kc (x0:Za)  : Nat->ByteArray->Int->Option ByteArray
 | 0,_,_=>none
 | m+1,v0,v1=>Zbl x0  (Kc x0  m) v0 v1
def Zdd (x0:Za):Option ByteArray:=
 (Zcs (Zd [119,97,105,116,115]) x0.waits).bind λr3=>
 (Zcs (Zd [115,97,121,115]) x0.says).bind λr4=>
 (X9 r3 r4).bind λn7=>
 Kc x0 FU (r3++r4) 0
def Ki (x0:ByteArray) (k_L1:Za->(List ByteArray)->Int->Int->Option (Za×Bool)) (vb0:Za) (vb1:Zj) (v0:List Int) (v1:List ByteArray) (v2:Int) (v3:Int) (v4:Bool):Option (Za×Bool):=
 if v4=true then (
  some (Za.z0,false))
 else (
  (idx v0 0).bind λa0=>
  (idx v0 1).bind λa1=>
  (Zak 80 vb0.posts [(Zf.mk a0 a1 vb1)]).bind λz0=>
  k_L1 {vb0 with posts:=z0} v1 v2 (Zq v3 1))
def Wg (x0:ByteArray) (k_L1:Za->(List ByteArray)->Int->Int->Option (Za×Bool)) (vb0:Za) (v5:List ByteArray) (v1:List ByteArray) (v2:Int) (v3:Int) (v6:Bool):Option (Za×Bool):=
 if v6=true then (
  (Y6 v5 1 (v5.length:Int)).bind λs0=>
  (J6 s0).bind λr0=>
  if (!r0.2)=true then (
   some (Za.z0,false))
  else (
   (idx v5 0).bind λa2=>
   if (a2.toList == (Zd [119,97,105,116,115]).toList)=true then (
    k_L1 {vb0 with waits:=r0.1} v1 v2 (Zq v3 1))
   else (
    k_L1 {vb0 with says:=r0.1} v1 v2 (Zq v3 1))))
 else (
  k_L1 vb0 v1 v2 (Zq v3 1))
def Xl (x0:ByteArray) (k_L1:Za->(List ByteArray)->Int->Int->Option (Za×Bool)) (vb0:Za) (v5:List ByteArray) (v1:List ByteArray) (v2:Int) (v3:Int) (v7:Bool):Option (Za×Bool):=
 if v7=true then (
  (Y6 v5 1 3).bind λs1=>
  (J6 s1).bind λr1=>
  (Y6 v5 3 (v5.length:Int)).bind λs2=>
  (Wp s2 (Zd [32])).bind λr2=>
  (Zbe r2).bind λr3=>
  if (!r1.2)=true then (
   Ki x0 k_L1 vb0 r3.1 r1.1 v1 v2 v3 true)
  else (
   Ki x0 k_L1 vb0 r3.1 r1.1 v1 v2 v3 (!r3.2)))
 else (
  (idx v5 0).bind λa3=>
  if (a3.toList == (Zd [119,97,105,116,115]).toList)=true then (
   Wg x0 k_L1 vb0 v5 v1 v2 v3 true)
  else (
   Wg x0 k_L1 vb0 v5 v1 v2 v3 (a3.toList == (Zd [115,97,121,115]).toList)))
def Wa (x0:ByteArray)  (k:Za->(List ByteArray)->Int->Int->Option (Za×Bool)) (vb0:Za) (v1:List ByteArray) (v2:Int) (v3:Int):Option (Za×Bool):=
 if decide (v3 < v2)=true then (
  (idx v1 v3).bind λa4=>
  (Qe a4 (Zd [32])).bind λr4=>
  (idx r4 0).bind λa5=>
  if (a5.toList == (Zd [112,111,115,116]).toList)=true then (
   Xl x0 k vb0 r4 v1 v2 v3 (decide ((r4.length:Int) > 3)))
  else (
   Xl x0 k vb0 r4 v1 v2 v3 false))
 else (
  (Zdd vb0).bind λr5=>
  if (!(r5.toList == x0.toList))=true then (
   some (Za.z0,false))
  else (
   some (vb0,true)))
def Xk (x0:ByteArray)  : Nat->Za->(List ByteArray)->Int->Int->Option (Za×Bool)
 | 0,_,_,_,_=>none
 | m+1,vb0,v1,v2,v3=>Wa x0  (Xk x0  m) vb0 v1 v2 v3
def Qy (x0:ByteArray):Option (Za×Bool):=
 (X4 x0 (Zd [10])).bind λr6=>
 (Qe r6 (Zd [10])).bind λr7=>
 Xk x0 FU Za.z0 r7 (r7.length:Int) 0
def Zb0 (x0:List Int) (x1:List Int)  (k:Int->Option Bool) (v0:Int):Option Bool:=
 if decide (v0 < (x0.length:Int))=true then (
  (idx x0 v0).bind λa0=>
  (idx x1 v0).bind λa1=>
  if decide (a0≠a1)=true then (
   some false)
  else (
   k (Zq v0 1)))
 else (
  some true)
def Zc6 (x0:List Int) (x1:List Int)  : Nat->Int->Option Bool
 | 0,_=>none
 | m+1,v0=>Zb0 x0 x1  (Zc6 x0 x1  m) v0
def Zc8 (x0:List Int) (x1:List Int):Option Bool:=
 if decide ((x0.length:Int)≠(x1.length:Int))=true then (
  some false)
 else (
  Zc6 x0 x1 FU 0)
def Zjc (x0:Zj) (x1:Zj):Option Bool:=
 if (x0.write != x1.write)=true then (
  some false)
 else (
  if decide (x0.addr≠x1.addr)=true then (
   some false)
  else (
   if decide (x0.size≠x1.size)=true then (
    some false)
   else (
    if decide (x0.burst≠x1.burst)=true then (
     some false)
    else (
     if (x0.lock != x1.lock)=true then (
      some false)
     else (
      (Zc8 x0.data_ x1.data_).bind λr0=>
      if (!r0)=true then (
       some false)
      else (
       some true))))))
def Zeq (x0:Zf) (x1:Zf):Option Bool:=
 if decide (x0.at_≠x1.at_)=true then (
  some false)
 else (
  if decide (x0.who≠x1.who)=true then (
   some false)
  else (
   (Zjc x0.req x1.req).bind λr0=>
   if (!r0)=true then (
    some false)
   else (
    some true)))
def Zrg (x0:List Zf) (x1:List Zf)  (k:Int->Option Bool) (v0:Int):Option Bool:=
 if decide (v0 < (x0.length:Int))=true then (
  (idx x0 v0).bind λa0=>
  (idx x1 v0).bind λa1=>
  (Zeq a0 a1).bind λr0=>
  if (!r0)=true then (
   some false)
  else (
   k (Zq v0 1)))
 else (
  some true)
def Zb3 (x0:List Zf) (x1:List Zf)  : Nat->Int->Option Bool
 | 0,_=>none
 | m+1,v0=>Zrg x0 x1  (Zb3 x0 x1  m) v0
def Zgc (x0:List Zf) (x1:List Zf):Option Bool:=
 if decide ((x0.length:Int)≠(x1.length:Int))=true then (
  some false)
 else (
  Zb3 x0 x1 FU 0)
def Ze0 (x0:Za) (x1:Za):Option Bool:=
 (Zgc x0.posts x1.posts).bind λr0=>
 if (!r0)=true then (
  some false)
 else (
  (Zc8 x0.waits x1.waits).bind λr1=>
  if (!r1)=true then (
   some false)
  else (
   (Zc8 x0.says x1.says).bind λr2=>
   if (!r2)=true then (
    some false)
   else (
    some true)))
def Zad (x0:List Int) (x1:Int)  (k:Int->Int->Option Int) (v0:Int) (v1:Int):Option Int:=
 if decide (v1 < (x0.length:Int))=true then (
  (idx x0 v1).bind λa0=>
  if decide (a0≠v0)=true then (
   some (-1))
  else (
   k (Zq v0 1) (Zq v1 1)))
 else (
  some v0)
def Zea (x0:List Int) (x1:Int)  : Nat->Int->Int->Option Int
 | 0,_,_=>none
 | m+1,v0,v1=>Zad x0 x1  (Zea x0 x1  m) v0 v1
def Zan (x0:List Int) (x1:Int):Option Int:=
 Zea x0 x1 FU x1 0
def Jt (x0:List Zf) (x1:Int)  (k:Int->Int->Option Int) (v0:Int) (v1:Int):Option Int:=
 if decide (v1 < (x0.length:Int))=true then (
  (idx x0 v1).bind λa0=>
  if decide (a0.at_≠v0)=true then (
   some (-1))
  else (
   if decide (a0.who≠(Zq v0 1))=true then (
    some (-1))
   else (
    if (a0.req.write != decide ((Zfv (Zq (Zq v0 1) 1) 3)=0))=true then (
     some (-1))
    else (
     if decide (a0.req.addr≠(Zq (Zq (Zq v0 1) 1) 1))=true then (
      some (-1))
     else (
      if decide (a0.req.size≠(Zq (Zq (Zq (Zq v0 1) 1) 1) 1))=true then (
       some (-1))
      else (
       if decide (a0.req.burst≠(Zq (Zq (Zq (Zq (Zq v0 1) 1) 1) 1) 1))=true then (
        some (-1))
       else (
        if (a0.req.lock != decide ((Zfv (Zq (Zq (Zq (Zq (Zq (Zq v0 1) 1) 1) 1) 1) 1) 3)=0))=true then (
         some (-1))
        else (
         (Zan a0.req.data_ (Zq (Zq (Zq (Zq (Zq (Zq (Zq v0 1) 1) 1) 1) 1) 1) 1)).bind λr0=>
         if decide (r0 < 0)=true then (
          some (-1))
         else (
          k r0 (Zq v1 1))))))))))
 else (
  some v0)
def Zdi (x0:List Zf) (x1:Int)  : Nat->Int->Int->Option Int
 | 0,_,_=>none
 | m+1,v0,v1=>Jt x0 x1  (Zdi x0 x1  m) v0 v1
def Zdw (x0:List Zf) (x1:Int):Option Int:=
 Zdi x0 x1 FU x1 0
def Zc2 (x0:Za) (x1:Int):Option Int:=
 (Zdw x0.posts x1).bind λr0=>
 if decide (r0 < 0)=true then (
  some (-1))
 else (
  (Zan x0.waits r0).bind λr1=>
  if decide (r1 < 0)=true then (
   some (-1))
  else (
   (Zan x0.says r1).bind λr2=>
   if decide (r2 < 0)=true then (
    some (-1))
   else (
    some r2)))
end Go.Proofs.YthdljdelfgofdaaGreatDoor.Ev
namespace Go.Proofs.YthdljdelfgofdaaGreatDoor.Ev
open Go Go.Proofs Go.RowKit
def Zj.enc (x:Zj):List V:=[.lit (.bool x.write),.lit (.int .i64 x.addr),.lit (.int .i64 x.size),.lit (.int .i64 x.burst),.lit (.bool x.lock),.tr (x.data_.map Ze)]
def Zf.enc (x:Zf):List V:=[.lit (.int .i64 x.at_),.lit (.int .i64 x.who),.lit (.bool x.req.write),.lit (.int .i64 x.req.addr),.lit (.int .i64 x.req.size),.lit (.int .i64 x.req.burst),.lit (.bool x.req.lock),.tr (x.req.data_.map Ze)]
theorem Zf.enc_len (x:Zf):(Zf.enc x).length=8:=rfl
def Za.enc (x:Za):List V:=[.tr (x.posts.map Zf.enc),.tr (x.waits.map Ze),.tr (x.says.map Ze)]
def Za.ow (x:Za):List V:=[.own 60 (x.posts.map Zf.enc),.own 3 (x.waits.map Ze),.own 3 (x.says.map Ze)]
def Za.rl (x:Za) (n:Nat):List V:=[.sl (1,n) 0 (x.posts.map Zf.enc).length,.sl (1,n+1) 0 (x.waits.map Ze).length,.sl (1,n+2) 0 (x.says.map Ze).length]
def Za.bk (x:Za) (n:Nat):List (Id×Blk):=[((1,n),⟨false,true,true,60,(x.posts.map Zf.enc)⟩),((1,n+1),⟨false,true,true,3,(x.waits.map Ze)⟩),((1,n+2),⟨false,true,true,3,(x.says.map Ze)⟩)]
def Za.nm (x:Za):List O:=[.num (x.posts.map Zf.enc).length 0 0 [],.num (x.waits.map Ze).length 0 0 [],.num (x.says.map Ze).length 0 0 []]
theorem Za.so (x:Za) {q:List O} {p:Prop} (h:Scr q p):Scr q ((x.posts.map Zf.enc).length=(x.posts.map Zf.enc).length/\(x.waits.map Ze).length=(x.waits.map Ze).length/\(x.says.map Ze).length=(x.says.map Ze).length/\p):=⟨rfl,rfl,rfl,h⟩
theorem Za.sc (x:Za) {q:List O} {p:Prop} (h:Scr q p):Scr (Za.nm x++q) ((x.posts.map Zf.enc).length=(x.posts.map Zf.enc).length/\(x.waits.map Ze).length=(x.waits.map Ze).length/\(x.says.map Ze).length=(x.says.map Ze).length/\p):=⟨rfl,rfl,rfl,h⟩
def ffi (n:Nat):Nat->List (Id×Id)
 | 0=>[]
 | m+1=>((1,n),(1,n))::ffi (n+1) m
abbrev bx (n:Nat) (r:List V):Id×Blk:=((1,n),⟨true,true,true,0,[r]⟩)
abbrev rx (n t:Nat) (R:List (List V)):Id×Blk:=((1,n),⟨false,true,true,t,R⟩)
end Go.Proofs.YthdljdelfgofdaaGreatDoor.Ev
namespace Go.Proofs
open Go.Shelf Go.RowKit Go.Sort Go.Lib
def Tryz.lays156_ren:Go.Shelf.Ren:=⟨λ|156=>31|165=>72|166=>73|169=>74|240=>126|241=>127|276=>184|277=>185|n=>n,λ|31=>65|9=>9|3=>3|4=>4|0=>0|20=>20|72=>128|76=>132|70=>126|37=>31|75=>131|127=>168|164=>201|5=>5|80=>134|n=>n,λ|n=>n⟩
theorem Tryz.lays156:Go.Proofs.Lays.n156 Tryz.prog Tryz.lays156_ren:={
 mixed:=by kernel_rfl
 f156:=Tryz.func31.trans (congrArg some (by kernel_rfl))
 f165:=Tryz.func72.trans (congrArg some (by kernel_rfl))
 f166:=Tryz.func73.trans (congrArg some (by kernel_rfl))
 f169:=Tryz.func74.trans (congrArg some (by kernel_rfl))
 f240:=Tryz.func126.trans (congrArg some (by kernel_rfl))
 f241:=Tryz.func127.trans (congrArg some (by kernel_rfl))
 f276:=Tryz.func184.trans (congrArg some (by kernel_rfl))
 f277:=Tryz.func185.trans (congrArg some (by kernel_rfl))
 t0:=Tryz.underlying0
 a0:=Tryz.isAgg0
 z0:=Tryz.sizeOf0
 v0:=Tryz.zeroValue0
 t3:=Tryz.underlying3
 a3:=Tryz.isAgg3
 z3:=Tryz.sizeOf3
 v3:=Tryz.zeroValue3
 t4:=Tryz.underlying4
 a4:=Tryz.isAgg4
 z4:=Tryz.sizeOf4
 v4:=Tryz.zeroValue4
 t9:=Tryz.underlying9
 a9:=Tryz.isAgg9
 z9:=Tryz.sizeOf9
 v9:=Tryz.zeroValue9
 t20:=Tryz.underlying20
 a20:=Tryz.isAgg20
 z20:=Tryz.sizeOf20
 v20:=Tryz.zeroValue20
 t31:=Tryz.underlying65
 a31:=Tryz.isAgg65
 z31:=Tryz.sizeOf65
 v31:=Tryz.zeroValue65
 t37:=Tryz.underlying31
 a37:=Tryz.isAgg31
 z37:=Tryz.sizeOf31
 v37:=Tryz.zeroValue31
 t70:=Tryz.underlying126
 a70:=Tryz.isAgg126
 z70:=Tryz.sizeOf126
 v70:=Tryz.zeroValue126
 t72:=Tryz.underlying128
 a72:=Tryz.isAgg128
 z72:=Tryz.sizeOf128
 v72:=Tryz.zeroValue128
 t75:=Tryz.underlying131
 a75:=Tryz.isAgg131
 z75:=Tryz.sizeOf131
 v75:=Tryz.zeroValue131
 t76:=Tryz.underlying132
 a76:=Tryz.isAgg132
 z76:=Tryz.sizeOf132
 v76:=Tryz.zeroValue132
 t127:=Tryz.underlying168
 a127:=Tryz.isAgg168
 z127:=Tryz.sizeOf168
 v127:=Tryz.zeroValue168
 t164:=Tryz.underlying201
 a164:=Tryz.isAgg201
 z164:=Tryz.sizeOf201
 v164:=Tryz.zeroValue201}
theorem Tryz.Builder_Extra_156:Builder.Extra Tryz.prog Tryz.lays156_ren:={
 sizeBuilder:=by kernel_rfl
 liesBuilder:=by kernel_rfl
 t5:=Tryz.underlying5
 a5:=Tryz.isAgg5
 z5:=Tryz.sizeOf5
 v5:=Tryz.zeroValue5
 infoByte:=by kernel_rfl
 cellsByte:=by kernel_rfl
 sizeByte:=by kernel_rfl
 neB5:=by decide}
theorem Tryz.strings_Join_none (a:Option Addr) (c:Nat) (sep:ByteArray) (w:World):
  Calls Tryz.prog 31 #[.slice a 0 c,.string sep] w λe w'=>e=.returned (.string ⟨#[]⟩)/\w'=w:=Any.strings_Join_none Tryz.lays156 Tryz.Builder_Extra_156 a c sep w
theorem Tryz.strings_Join (bk o c:Nat) (xs:List ByteArray) (sep:ByteArray) (w:World) (Kj:∀(j:Nat) x,xs[j]?=some x->w.cell? ⟨bk,o+j,none⟩=some (.string x)) (hbk:bk < w.heap.size) (hN:xs.length<=140737488355328) (Zcy:xs.length<=c) (Z3:(Lib.join (xs.map (·.data.toList)) sep.data.toList).length<=140737488355328):
  Calls Tryz.prog 31 #[.slice (some ⟨bk,o,none⟩) xs.length c,.string sep] w λe w'=>e=.returned (.string ⟨(Lib.join (xs.map (·.data.toList)) sep.data.toList).toArray⟩)/\Below w.heap.size w w':=Any.strings_Join Tryz.lays156 Tryz.Builder_Extra_156 bk o c xs sep w Kj hbk hN Zcy Z3
def Tryz.laysM171_ren:Go.Shelf.Ren:=⟨λ|171=>128|243=>186|246=>231|283=>272|284=>273|285=>274|286=>275|129=>296|317=>295|318=>297|319=>298|320=>299|337=>305|338=>306|n=>n,λ|3=>3|9=>9|2=>2|4=>4|171=>250|0=>0|53=>244|37=>31|5=>5|173=>253|212=>264|51=>228|20=>20|213=>265|46=>194|232=>272|233=>273|n=>n,λ|17=>5|18=>6|19=>7|n=>n⟩
theorem Tryz.laysM171:Go.Proofs.LaysM.n171 Tryz.prog Tryz.laysM171_ren:={
 mixed:=by kernel_rfl
 f129:=Tryz.func296.trans (congrArg some (by kernel_rfl))
 f171:=Tryz.func128.trans (congrArg some (by kernel_rfl))
 f243:=Tryz.func186.trans (congrArg some (by kernel_rfl))
 f246:=Tryz.func231.trans (congrArg some (by kernel_rfl))
 f283:=Tryz.func272.trans (congrArg some (by kernel_rfl))
 f284:=Tryz.func273.trans (congrArg some (by kernel_rfl))
 f285:=Tryz.func274.trans (congrArg some (by kernel_rfl))
 f286:=Tryz.func275.trans (congrArg some (by kernel_rfl))
 f317:=Tryz.func295.trans (congrArg some (by kernel_rfl))
 f318:=Tryz.func297.trans (congrArg some (by kernel_rfl))
 f319:=Tryz.func298.trans (congrArg some (by kernel_rfl))
 f320:=Tryz.func299.trans (congrArg some (by kernel_rfl))
 f337:=Tryz.func305.trans (congrArg some (by kernel_rfl))
 f338:=Tryz.func306.trans (congrArg some (by kernel_rfl))
 t0:=Tryz.underlying0
 a0:=Tryz.isAgg0
 z0:=Tryz.sizeOf0
 v0:=Tryz.zeroValue0
 t2:=Tryz.underlying2
 a2:=Tryz.isAgg2
 z2:=Tryz.sizeOf2
 v2:=Tryz.zeroValue2
 t3:=Tryz.underlying3
 a3:=Tryz.isAgg3
 z3:=Tryz.sizeOf3
 v3:=Tryz.zeroValue3
 t4:=Tryz.underlying4
 a4:=Tryz.isAgg4
 z4:=Tryz.sizeOf4
 v4:=Tryz.zeroValue4
 t5:=Tryz.underlying5
 a5:=Tryz.isAgg5
 z5:=Tryz.sizeOf5
 v5:=Tryz.zeroValue5
 t9:=Tryz.underlying9
 a9:=Tryz.isAgg9
 z9:=Tryz.sizeOf9
 v9:=Tryz.zeroValue9
 t20:=Tryz.underlying20
 a20:=Tryz.isAgg20
 z20:=Tryz.sizeOf20
 v20:=Tryz.zeroValue20
 t37:=Tryz.underlying31
 a37:=Tryz.isAgg31
 z37:=Tryz.sizeOf31
 v37:=Tryz.zeroValue31
 t46:=Tryz.underlying194
 a46:=Tryz.isAgg194
 z46:=Tryz.sizeOf194
 v46:=Tryz.zeroValue194
 t51:=Tryz.underlying228
 a51:=Tryz.isAgg228
 z51:=Tryz.sizeOf228
 v51:=Tryz.zeroValue228
 t53:=Tryz.underlying244
 a53:=Tryz.isAgg244
 z53:=Tryz.sizeOf244
 v53:=Tryz.zeroValue244
 t171:=Tryz.underlying250
 a171:=Tryz.isAgg250
 z171:=Tryz.sizeOf250
 v171:=Tryz.zeroValue250
 t173:=Tryz.underlying253
 a173:=Tryz.isAgg253
 z173:=Tryz.sizeOf253
 v173:=Tryz.zeroValue253
 t212:=Tryz.underlying264
 a212:=Tryz.isAgg264
 z212:=Tryz.sizeOf264
 v212:=Tryz.zeroValue264
 t213:=Tryz.underlying265
 a213:=Tryz.isAgg265
 z213:=Tryz.sizeOf265
 t232:=Tryz.underlying272
 a232:=Tryz.isAgg272
 z232:=Tryz.sizeOf272
 v232:=Tryz.zeroValue272
 t233:=Tryz.underlying273
 a233:=Tryz.isAgg273
 z233:=Tryz.sizeOf273
 v233:=Tryz.zeroValue273
 g17:=by kernel_rfl
 g18:=by kernel_rfl
 g19:=by kernel_rfl
 i0:=by kernel_rfl
 i2:=by kernel_rfl
 i3:=by kernel_rfl
 i4:=by kernel_rfl
 i5:=by kernel_rfl
 i9:=by kernel_rfl
 i20:=by kernel_rfl
 i37:=by kernel_rfl
 i46:=by kernel_rfl
 i51:=by kernel_rfl
 i53:=by kernel_rfl
 i171:=by kernel_rfl
 i173:=by kernel_rfl
 i212:=by kernel_rfl
 i232:=by kernel_rfl
 i233:=by kernel_rfl
 m17:=by kernel_rfl
 m18:=by kernel_rfl
 m19:=by kernel_rfl}
theorem Tryz.strconv_Itoa (n:Int) (h0:-9223372036854775808<=n) (h1:n<=9223372036854775807) (w:World) (Z0h:Lib.TabIs Tryz.prog w "internal/strconv.uint64pow10" .u64 Lib.pow10Tab):
  Calls Tryz.prog 128 #[.int .i64 n] w λe w'=>e=.returned (.string ⟨(Lib.itoa n).toArray⟩)/\∃k os,w'=grow (w.drewN k) os:=Any.strconv_Itoa Tryz.laysM171 n h0 h1 w Z0h
def Tryz.laysC172_ren:Go.Shelf.Ren:=⟨λ|172=>117|244=>177|245=>178|247=>223|279=>224|280=>225|281=>226|282=>227|287=>269|316=>270|171=>128|205=>271|321=>293|322=>294|243=>186|246=>231|283=>272|284=>273|285=>274|286=>275|129=>296|317=>295|318=>297|319=>298|320=>299|337=>305|338=>306|n=>n,λ|9=>9|3=>3|75=>131|76=>132|4=>4|5=>5|167=>220|37=>31|0=>0|85=>221|2=>2|168=>223|53=>244|175=>245|46=>194|210=>248|127=>168|145=>262|143=>260|21=>21|171=>250|173=>253|212=>264|51=>228|20=>20|213=>265|232=>272|233=>273|80=>134|n=>n,λ|15=>3|16=>4|17=>5|18=>6|19=>7|n=>n⟩
theorem Tryz.laysC172:Go.Proofs.LaysC.n172 Tryz.prog Tryz.laysC172_ren:={
 mixed:=by kernel_rfl
 f129:=Tryz.func296.trans (congrArg some (by kernel_rfl))
 f171:=Tryz.func128.trans (congrArg some (by kernel_rfl))
 f172:=Tryz.func117.trans (congrArg some (by kernel_rfl))
 f205:=Tryz.func271.trans (congrArg some (by kernel_rfl))
 f243:=Tryz.func186.trans (congrArg some (by kernel_rfl))
 f244:=Tryz.func177.trans (congrArg some (by kernel_rfl))
 f245:=Tryz.func178.trans (congrArg some (by kernel_rfl))
 f246:=Tryz.func231.trans (congrArg some (by kernel_rfl))
 f247:=Tryz.func223.trans (congrArg some (by kernel_rfl))
 f279:=Tryz.func224.trans (congrArg some (by kernel_rfl))
 f280:=Tryz.func225.trans (congrArg some (by kernel_rfl))
 f281:=Tryz.func226.trans (congrArg some (by kernel_rfl))
 f282:=Tryz.func227.trans (congrArg some (by kernel_rfl))
 f283:=Tryz.func272.trans (congrArg some (by kernel_rfl))
 f284:=Tryz.func273.trans (congrArg some (by kernel_rfl))
 f285:=Tryz.func274.trans (congrArg some (by kernel_rfl))
 f286:=Tryz.func275.trans (congrArg some (by kernel_rfl))
 f287:=Tryz.func269.trans (congrArg some (by kernel_rfl))
 f316:=Tryz.func270.trans (congrArg some (by kernel_rfl))
 f317:=Tryz.func295.trans (congrArg some (by kernel_rfl))
 f318:=Tryz.func297.trans (congrArg some (by kernel_rfl))
 f319:=Tryz.func298.trans (congrArg some (by kernel_rfl))
 f320:=Tryz.func299.trans (congrArg some (by kernel_rfl))
 f321:=Tryz.func293.trans (congrArg some (by kernel_rfl))
 f322:=Tryz.func294.trans (congrArg some (by kernel_rfl))
 f337:=Tryz.func305.trans (congrArg some (by kernel_rfl))
 f338:=Tryz.func306.trans (congrArg some (by kernel_rfl))
 t0:=Tryz.underlying0
 a0:=Tryz.isAgg0
 z0:=Tryz.sizeOf0
 v0:=Tryz.zeroValue0
 t2:=Tryz.underlying2
 a2:=Tryz.isAgg2
 z2:=Tryz.sizeOf2
 v2:=Tryz.zeroValue2
 t3:=Tryz.underlying3
 a3:=Tryz.isAgg3
 z3:=Tryz.sizeOf3
 v3:=Tryz.zeroValue3
 t4:=Tryz.underlying4
 a4:=Tryz.isAgg4
 z4:=Tryz.sizeOf4
 v4:=Tryz.zeroValue4
 t5:=Tryz.underlying5
 a5:=Tryz.isAgg5
 z5:=Tryz.sizeOf5
 v5:=Tryz.zeroValue5
 t9:=Tryz.underlying9
 a9:=Tryz.isAgg9
 z9:=Tryz.sizeOf9
 v9:=Tryz.zeroValue9
 t20:=Tryz.underlying20
 a20:=Tryz.isAgg20
 z20:=Tryz.sizeOf20
 v20:=Tryz.zeroValue20
 t21:=Tryz.underlying21
 a21:=Tryz.isAgg21
 z21:=Tryz.sizeOf21
 v21:=Tryz.zeroValue21
 t37:=Tryz.underlying31
 a37:=Tryz.isAgg31
 z37:=Tryz.sizeOf31
 v37:=Tryz.zeroValue31
 t46:=Tryz.underlying194
 a46:=Tryz.isAgg194
 z46:=Tryz.sizeOf194
 v46:=Tryz.zeroValue194
 t51:=Tryz.underlying228
 a51:=Tryz.isAgg228
 z51:=Tryz.sizeOf228
 v51:=Tryz.zeroValue228
 t53:=Tryz.underlying244
 a53:=Tryz.isAgg244
 z53:=Tryz.sizeOf244
 v53:=Tryz.zeroValue244
 t75:=Tryz.underlying131
 a75:=Tryz.isAgg131
 z75:=Tryz.sizeOf131
 v75:=Tryz.zeroValue131
 t76:=Tryz.underlying132
 a76:=Tryz.isAgg132
 z76:=Tryz.sizeOf132
 v76:=Tryz.zeroValue132
 t85:=Tryz.underlying221
 a85:=Tryz.isAgg221
 z85:=Tryz.sizeOf221
 v85:=Tryz.zeroValue221
 t127:=Tryz.underlying168
 a127:=Tryz.isAgg168
 z127:=Tryz.sizeOf168
 v127:=Tryz.zeroValue168
 t143:=Tryz.underlying260
 a143:=Tryz.isAgg260
 z143:=Tryz.sizeOf260
 v143:=Tryz.zeroValue260
 t145:=Tryz.underlying262
 a145:=Tryz.isAgg262
 z145:=Tryz.sizeOf262
 v145:=Tryz.zeroValue262
 t167:=Tryz.underlying220
 a167:=Tryz.isAgg220
 z167:=Tryz.sizeOf220
 v167:=Tryz.zeroValue220
 t168:=Tryz.underlying223
 a168:=Tryz.isAgg223
 z168:=Tryz.sizeOf223
 v168:=Tryz.zeroValue223
 t171:=Tryz.underlying250
 a171:=Tryz.isAgg250
 z171:=Tryz.sizeOf250
 v171:=Tryz.zeroValue250
 t173:=Tryz.underlying253
 a173:=Tryz.isAgg253
 z173:=Tryz.sizeOf253
 v173:=Tryz.zeroValue253
 t175:=Tryz.underlying245
 a175:=Tryz.isAgg245
 z175:=Tryz.sizeOf245
 v175:=Tryz.zeroValue245
 t210:=Tryz.underlying248
 a210:=Tryz.isAgg248
 z210:=Tryz.sizeOf248
 v210:=Tryz.zeroValue248
 t212:=Tryz.underlying264
 a212:=Tryz.isAgg264
 z212:=Tryz.sizeOf264
 v212:=Tryz.zeroValue264
 t213:=Tryz.underlying265
 a213:=Tryz.isAgg265
 z213:=Tryz.sizeOf265
 t232:=Tryz.underlying272
 a232:=Tryz.isAgg272
 z232:=Tryz.sizeOf272
 v232:=Tryz.zeroValue272
 t233:=Tryz.underlying273
 a233:=Tryz.isAgg273
 z233:=Tryz.sizeOf273
 v233:=Tryz.zeroValue273
 g15:=by kernel_rfl
 g16:=by kernel_rfl
 g17:=by kernel_rfl
 g18:=by kernel_rfl
 g19:=by kernel_rfl
 t80:=Tryz.underlying134
 a80:=Tryz.isAgg134
 z80:=Tryz.sizeOf134
 v80:=Tryz.zeroValue134
 i0:=by kernel_rfl
 i2:=by kernel_rfl
 i3:=by kernel_rfl
 i4:=by kernel_rfl
 i5:=by kernel_rfl
 i9:=by kernel_rfl
 i20:=by kernel_rfl
 i21:=by kernel_rfl
 i37:=by kernel_rfl
 i46:=by kernel_rfl
 i51:=by kernel_rfl
 i53:=by kernel_rfl
 i75:=by kernel_rfl
 i76:=by kernel_rfl
 i80:=by kernel_rfl
 i85:=by kernel_rfl
 i127:=by kernel_rfl
 i143:=by kernel_rfl
 i145:=by kernel_rfl
 i167:=by kernel_rfl
 i168:=by kernel_rfl
 i171:=by kernel_rfl
 i173:=by kernel_rfl
 i175:=by kernel_rfl
 i210:=by kernel_rfl
 i212:=by kernel_rfl
 i232:=by kernel_rfl
 i233:=by kernel_rfl
 m15:=by kernel_rfl
 m16:=by kernel_rfl
 m17:=by kernel_rfl
 m18:=by kernel_rfl
 m19:=by kernel_rfl
 c0:=by kernel_rfl
 c2:=by kernel_rfl
 c3:=by kernel_rfl
 c4:=by kernel_rfl
 c5:=by kernel_rfl
 c9:=by kernel_rfl
 c20:=by kernel_rfl
 c21:=by kernel_rfl
 c37:=by kernel_rfl
 c46:=by kernel_rfl
 c51:=by kernel_rfl
 c53:=by kernel_rfl
 c75:=by kernel_rfl
 c76:=by kernel_rfl
 c80:=by kernel_rfl
 c85:=by kernel_rfl
 c127:=by kernel_rfl
 c143:=by kernel_rfl
 c145:=by kernel_rfl
 c167:=by kernel_rfl
 c168:=by kernel_rfl
 c171:=by kernel_rfl
 c173:=by kernel_rfl
 c175:=by kernel_rfl
 c210:=by kernel_rfl
 c212:=by kernel_rfl
 c213:=by kernel_rfl
 c232:=by kernel_rfl
 c233:=by kernel_rfl}
theorem Tryz.strconv_Atoi_ok (s:ByteArray) (hmax:s.size<=9223372036854775806) (v:Int) (h:Lib.atoiAll s.data.toList=.ok v) (w:World):
  Calls Tryz.prog 117 #[.string s] w λe w'=>e=.returned (.tuple #[.int .i64 v,.nilIface])/\(w'=w\/∃t,w'=Lib.bytesWorld w 5 t):=Any.strconv_Atoi_ok Tryz.laysC172 s hmax v h w
theorem Tryz.strconv_Atoi_syntax (s:ByteArray) (Zku:s.size<=281474976710656) (h:Lib.atoiAll s.data.toList=Go.Lib.NumEnd.syntax) (ev:Value) (w:World) (hv:w.cell? ⟨3,0,none⟩=some ev) (hev:ev=.nilIface\/∃te pe,ev=.iface te pe):
  Calls Tryz.prog 117 #[.string s] w λe w'=>∃N,e=.returned (.tuple #[.int .i64 (0),.iface 223 (.pointer (some ⟨N,0,none⟩))])/\w.heap.size<=N/\w'.heap[N]?=some (.cells #[.string ⟨#[65,116,111,105]⟩,.string s,ev] 248 (0,0))/\Below w.heap.size w w':=Any.strconv_Atoi_syntax Tryz.laysC172 s Zku h ev w hv hev
theorem Tryz.strconv_Atoi_range (s:ByteArray) (Zku:s.size<=281474976710656) (h:Lib.atoiAll s.data.toList=.range) (ev:Value) (w:World) (hv:w.cell? ⟨4,0,none⟩=some ev) (hev:ev=.nilIface\/∃te pe,ev=.iface te pe):
  Calls Tryz.prog 117 #[.string s] w λe w'=>∃N,e=.returned (.tuple #[.int .i64 (Lib.atoiSat s.data.toList),.iface 223 (.pointer (some ⟨N,0,none⟩))])/\w.heap.size<=N/\w'.heap[N]?=some (.cells #[.string ⟨#[65,116,111,105]⟩,.string s,ev] 248 (0,0))/\Below w.heap.size w w':=Any.strconv_Atoi_range Tryz.laysC172 s Zku h ev w hv hev
def Tryz.lays101_ren:Go.Shelf.Ren:=⟨λ|101=>118|208=>179|206=>228|n=>n,λ|9=>9|4=>4|3=>3|n=>n,λ|n=>n⟩
theorem Tryz.lays101:Go.Proofs.Lays.n101 Tryz.prog Tryz.lays101_ren:={
 mixed:=by kernel_rfl
 f101:=Tryz.func118.trans (congrArg some (by kernel_rfl))
 f206:=Tryz.func228.trans (congrArg some (by kernel_rfl))
 f208:=Tryz.func179.trans (congrArg some (by kernel_rfl))
 t3:=Tryz.underlying3
 a3:=Tryz.isAgg3
 z3:=Tryz.sizeOf3
 v3:=Tryz.zeroValue3
 t4:=Tryz.underlying4
 a4:=Tryz.isAgg4
 z4:=Tryz.sizeOf4
 v4:=Tryz.zeroValue4
 t9:=Tryz.underlying9
 a9:=Tryz.isAgg9
 z9:=Tryz.sizeOf9
 v9:=Tryz.zeroValue9}
theorem Tryz.strings_TrimPrefix (s p:ByteArray) (w:World):
  Calls Tryz.prog 118 #[.string s,.string p] w λe w'=>e=.returned (.string ⟨(Lib.trimPrefix s.data.toList p.data.toList).toArray⟩)/\w'=w:=Any.strings_TrimPrefix Tryz.lays101 s p w
def Tryz.lays102_ren:Go.Shelf.Ren:=⟨λ|102=>28|209=>65|207=>116|n=>n,λ|9=>9|4=>4|3=>3|n=>n,λ|n=>n⟩
theorem Tryz.lays102:Go.Proofs.Lays.n102 Tryz.prog Tryz.lays102_ren:={
 mixed:=by kernel_rfl
 f102:=Tryz.func28.trans (congrArg some (by kernel_rfl))
 f207:=Tryz.func116.trans (congrArg some (by kernel_rfl))
 f209:=Tryz.func65.trans (congrArg some (by kernel_rfl))
 t3:=Tryz.underlying3
 a3:=Tryz.isAgg3
 z3:=Tryz.sizeOf3
 v3:=Tryz.zeroValue3
 t4:=Tryz.underlying4
 a4:=Tryz.isAgg4
 z4:=Tryz.sizeOf4
 v4:=Tryz.zeroValue4
 t9:=Tryz.underlying9
 a9:=Tryz.isAgg9
 z9:=Tryz.sizeOf9
 v9:=Tryz.zeroValue9}
theorem Tryz.strings_TrimSuffix (s p:ByteArray) (w:World) (hs:s.size<=9223372036854775807):
  Calls Tryz.prog 28 #[.string s,.string p] w λe w'=>e=.returned (.string ⟨(Lib.trimSuffix s.data.toList p.data.toList).toArray⟩)/\w'=w:=Any.strings_TrimSuffix Tryz.lays102 s p w hs
def Tryz.laysM146_ren:Go.Shelf.Ren:=⟨λ|146=>27|221=>64|268=>114|138=>115|143=>100|195=>174|197=>175|218=>176|219=>154|260=>222|217=>193|225=>194|224=>195|267=>196|266=>233|314=>234|n=>n,λ|9=>9|31=>65|3=>3|4=>4|0=>0|105=>196|21=>21|5=>5|46=>194|119=>240|139=>243|138=>242|146=>229|51=>228|n=>n,λ|1=>0|3=>1|4=>2|n=>n⟩
theorem Tryz.laysM146:Go.Proofs.LaysM.n146 Tryz.prog Tryz.laysM146_ren:={
 mixed:=by kernel_rfl
 f138:=Tryz.func115.trans (congrArg some (by kernel_rfl))
 f143:=Tryz.func100.trans (congrArg some (by kernel_rfl))
 f146:=Tryz.func27.trans (congrArg some (by kernel_rfl))
 f195:=Tryz.func174.trans (congrArg some (by kernel_rfl))
 f197:=Tryz.func175.trans (congrArg some (by kernel_rfl))
 f217:=Tryz.func193.trans (congrArg some (by kernel_rfl))
 f218:=Tryz.func176.trans (congrArg some (by kernel_rfl))
 f219:=Tryz.func154.trans (congrArg some (by kernel_rfl))
 f221:=Tryz.func64.trans (congrArg some (by kernel_rfl))
 f224:=Tryz.func195.trans (congrArg some (by kernel_rfl))
 f225:=Tryz.func194.trans (congrArg some (by kernel_rfl))
 f260:=Tryz.func222.trans (congrArg some (by kernel_rfl))
 f266:=Tryz.func233.trans (congrArg some (by kernel_rfl))
 f267:=Tryz.func196.trans (congrArg some (by kernel_rfl))
 f268:=Tryz.func114.trans (congrArg some (by kernel_rfl))
 f314:=Tryz.func234.trans (congrArg some (by kernel_rfl))
 t0:=Tryz.underlying0
 a0:=Tryz.isAgg0
 z0:=Tryz.sizeOf0
 v0:=Tryz.zeroValue0
 t3:=Tryz.underlying3
 a3:=Tryz.isAgg3
 z3:=Tryz.sizeOf3
 v3:=Tryz.zeroValue3
 t4:=Tryz.underlying4
 a4:=Tryz.isAgg4
 z4:=Tryz.sizeOf4
 v4:=Tryz.zeroValue4
 t5:=Tryz.underlying5
 a5:=Tryz.isAgg5
 z5:=Tryz.sizeOf5
 v5:=Tryz.zeroValue5
 t9:=Tryz.underlying9
 a9:=Tryz.isAgg9
 z9:=Tryz.sizeOf9
 v9:=Tryz.zeroValue9
 t21:=Tryz.underlying21
 a21:=Tryz.isAgg21
 z21:=Tryz.sizeOf21
 v21:=Tryz.zeroValue21
 t31:=Tryz.underlying65
 a31:=Tryz.isAgg65
 z31:=Tryz.sizeOf65
 v31:=Tryz.zeroValue65
 t46:=Tryz.underlying194
 a46:=Tryz.isAgg194
 z46:=Tryz.sizeOf194
 v46:=Tryz.zeroValue194
 t51:=Tryz.underlying228
 a51:=Tryz.isAgg228
 z51:=Tryz.sizeOf228
 v51:=Tryz.zeroValue228
 t105:=Tryz.underlying196
 a105:=Tryz.isAgg196
 z105:=Tryz.sizeOf196
 v105:=Tryz.zeroValue196
 t119:=Tryz.underlying240
 a119:=Tryz.isAgg240
 z119:=Tryz.sizeOf240
 t138:=Tryz.underlying242
 a138:=Tryz.isAgg242
 z138:=Tryz.sizeOf242
 v138:=Tryz.zeroValue242
 t139:=Tryz.underlying243
 a139:=Tryz.isAgg243
 z139:=Tryz.sizeOf243
 v139:=Tryz.zeroValue243
 t146:=Tryz.underlying229
 a146:=Tryz.isAgg229
 z146:=Tryz.sizeOf229
 v146:=Tryz.zeroValue229
 g1:=by kernel_rfl
 g3:=by kernel_rfl
 g4:=by kernel_rfl
 i0:=by kernel_rfl
 i3:=by kernel_rfl
 i4:=by kernel_rfl
 i5:=by kernel_rfl
 i9:=by kernel_rfl
 i21:=by kernel_rfl
 i31:=by kernel_rfl
 i46:=by kernel_rfl
 i51:=by kernel_rfl
 i105:=by kernel_rfl
 i138:=by kernel_rfl
 i139:=by kernel_rfl
 i146:=by kernel_rfl
 m1:=by kernel_rfl
 s1_3:=λw h=>Go.Proofs.cell_of_shapedOpen_int (zero:=#[.int .i64 0]) (t:=3) h (of_decide_eq_true (by kernel_rfl)) (by kernel_rfl) rfl (by kernel_rfl) (by kernel_rfl) Tryz.underlying3
 m3:=by kernel_rfl
 m4:=by kernel_rfl}
end Go.Proofs
namespace Go.Proofs.YthdljdelfgofdaaGreatDoor.Ev
open Go Go.Proofs
def Mo:Z7:=⟨λf=>(List.lookup f [(10,[.iov,.rd]),(35,[.iov,.rd]),(36,[.iov,.rd]),(107,[.io]),(57,[.io]),(56,[.io]),(60,[.io,.mv]),(109,[.io,.mv]),(59,[.io]),(55,[.io]),(211,[.io]),(244,[.io]),(246,[.io]),(251,[.io]),(213,[.io]),(161,[.io]),(210,[.io,.rd,.io]),(52,[.io,.rd]),(105,[.io,.rd]),(51,[.io,.rd]),(106,[.mv,.rd]),(53,[.mv,.rd]),(96,[.mv]),(97,[.mv]),(99,[.mv]),(98,[.mv]),(303,[.mv,.rd])]).getD [],λ_=>false⟩
variable [Anchor]
abbrev Y:=FuncId×List V×V×List V
abbrev RF (fn:Func) (y:Y):Ex->St->Prop:=Zr1 Tryz.prog Mo y.1 fn y.2.1 y.2.2
theorem Z36 {P:Program} (hm:P.follows .mixedOrders=true) (h:P.funcs.toList.all (λfn=>(match fn.body with|some c=>X2 fn.ntmps c|none=>true)&&!(fn.name == "runtime.NumGoroutine"))=true):Z2 P:=by
 rw[ZZk] at h;refine⟨hm,λf fn c hf hc=>?_,λf fn hf=>?_⟩
 .have:=h fn (Array.mem_toList_iff.2 (Vd5 hf))
  rw[hc] at this;simp only[ZZg] at this;exact this.1
 .have:=h fn (Array.mem_toList_iff.2 (Vd5 hf))
  simp only[ZZg,Vb5] at this;exact this.2
theorem fOk:Z2 Tryz.prog:=Z36 (by kernel_rfl) (by kernel_rfl)
theorem bnK {α β:Type} {x:Option α} {f:α->Option β} {b:β} {G:Prop} (h:x.bind f=some b) (k:∀a,x=some a->f a=some b->G):G:=by
 obtain⟨a,h1,h2⟩:=Z7c h;exact k a h1 h2
theorem itK {β:Type} {t:Bool} {x y:Option β} {b:β} {G:Prop} (h:(if t=true then x else y)=some b) (k1:t=true->x=some b->G) (k2:t=false->y=some b->G):G:=by
 rcases Z69 h with⟨h1,h2⟩|⟨h1,h2⟩
 .exact k1 h1 h2
 .exact k2 h1 h2
theorem rtK {α:Type} {F:α->Y} {fn:Func} {a r:α} {p:Prop} {stk:List It} {s:St} {q:List O} (h:some a=some r) (hp:Scr q p) (e:Zuu (runK Tryz.prog Mo (F a).1 fn (F a).2.1 100000 stk s q)=some (p,(F a).2.2):=by kernel_rfl):SX Tryz.prog (RF fn (F r)) stk .normal s:=by
 cases h;exact Yad fOk 100000 q hp e
theorem Zv {y:Y} {fn:Func} {stk k2:List It} {s:St} {p:Prop} {l:List (Nat×V)} {h:List (Id×Blk)} {ep:Nat} {q:List O} (f:List (Id×Id)) (n:Nat) (hp:Scr q p) (hn:SX Tryz.prog (RF fn y) k2 .normal (mkS l h ep))
  (e:Zuu (cutK Tryz.prog Mo f l h n stk s q)=some (p,(k2,Zu2 f l h)):=by kernel_rfl) (hb:(isC k2&&cutB f l h ep)=true:=by kernel_rfl):SX Tryz.prog (RF fn y) stk .normal s:=Z9e (M:=Mo) fOk f n q hp hn e hb
theorem Yj {α:Type} {F:α->Y} {fn:Func} {r:α} (Ku:Tryz.prog.funcs[(F r).1]?=some fn) (h:SX Tryz.prog (RF fn (F r)) [.c (J0 fn)] .normal (entS Mo (F r).1 (F r).2.1)) (hc:fn.body=some (J0 fn):=by kernel_rfl) (hs:(St.enters ⟨λ_=>.undef,λ_=>none,0⟩ 0 (Mo.modes (F r).1) (F r).2.1).isSome=true:=by kernel_rfl):
  Z5 Tryz.prog Mo (F r):=Z71 fOk Ku hc hs h
abbrev CS (y:Y) (fn:Func) (p:List Nat) (l:List (Nat×V)) (h:List (Id×Blk)):Prop:=SX Tryz.prog (RF fn y) (at_ p (J0 fn) []) .normal (mkS l h 1)
end Go.Proofs.YthdljdelfgofdaaGreatDoor.Ev
namespace Go.Proofs.YthdljdelfgofdaaGreatDoor.Ev
open Go Go.Proofs Go.RowKit Go.Sort
class ExtOk [A:Anchor]:Prop where
 maxLen:∃m,A.w.cell? ⟨0,0,none⟩=some (.int .i64 m)
 errS:∃ev,A.w.cell? ⟨3,0,none⟩=some ev/\(ev=.nilIface\/∃te pe,ev=.iface te pe)
 errR:∃ev,A.w.cell? ⟨4,0,none⟩=some ev/\(ev=.nilIface\/∃te pe,ev=.iface te pe)
 tab:Lib.TabIs Tryz.prog A.w "internal/strconv.uint64pow10" .u64 Lib.pow10Tab
theorem Zxs {P:Program} [A:Anchor] {w:World} {T:Nat->Prop} (hA:Zj3 w T) {name:String} {cs:Array Value} (h:A.w.var? P name=some cs):w.var? P name=some cs:=by
 unfold World.var? at h ⊢;obtain⟨g,hg,h⟩:=ZZb.1 h;rw[hg,ZZa];have Zs:g < A.w.heap.size:=by
  rcases Vbv g A.w.heap.size with h'|h'
  .exact h'
  .rw[Vc5 h'] at h;cases h
 rw[hA.2.1 g Zs];exact h
theorem Znw [A:Anchor] {w:World} {T:Nat->Prop} (hA:Zj3 w T) {g o:Nat} {v:Value} (h:A.w.cell? ⟨g,o,none⟩=some v):w.cell? ⟨g,o,none⟩=some v:=by
 rw[Zkz (hA.2.1 g (Zla h))];exact h
theorem us1 {us:List Value} (h:us.length=1):∃u,us=[u]:=by
 match us,h with
 | [u],_=>exact⟨u,rfl⟩
theorem us2 {us:List Value} (h:us.length=2):∃u v,us=[u,v]:=by
 match us,h with
 | [u,v],_=>exact⟨u,v,rfl⟩
abbrev Zmo (x0 x1:ByteArray) (r:ByteArray):Y:=(28,[.lit (.string x0),.lit (.string x1)],.lit (.string r),[.undef,.undef])
theorem Zma [Anchor] [ExtOk] {x0 x1:ByteArray} {r:ByteArray} (h:X4 x0 x1=some r):Z5 Tryz.prog Mo (Zmo x0 x1 r):=by
 unfold X4 at h;split at h
 case isFalse=>cases h
 rename_i h0;injection h with h;subst h;refine Zqc (xs:=[.lit (.string x0),.lit (.string x1)]) ⟨_,Tryz.func28,by kernel_rfl⟩ (by kernel_rfl) (Zux rfl) λw us ok hA Zy hl he=>?_;obtain⟨u,v,rfl⟩:=us2 hl;obtain rfl:=Zgr (he 0 u _ rfl rfl (λ_=>none));obtain rfl:=Zgr (he 1 v _ rfl rfl (λ_=>none));refine (Tryz.strings_TrimSuffix x0 x1 w h0).mono λe w' ⟨he,hw⟩=>⟨he,?_⟩;subst hw;exact RowKit.Below.refl _ _
abbrev Zti (x0 x1:ByteArray) (r:List ByteArray):Y:=(27,[.lit (.string x0),.lit (.string x1)],.tr (r.map Zh),[.undef,.undef])
theorem Zeu [Anchor] [ExtOk] {x0 x1:ByteArray} {r:List ByteArray} (h:Qe x0 x1=some r):Z5 Tryz.prog Mo (Zti x0 x1 r):=by
 unfold Qe at h;split at h
 case isFalse=>cases h
 rename_i h0;injection h with h;subst h;obtain⟨m,hm⟩:=ExtOk.maxLen;have Z3:(Lib.splitB x1 0 (Lib.countB x0 x1) x0).length=Lib.countB x0 x1+1:=Lib.splitB_all x1 h0.2 0 _ x0 rfl;refine Z76 (e:=9) (xs:=[.lit (.string x0),.lit (.string x1)]) ⟨_,Tryz.func27,by kernel_rfl⟩ (by kernel_rfl) (by have:=Lib.countB_le x1 h0.2 x0.size x0 (Vaf _);rw[Z3];unfold maxLen;omega) λw us ok hA Zy hl he=>?_;obtain⟨u,v,rfl⟩:=us2 hl;obtain rfl:=Zgr (he 0 u _ rfl rfl (λ_=>none));obtain rfl:=Zgr (he 1 v _ rfl rfl (λ_=>none));rw[Z3];exact Any.strings_Split {Tryz.laysM146 with} Tryz.laysM146.i9 x0 x1 m w h0.1 (Znw hA hm) h0.2
theorem Z60 (n:Int) (h0:-9223372036854775808<=n) (h1:n<=9223372036854775807) (w:World) (Z0h:Lib.TabIs Tryz.prog w "internal/strconv.uint64pow10" .u64 Lib.pow10Tab):
  Calls Tryz.prog 76 #[.int .i64 n] w λe w'=>e=.returned (.string ⟨(Lib.itoa n).toArray⟩)/\∃k os,w'=grow (w.drewN k) os:=by
 have c:=Tryz.strconv_Itoa n h0 h1 w Z0h
 go_enter Tryz.func76,Tryz.ntmps76
 go_wp2_with (go_at_call 128;go_fit c;rintro e w' ⟨rfl,k,os,rfl⟩)
 go_ret
 exact⟨rfl,_,_,rfl⟩
def Zkt (s:ByteArray) (d v:Int):Int×Bool:=if Lib.itoa v=s.data.toList/\((Lib.trimPrefix s.data.toList [45]).length:Int)<=d then (v,true) else (0,false)
theorem Z3t (s:ByteArray) (d:Int) (w:World) (Zku:s.size<=281474976710656) (h:Lib.atoiAll s.data.toList=Lib.NumEnd.syntax) (ev:Value) (hv:w.cell? ⟨3,0,none⟩=some ev) (hev:ev=.nilIface\/∃te pe,ev=.iface te pe):
  Calls Tryz.prog 66 #[.string s,.int .i64 d] w λe w'=>e=.returned (.tuple #[.int .i64 0,.bool false])/\Below w.heap.size w w':=by
 have c:=Tryz.strconv_Atoi_syntax s Zku h ev w hv hev
 go_enter Tryz.func66,Tryz.ntmps66
 go_wp2_with (go_at_call 117;go_fit c;rintro e w1 ⟨N,rfl,hN,hc,hb⟩)
 go_ret2
 exact⟨rfl,hb⟩
theorem Zzp (s:ByteArray) (d:Int) (w:World) (Zku:s.size<=281474976710656) (h:Lib.atoiAll s.data.toList=.range) (ev:Value) (hv:w.cell? ⟨4,0,none⟩=some ev) (hev:ev=.nilIface\/∃te pe,ev=.iface te pe):
  Calls Tryz.prog 66 #[.string s,.int .i64 d] w λe w'=>e=.returned (.tuple #[.int .i64 0,.bool false])/\Below w.heap.size w w':=by
 have c:=Tryz.strconv_Atoi_range s Zku h ev w hv hev
 go_enter Tryz.func66,Tryz.ntmps66
 go_wp2_with (go_at_call 117;go_fit c;rintro e w1 ⟨N,rfl,hN,hc,hb⟩)
 go_ret2
 exact⟨rfl,hb⟩
theorem Z46 (s:ByteArray) (d:Int) (w:World) (v:Int) (hmax:s.size<=281474976710656) (h:Lib.atoiAll s.data.toList=.ok v) (h0:-9223372036854775808<=v) (h1:v<=9223372036854775807) (Z0h:∀w',Below w.heap.size w w'->Lib.TabIs Tryz.prog w' "internal/strconv.uint64pow10" .u64 Lib.pow10Tab):
  Calls Tryz.prog 66 #[.string s,.int .i64 d] w λe w'=>e=.returned (.tuple #[.int .i64 (Zkt s d v).1,.bool (Zkt s d v).2])/\Below w.heap.size w w':=by
 have c:=Tryz.strconv_Atoi_ok s (by omega) v h w
 go_enter Tryz.func66,Tryz.ntmps66
 go_wp2_with (go_at_call 117;go_fit c;rintro e w1 ⟨rfl,hw⟩)
 have K1:RowKit.Below w.heap.size w w1:=by
  rcases hw with rfl|⟨t,rfl⟩
  .exact Below.refl _ _
  .exact Lib.bytesWorld_below _ _ _
 have cD:=Z60 v h0 h1 w1 (Z0h w1 K1);clear hw
 go_wp2_with (first|(go_at_call 76;go_fit cD;rintro e w2 ⟨rfl,k,os,rfl⟩)|(go_at_call 118;refine (Tryz.strings_TrimPrefix s ⟨#[45]⟩ _).mono ?_;rintro e w3 ⟨rfl,rfl⟩))
 all_goals go_ret2
 all_goals (
  have hg:RowKit.Below w.heap.size w (grow (w1.drewN k) os):=by
   refine⟨K1.os,K1.tape,K1.output,?_,λj hj=>?_⟩
   .show w.heap.size<=(w1.heap++os).size
    have:=K1.size;rw[Vce];omega
   .show (w1.heap++os)[j]?=w.heap[j]?
    have:=K1.size;rw[Vbn (by omega)];exact K1.block j hj
  refine⟨?_,hg⟩)
 .rename_i e1 e2
  have:Zkt s d v=(0,false):=by unfold Zkt;rw[ZZi (by omega)]
  rw[this];rfl
 .rename_i e1 e2
  have:Zkt s d v=(v,true):=by unfold Zkt;rw[ZZj ⟨by rw[e1,Lib.toList_data],e2⟩]
  rw[this];rfl
 .rename_i e1
  have:Zkt s d v=(0,false):=by unfold Zkt;rw[ZZi (λh=>e1 (by rw[Lib.toList_data];exact h.1))]
  rw[this];rfl
abbrev Zsi (x0:ByteArray) (x1:Int) (r:Int×Bool):Y:=(66,[.lit (.string x0),.lit (.int .i64 x1)],.tup [.lit (.int .i64 r.1),.lit (.bool r.2)],[.undef,.undef])
theorem Z97 {P:Program} {u v:Value} (hu:Xn u=true) (hv:Xn v=true) (w':World) (ok top:Nat->Prop):Zbo P w' ok top (.tuple #[u,v]) (.tup [.lit u,.lit v]) []:=
 ⟨#[u,v],rfl,.cons (f1:=[]) (f2:=[]) (show Giv P w' ok top u (.lit u) [] from .lit hu) (.cons (f1:=[]) (f2:=[]) (show Giv P w' ok top v (.lit v) [] from .lit hv) .nil)⟩
theorem Zs1 {l:List UInt8} {v:Int} (h:Lib.atoiAll l=.ok v):-9223372036854775808<=v/\v<=9223372036854775807:=by
 unfold Lib.atoiAll at h;split at h
 .cases h
 .simp only at h
  split at h
  .cases h
  .cases h
  .rename_i u hu
   split at h
   .cases h
   .rename_i h1
    split at h
    .cases h
    .rename_i h2
     injection h with h;split at h
     .rename_i h3
      have:u<=9223372036854775808:=Vcg λhh=>h2 ⟨h3,hh⟩;omega
     .rename_i h3
      have:u < 9223372036854775808:=Vdv λhh=>h1 ⟨h3,hh⟩;omega
theorem Zl4 [Anchor] [ExtOk] {x0:ByteArray} {x1:Int} {r:Int×Bool} (h:Q5 x0 x1=some r):Z5 Tryz.prog Mo (Zsi x0 x1 r):=by
 have key:∀(q:Int×Bool),(∀(w:World),Zj3 w (λ_=>False)->Calls Tryz.prog 66 #[.string x0,.int .i64 x1] w λe w'=>e=.returned (.tuple #[.int .i64 q.1,.bool q.2])/\RowKit.Below w.heap.size w w')->Z5 Tryz.prog Mo (Zsi x0 x1 q):=λq hq=>by
  refine Zqc (xs:=[.lit (.string x0),.lit (.int .i64 x1)]) (v:=.tuple #[.int .i64 q.1,.bool q.2]) ⟨_,Tryz.func66,by kernel_rfl⟩ (by kernel_rfl) (Z97 rfl rfl) λw us ok hA Zy hl he=>?_;obtain⟨u,v,rfl⟩:=us2 hl;obtain rfl:=Zgr (he 0 u _ rfl rfl (λ_=>none));obtain rfl:=Zgr (he 1 v _ rfl rfl (λ_=>none));exact hq w hA
 unfold Q5 at h;split at h
 case isFalse=>cases h
 rename_i h0
 match hq:Lib.atoiAll x0.data.toList with
 | .ok v=>
  rw[hq] at h;have hr:r=Zkt x0 x1 v:=by
   unfold Zkt;simp only at h;split at h<;>rename_i hc<;>injection h with h
   .rw[ZZj hc,<-h]
   .rw[ZZi hc,<-h]
  rw[hr];refine key _ λw hA=>Z46 x0 x1 w v h0 hq (Zs1 hq).1 (Zs1 hq).2 λw' hb=>Zxs (T:=λ_=>False) ⟨Vcf hA.1 hb.size,λk hk=>by rw[hb.block k (Va3 hk hA.1)];exact hA.2.1 k hk,λg hg=>hg.elim⟩ ExtOk.tab
 | Lib.NumEnd.syntax=>
  rw[hq] at h;injection h with h;obtain⟨ev,he,hev⟩:=ExtOk.errS;rw[<-h];exact key _ λw hA=>Z3t x0 x1 w h0 hq ev (Znw hA he) hev
 | .range=>
  rw[hq] at h;injection h with h;obtain⟨ev,he,hev⟩:=ExtOk.errR;rw[<-h];exact key _ λw hA=>Zzp x0 x1 w h0 hq ev (Znw hA he) hev
abbrev Zu4 (x0:List ByteArray) (x1:ByteArray) (r:ByteArray):Y:=(31,[.tr (x0.map Zh),.lit (.string x1)],.lit (.string r),[.undef,.undef])
theorem Zc4 [Anchor] [ExtOk] {x0:List ByteArray} {x1:ByteArray} {r:ByteArray} (h:Wp x0 x1=some r):Z5 Tryz.prog Mo (Zu4 x0 x1 r):=by
 unfold Wp at h;split at h
 case isFalse=>cases h
 rename_i h0;injection h with h;subst h;refine Zqc (xs:=[.tr (x0.map Zh),.lit (.string x1)]) ⟨_,Tryz.func31,by kernel_rfl⟩ (by kernel_rfl) (Zux rfl) λw us ok hA Zy hl he=>?_;obtain⟨u,v,rfl⟩:=us2 hl;obtain rfl:=Zgr (he 1 v _ rfl rfl (λ_=>none));rcases Z85 (he 0 u _ rfl rfl (λ_=>none)) with⟨A,c,rfl,rfl⟩|⟨g,o,c,rfl,hg,hc,Kj⟩
 .refine (Tryz.strings_Join_none A c x1 w).mono λe w' ⟨he,hw⟩=>⟨he,?_⟩
  subst hw;exact RowKit.Below.refl _ _
 .exact Tryz.strings_Join g o c x0 x1 w Kj (Zy g hg) h0.1 hc h0.2
abbrev Zuj (x0:Int) (r:ByteArray):Y:=(128,[.lit (.int .i64 x0)],.lit (.string r),[.undef])
theorem Zue [Anchor] [ExtOk] {x0:Int} {r:ByteArray} (h:Zdc x0=some r):Z5 Tryz.prog Mo (Zuj x0 r):=by
 unfold Zdc at h;split at h
 case isFalse=>cases h
 rename_i h0;injection h with h;subst h;refine Zqc (xs:=[.lit (.int .i64 x0)]) ⟨_,Tryz.func128,by kernel_rfl⟩ (by kernel_rfl) (Zux rfl) λw us ok hA Zy hl he=>?_;obtain⟨u,rfl⟩:=us1 hl;obtain rfl:=Zgr (he 0 u _ rfl rfl (λ_=>none));refine (Tryz.strconv_Itoa x0 h0.1 h0.2 w (Zxs hA ExtOk.tab)).mono λe w' ⟨he,k,os,hw⟩=>⟨he,?_⟩;subst hw;refine⟨rfl,rfl,rfl,?_,λj hj=>?_⟩
 .show w.heap.size<=(w.heap++os).size
  rw[Vce];omega
 .show (w.heap++os)[j]?=w.heap[j]?
  rw[Vbn hj]
end Go.Proofs.YthdljdelfgofdaaGreatDoor.Ev
