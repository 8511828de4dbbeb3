/- A part of the proof of FnExactPlay: see the text YtagdmghmblplbaaGreatLawFnExactPlay for what is proved and its conditions. Conditions here: those in each line. -/
import Derived.Test.YtagdmghmblplbaaGreatA3
import Derived.KernelRfl
set_option linter.unusedSimpArgs false
set_option linter.unusedVariables false
set_option linter.unusedSectionVars false
namespace Go.Proofs.YtagdmghmblplbaaGreat.Ev
open Go Go.Proofs
structure Zc where
 weight:Int
 prio:Bool
 every:Int
 cap:Int
 deriving DecidableEq
structure Zh where
 masters:List Zc
 quantum:Int
 maxWait:Int
 maxRetry:Int
 maxSplit:Int
 lockMost:Int
 deriving DecidableEq
structure Zi where
 write:Bool
 addr:Int
 size:Int
 burst:Int
 lock:Bool
 data_:List Int
 deriving DecidableEq
structure Zl where
 at_:Int
 who:Int
 req:Zi
 deriving DecidableEq
structure Ze where
 posts:List Zl
 waits:List Int
 says:List Int
 deriving DecidableEq
structure Zb where
 queue:List Zi
 beat:Int
 done:Int
 tries:Int
 parted:Bool
 broken:Bool
 deriving DecidableEq
structure Z5 where
 at_:Int
 credit:Int
 deriving DecidableEq
structure Zf where
 tokens:Int
 count:Int
 deriving DecidableEq
structure Zg where
 live:Bool
 who:Int
 beat:Int
 first:Bool
 by_:Int
 left:Int
 resp:Int
 second:Bool
 deriving DecidableEq
structure Zn where
 regs:List Int
 timer:Int
 fifo:List Int
 deriving DecidableEq
structure Zj where
 mem:List Int
 dev:Zn
 deriving DecidableEq
structure Zr where
 cycle:Int
 who:Int
 write:Bool
 addr:Int
 size:Int
 value:Int
 resp:Int
 deriving DecidableEq
structure Za where
 conf:Zh
 now:Int
 m:List Zb
 arb:Z5
 buckets:List Zf
 splits:List Int
 holder:Int
 held:Int
 last:Int
 addr:Zg
 data_:Zg
 model:Zj
 picks:Int
 log:List Zr
 deriving DecidableEq
structure Zm where
 cycle:Int
 addr:Int
 kind:Int
 who:Int
 data_:Int
 from_:Int
 ready:Bool
 resp:Int
 got:Int
 deriving DecidableEq
def Zc.ok (z:Zc):Prop:=(Lit.int .i64 z.weight).wf=true/\True/\(Lit.int .i64 z.every).wf=true/\(Lit.int .i64 z.cap).wf=true
def Zh.ok (z:Zh):Prop:=(z.masters.length<=maxLen/\∀x∈z.masters,Zc.ok x)/\(Lit.int .i64 z.quantum).wf=true/\(Lit.int .i64 z.maxWait).wf=true/\(Lit.int .i64 z.maxRetry).wf=true/\(Lit.int .i64 z.maxSplit).wf=true/\(Lit.int .i64 z.lockMost).wf=true
def Zi.ok (z:Zi):Prop:=True/\(Lit.int .i64 z.addr).wf=true/\(Lit.int .i64 z.size).wf=true/\(Lit.int .i64 z.burst).wf=true/\True/\(z.data_.length<=maxLen/\∀x∈z.data_,(Lit.int .i64 x).wf=true)
def Zl.ok (z:Zl):Prop:=(Lit.int .i64 z.at_).wf=true/\(Lit.int .i64 z.who).wf=true/\Zi.ok z.req
def Ze.ok (z:Ze):Prop:=(z.posts.length<=maxLen/\∀x∈z.posts,Zl.ok x)/\(z.waits.length<=maxLen/\∀x∈z.waits,(Lit.int .i64 x).wf=true)/\(z.says.length<=maxLen/\∀x∈z.says,(Lit.int .i64 x).wf=true)
abbrev Zc.z0:Zc:=⟨0,false,0,0⟩
abbrev Zh.z0:Zh:=⟨[],0,0,0,0,0⟩
abbrev Zi.z0:Zi:=⟨false,0,0,0,false,[]⟩
abbrev Zl.z0:Zl:=⟨0,0,Zi.z0⟩
abbrev Zb.z0:Zb:=⟨[],0,0,0,false,false⟩
abbrev Z5.z0:Z5:=⟨0,0⟩
abbrev Zf.z0:Zf:=⟨0,0⟩
abbrev Zg.z0:Zg:=⟨false,0,0,false,0,0,0,false⟩
abbrev Zn.z0:Zn:=⟨[],0,[]⟩
abbrev Zj.z0:Zj:=⟨[],Zn.z0⟩
abbrev Zr.z0:Zr:=⟨0,0,false,0,0,0,0⟩
abbrev Za.z0:Za:=⟨Zh.z0,0,[],Z5.z0,[],[],0,0,0,Zg.z0,Zg.z0,Zj.z0,0,[]⟩
abbrev Zm.z0:Zm:=⟨0,0,0,0,0,0,false,0,0⟩
def Z9d (x0:List Zc) (x1:Int):Option Int:=
 if decide ((Xa x1 (x0.length:Int)) < 0)=true then (
  some (-1))
 else (
  some (Xa x1 (x0.length:Int)))
def Ztw (x0:Zh) (x1:Int):Option Int:=
 (Z9d x0.masters x1).bind λr0=>
 if decide (r0 < 0)=true then (
  some (-1))
 else (
  some r0)
def Zye (x0:List Int) (x1:Int):Option Int:=
 if decide ((Xa x1 (x0.length:Int)) < 0)=true then (
  some (-1))
 else (
  some (Xa x1 (x0.length:Int)))
def Z1u (x0:Zi) (x1:Int):Option Int:=
 (Zye x0.data_ x1).bind λr0=>
 if decide (r0 < 0)=true then (
  some (-1))
 else (
  some r0)
def Yg9 (x0:List Zi) (x1:Int)  (k:Int->Int->Option Int) (v0:Int) (v1:Int):Option Int:=
 if decide (v1 < (x0.length:Int))=true then (
  (idx x0 v1).bind λa0=>
  (Z1u a0 v0).bind λr0=>
  if decide (r0 < 0)=true then (
   some (-1))
  else (
   k r0 (Zs v1 1)))
 else (
  some v0)
def Yjr (x0:List Zi) (x1:Int)  : Nat->Int->Int->Option Int
 | 0,_,_=>none
 | m+1,v0,v1=>Yg9 x0 x1  (Yjr x0 x1  m) v0 v1
def Zx7 (x0:Zl) (x1:Int):Option Int:=
 (Z1u x0.req x1).bind λr0=>
 if decide (r0 < 0)=true then (
  some (-1))
 else (
  some r0)
def Yet (x0:List Zl) (x1:Int)  (k:Int->Int->Option Int) (v0:Int) (v1:Int):Option Int:=
 if decide (v1 < (x0.length:Int))=true then (
  (idx x0 v1).bind λa0=>
  (Zx7 a0 v0).bind λr0=>
  if decide (r0 < 0)=true then (
   some (-1))
  else (
   k r0 (Zs v1 1)))
 else (
  some v0)
def Zkt (x0:List Zl) (x1:Int)  : Nat->Int->Int->Option Int
 | 0,_,_=>none
 | m+1,v0,v1=>Yet x0 x1  (Zkt x0 x1  m) v0 v1
def Z3h (x0:List Zl) (x1:Int):Option Int:=
 if decide ((Xa x1 (x0.length:Int)) < 0)=true then (
  some (-1))
 else (
  Zkt x0 x1 FU (Xa x1 (x0.length:Int)) 0)
def Zt0 (x0:Ze) (x1:Int):Option Int:=
 (Z3h x0.posts x1).bind λr0=>
 if decide (r0 < 0)=true then (
  some (-1))
 else (
  (Zye x0.waits r0).bind λr1=>
  if decide (r1 < 0)=true then (
   some (-1))
  else (
   (Zye x0.says r1).bind λr2=>
   if decide (r2 < 0)=true then (
    some (-1))
   else (
    some r2)))
def Z3i (x0:Zc):Option Zc:=
 some x0
def Ybd (x0:List Zc)  (k:(List Zc)->Int->Option (List Zc)) (v0:List Zc) (v1:Int):Option (List Zc):=
 if decide (v1 < (x0.length:Int))=true then (
  (idx x0 v1).bind λa0=>
  (Z3i a0).bind λr0=>
  (idx v0 v1).bind λa1=>
  (Qo v0 v1 r0).bind λy0=>
  k y0 (Zs v1 1))
 else (
  some v0)
def Zjl (x0:List Zc)  : Nat->(List Zc)->Int->Option (List Zc)
 | 0,_,_=>none
 | m+1,v0,v1=>Ybd x0  (Zjl x0  m) v0 v1
def Zrm (x0:List Zc):Option (List Zc):=
 (mkI 32 (x0.length:Int) Zc.z0).bind λm0=>
 Zjl x0 FU m0 0
def Zxn (x0:Zh):Option Zh:=
 (Zrm x0.masters).bind λr0=>
 some {x0 with masters:=r0}
def Yfw (x0:List Int)  (k:(List Int)->Int->Option (List Int)) (v0:List Int) (v1:Int):Option (List Int):=
 if decide (v1 < (x0.length:Int))=true then (
  (idx x0 v1).bind λa0=>
  (idx v0 v1).bind λa1=>
  (Qo v0 v1 a0).bind λy0=>
  k y0 (Zs v1 1))
 else (
  some v0)
def Zoa (x0:List Int)  : Nat->(List Int)->Int->Option (List Int)
 | 0,_,_=>none
 | m+1,v0,v1=>Yfw x0  (Zoa x0  m) v0 v1
def Zn2 (x0:List Int):Option (List Int):=
 (mkI 8 (x0.length:Int) 0).bind λm0=>
 Zoa x0 FU m0 0
def Zwa (x0:Zi):Option Zi:=
 (Zn2 x0.data_).bind λr0=>
 some {x0 with data_:=r0}
def Yf3 (x0:List Zi)  (k:(List Zi)->Int->Option (List Zi)) (v0:List Zi) (v1:Int):Option (List Zi):=
 if decide (v1 < (x0.length:Int))=true then (
  (idx x0 v1).bind λa0=>
  (Zwa a0).bind λr0=>
  (idx v0 v1).bind λa1=>
  (Qo v0 v1 r0).bind λy0=>
  k y0 (Zs v1 1))
 else (
  some v0)
def Yir (x0:List Zi)  : Nat->(List Zi)->Int->Option (List Zi)
 | 0,_,_=>none
 | m+1,v0,v1=>Yf3 x0  (Yir x0  m) v0 v1
def Zru (x0:Zl):Option Zl:=
 (Zwa x0.req).bind λr0=>
 some {x0 with req:=r0}
def Ydl (x0:List Zl)  (k:(List Zl)->Int->Option (List Zl)) (v0:List Zl) (v1:Int):Option (List Zl):=
 if decide (v1 < (x0.length:Int))=true then (
  (idx x0 v1).bind λa0=>
  (Zru a0).bind λr0=>
  (idx v0 v1).bind λa1=>
  (Qo v0 v1 r0).bind λy0=>
  k y0 (Zs v1 1))
 else (
  some v0)
def Zkx (x0:List Zl)  : Nat->(List Zl)->Int->Option (List Zl)
 | 0,_,_=>none
 | m+1,v0,v1=>Ydl x0  (Zkx x0  m) v0 v1
def Zvo (x0:List Zl):Option (List Zl):=
 (mkI 80 (x0.length:Int) Zl.z0).bind λm0=>
 Zkx x0 FU m0 0
def Zs9 (x0:Ze):Option Ze:=
 (Zvo x0.posts).bind λr0=>
 (Zn2 x0.waits).bind λr1=>
 (Zn2 x0.says).bind λr2=>
 some (Ze.mk r0 r1 r2)
def Z4 (x0:Int) (x1:Int) (x2:Int):Option Bool:=
 if decide (x0≥x1)=true then (
  some (decide (x0<=x2)))
 else (
  some false)
def Zns (x0:Zh)  (v0:Bool):Option Int:=
 if v0=true then (
  some 0)
 else (
  some (Jt (Zs x0.maxRetry 2) (Zs x0.maxWait 6)))
def Zjh (x0:Zh):Option Int:=
 (Z4 x0.maxRetry 0 3).bind λr0=>
 if (!r0)=true then (
  Zns x0 true)
 else (
  (Z4 x0.maxWait 0 3).bind λr1=>
  Zns x0 (!r1))
def Zgm (x0:Zh):Option Int:=
 (Zjh x0).bind λr0=>
 if decide (r0=0)=true then (
  some 0)
 else (
  (Z4 x0.lockMost 1 40).bind λr1=>
  if (!r1)=true then (
   some 0)
  else (
   (Zjh x0).bind λr2=>
   some (Zs (Jt 2 r2) x0.lockMost)))
def Zr7 (x0:Zh):Option Bool:=
 (Z4 x0.quantum 1 4).bind λr0=>
 if r0=true then (
  (Zjh x0).bind λr1=>
  if decide (r1 > 0)=true then (
   (Z4 x0.maxSplit 1 12).bind λr2=>
   if r2=true then (
    (Z4 x0.lockMost 1 40).bind λr3=>
    some r3)
   else (
    some false))
  else (
   some false))
 else (
  some false)
def Zth (x0:Zh)  (k:Int->Int->Option Bool) (v0:Int) (v1:Int):Option Bool:=
 if decide (v1 < (x0.masters.length:Int))=true then (
  (idx x0.masters v1).bind λa0=>
  (Z4 a0.weight 1 4).bind λr0=>
  if (!r0)=true then (
   some false)
  else (
   if (!a0.prio)=true then (
    if decide (a0.every≠0)=true then (
     some false)
    else (
     if decide (a0.cap≠0)=true then (
      some false)
     else (
      if a0.prio=true then (
       (Zgm x0).bind λr1=>
       (Z4 a0.every (Jt (Jt 2 v0) r1) 1000).bind λr2=>
       if (!r2)=true then (
        some false)
       else (
        (Z4 a0.cap 1 8).bind λr3=>
        if (!r3)=true then (
         some false)
        else (
         k v0 (Zs v1 1))))
      else (
       k v0 (Zs v1 1)))))
   else (
    if a0.prio=true then (
     (Zgm x0).bind λr1=>
     (Z4 a0.every (Jt (Jt 2 v0) r1) 1000).bind λr2=>
     if (!r2)=true then (
      some false)
     else (
      (Z4 a0.cap 1 8).bind λr3=>
      if (!r3)=true then (
       some false)
      else (
       k v0 (Zs v1 1))))
    else (
     k v0 (Zs v1 1)))))
 else (
  (Z4 (x0.masters.length:Int) 1 4).bind λr4=>
  if r4=true then (
   (Zr7 x0).bind λr5=>
   some r5)
  else (
   some false))
def Zav (x0:Zh)  : Nat->Int->Int->Option Bool
 | 0,_,_=>none
 | m+1,v0,v1=>Zth x0  (Zav x0  m) v0 v1
def Ztq (x0:Zh)  (k:Int->Int->Option Bool) (v0:Int) (v2:Int):Option Bool:=
 if decide (v2 < (x0.masters.length:Int))=true then (
  (idx x0.masters v2).bind λa1=>
  if a1.prio=true then (
   k (Zs v0 1) (Zs v2 1))
  else (
   k v0 (Zs v2 1)))
 else (
  Zav x0 FU v0 0)
def Zoe (x0:Zh)  : Nat->Int->Int->Option Bool
 | 0,_,_=>none
 | m+1,v0,v2=>Ztq x0  (Zoe x0  m) v0 v2
def Zd2 (x0:Zh):Option Bool:=
 Zoe x0 FU 0 0
def Za4 (x0:Int):Option Int:=
 (Z4 x0 0 3).bind λr0=>
 if (!r0)=true then (
  some 0)
 else (
  (idx [1,4,4,8] x0).bind λa0=>
  some a0)
def Jn (x0:Int):Option Int:=
 (Z4 x0 0 2).bind λr0=>
 if (!r0)=true then (
  some 0)
 else (
  (nnI x0).bind λn0=>
  some (Yez 1 x0))
def Za3 (x0:Int) (x1:Int):Option Bool:=
 (Jn x1).bind λr0=>
 if decide (r0 > 0)=true then (
  if decide (x0≥0)=true then (
   (Jn x1).bind λr1=>
   (nzI r1).bind λn0=>
   some (decide ((Zay x0 r1)=0)))
  else (
   some false))
 else (
  some false)
def Zjk (x0:Int) (x1:Int) (x2:Int)  (v0:Int) (v1:Bool):Option Int:=
 if v1=true then (
  some (Xa (Zs x0 v0) (Jt 4 v0)))
 else (
  some (Zs x0 v0))
def Zev (x0:Int) (x1:Int) (x2:Int)  (v0:Int) (v2:Bool):Option Int:=
 if v2=true then (
  some (-1))
 else (
  if decide (x2=2)=true then (
   (nzI (Jt 4 v0)).bind λn0=>
   Zjk x0 x1 x2 v0 (decide ((Zay (Zs x0 v0) (Jt 4 v0))=0)))
  else (
   Zjk x0 x1 x2 v0 false))
def Zmt (x0:Int) (x1:Int) (x2:Int):Option Int:=
 (Jn x1).bind λr0=>
 (Za3 x0 x1).bind λr1=>
 if (!r1)=true then (
  Zev x0 x1 x2 r0 true)
 else (
  (Z4 x0 0 511).bind λr2=>
  if (!r2)=true then (
   Zev x0 x1 x2 r0 true)
  else (
   (Za4 x2).bind λr3=>
   Zev x0 x1 x2 r0 (decide (r3=0))))
def Zc7 (x0:Int) (x1:Int) (x2:Int) (k_L1:Int->(List Int)->Option (List Int)) (v0:Int) (v1:List Int) (v2:Bool):Option (List Int):=
 if v2=true then (
  (X1 8 v1 [v0]).bind λz0=>
  (Zmt v0 x1 x2).bind λr0=>
  k_L1 r0 z0)
 else (
  (Za4 x2).bind λr1=>
  if decide ((v1.length:Int) < r1)=true then (
   some [])
  else (
   some v1))
def Zb7 (x0:Int) (x1:Int) (x2:Int)  (k:Int->(List Int)->Option (List Int)) (v0:Int) (v1:List Int):Option (List Int):=
 (Za4 x2).bind λr2=>
 if decide ((v1.length:Int) < r2)=true then (
  (Zmt v0 x1 x2).bind λr3=>
  Zc7 x0 x1 x2 k v0 v1 (decide (r3≥0)))
 else (
  Zc7 x0 x1 x2 k v0 v1 false)
def Zf5 (x0:Int) (x1:Int) (x2:Int)  : Nat->Int->(List Int)->Option (List Int)
 | 0,_,_=>none
 | m+1,v0,v1=>Zb7 x0 x1 x2  (Zf5 x0 x1 x2  m) v0 v1
def Zh2 (x0:Int) (x1:Int) (x2:Int):Option (List Int):=
 Zf5 x0 x1 x2 FU x0 []
def Zqp (x0:Int) (x1:Int) (x2:Int)  (k:(List Int)->Int->Option Bool) (v0:List Int) (v1:Int):Option Bool:=
 if decide (v1 < (v0.length:Int))=true then (
  (idx v0 v1).bind λa0=>
  (idx v0 0).bind λa1=>
  if decide ((Zrx a0 64)≠(Zrx a1 64))=true then (
   some false)
  else (
   k v0 (Zs v1 1)))
 else (
  some (decide ((v0.length:Int) > 0)))
def Zlr (x0:Int) (x1:Int) (x2:Int)  : Nat->(List Int)->Int->Option Bool
 | 0,_,_=>none
 | m+1,v0,v1=>Zqp x0 x1 x2  (Zlr x0 x1 x2  m) v0 v1
def Zvm (x0:Int) (x1:Int) (x2:Int):Option Bool:=
 (Zh2 x0 x1 x2).bind λr0=>
 Zlr x0 x1 x2 FU r0 0
def Ql (x0:Int):Option Int:=
 (Jn x0).bind λr0=>
 if decide (r0=0)=true then (
  some 0)
 else (
  (Jn x0).bind λr1=>
  (nnI (Jt 8 r1)).bind λn0=>
  some (Yez 1 (Jt 8 r1)))
def Zuj (x0:Zi)  (k:Int->Option Bool) (v0:Int):Option Bool:=
 if decide (v0 < (x0.data_.length:Int))=true then (
  (idx x0.data_ v0).bind λa0=>
  (Ql x0.size).bind λr0=>
  (Z4 a0 0 (Xa r0 1)).bind λr1=>
  if (!r1)=true then (
   some false)
  else (
   k (Zs v0 1)))
 else (
  if decide ((x0.data_.length:Int)=0)=true then (
   if (!x0.write)=true then (
    some true)
   else (
    (Za4 x0.burst).bind λr2=>
    if decide ((x0.data_.length:Int)=r2)=true then (
     some x0.write)
    else (
     some false)))
  else (
   (Za4 x0.burst).bind λr2=>
   if decide ((x0.data_.length:Int)=r2)=true then (
    some x0.write)
   else (
    some false)))
def Zp6 (x0:Zi)  : Nat->Int->Option Bool
 | 0,_=>none
 | m+1,v0=>Zuj x0  (Zp6 x0  m) v0
def Zra (x0:Zi):Option Bool:=
 (Zvm x0.addr x0.size x0.burst).bind λr3=>
 if (!r3)=true then (
  some false)
 else (
  Zp6 x0 FU 0)
def Zs5 (x0:Zh):Option Zh:=
 (X1 32 [] x0.masters).bind λz0=>
 some {x0 with masters:=z0}
def Z42  : Option Zn:=
 (mkI 8 4 0).bind λm0=>
 some (Zn.mk m0 0 [])
def Zsu  : Option Zj:=
 (mkI 8 192 0).bind λm0=>
 (Z42).bind λr0=>
 some (Zj.mk m0 r0)
def Zqb (x0:Zc):Option Zf:=
 if (!x0.prio)=true then (
  some Zf.z0)
 else (
  some (Zf.mk (Z0u 0 x0.cap) 0))
def Zle (x0:Zh)  (k:Za->Int->Option (Za×Bool)) (vb0:Za) (v0:Int):Option (Za×Bool):=
 if decide (v0 < (x0.masters.length:Int))=true then (
  (X1 56 vb0.m [Zb.z0]).bind λz0=>
  (idx x0.masters v0).bind λa0=>
  (Zqb a0).bind λr0=>
  (X1 16 vb0.buckets [r0]).bind λz1=>
  (X1 8 vb0.splits [0]).bind λz2=>
  k {vb0 with m:=z0,buckets:=z1,splits:=z2} (Zs v0 1))
 else (
  some (vb0,true))
def Zoy (x0:Zh)  : Nat->Za->Int->Option (Za×Bool)
 | 0,_,_=>none
 | m+1,vb0,v0=>Zle x0  (Zoy x0  m) vb0 v0
def Zx4 (x0:Zh):Option (Za×Bool):=
 (Zd2 x0).bind λr1=>
 if (!r1)=true then (
  some (Za.z0,false))
 else (
  (Zs5 x0).bind λr2=>
  (Zsu).bind λr3=>
  Zoy x0 FU (Za.mk r2 0 [] Z5.z0 [] [] (-1) 0 (-1) Zg.z0 Zg.z0 r3 0 []) 0)
def Zi2 (x0:Zi):Option Zi:=
 (X1 8 [] x0.data_).bind λz0=>
 some {x0 with data_:=z0}
def Yds (x0:Zb)  (k:(List Zi)->Int->Option Zb) (v0:List Zi) (v1:Int):Option Zb:=
 if decide (v1 < (x0.queue.length:Int))=true then (
  (idx x0.queue v1).bind λa0=>
  (Zi2 a0).bind λr0=>
  (X1 64 v0 [r0]).bind λz0=>
  k z0 (Zs v1 1))
 else (
  some {x0 with queue:=v0})
def Zlq (x0:Zb)  : Nat->(List Zi)->Int->Option Zb
 | 0,_,_=>none
 | m+1,v0,v1=>Yds x0  (Zlq x0  m) v0 v1
def Zd6 (x0:Zb):Option Zb:=
 Zlq x0 FU [] 0
def Zro (x0:Zn):Option Zn:=
 (X1 8 [] x0.regs).bind λz0=>
 (X1 8 [] x0.fifo).bind λz1=>
 some (Zn.mk z0 x0.timer z1)
def Ztr (x0:Zj):Option Zj:=
 (X1 8 [] x0.mem).bind λz0=>
 (Zro x0.dev).bind λr0=>
 some (Zj.mk z0 r0)
def Zjr (x0:Za)  (k:Za->Int->Option Za) (vb0:Za) (v0:Int):Option Za:=
 if decide (v0 < (x0.m.length:Int))=true then (
  (idx x0.m v0).bind λa0=>
  (Zd6 a0).bind λr0=>
  (X1 56 vb0.m [r0]).bind λz0=>
  k {vb0 with m:=z0} (Zs v0 1))
 else (
  (X1 16 [] x0.buckets).bind λz1=>
  (X1 8 [] x0.splits).bind λz2=>
  (Ztr x0.model).bind λr1=>
  (X1 56 [] x0.log).bind λz3=>
  some {vb0 with buckets:=z1,splits:=z2,model:=r1,log:=z3})
def Zgk (x0:Za)  : Nat->Za->Int->Option Za
 | 0,_,_=>none
 | m+1,vb0,v0=>Zjr x0  (Zgk x0  m) vb0 v0
def Zo6 (x0:Za):Option Za:=
 (Zs5 x0.conf).bind λr2=>
 Zgk x0 FU {x0 with conf:=r2,m:=[]} 0
def Znw (x0:Zh) (x1:Int)  (v0:Bool):Option Int:=
 if v0=true then (
  some 0)
 else (
  (idx x0.masters x1).bind λa0=>
  some (Jt a0.weight x0.quantum))
def Zjd (x0:Zh) (x1:Int):Option Int:=
 (Zd2 x0).bind λr0=>
 if (!r0)=true then (
  Znw x0 x1 true)
 else (
  (Z4 x1 0 (Xa (x0.masters.length:Int) 1)).bind λr1=>
  Znw x0 x1 (!r1))
def Zrb (x0:Z5) (x1:Zh):Option Bool:=
 (Zd2 x1).bind λr0=>
 if r0=true then (
  (Z4 x0.at_ 0 (Xa (x1.masters.length:Int) 1)).bind λr1=>
  if r1=true then (
   (Zjd x1 x0.at_).bind λr2=>
   (Z4 x0.credit 0 r2).bind λr3=>
   some r3)
  else (
   some false))
 else (
  some false)
def Zqy (x0:List Int)  (k:Int->Option Bool) (v0:Int):Option Bool:=
 if decide (v0 < (x0.length:Int))=true then (
  (idx x0 v0).bind λa0=>
  (Z4 a0 0 255).bind λr0=>
  if (!r0)=true then (
   some false)
  else (
   k (Zs v0 1)))
 else (
  some (decide ((x0.length:Int)<=512)))
def Zk6 (x0:List Int)  : Nat->Int->Option Bool
 | 0,_=>none
 | m+1,v0=>Zqy x0  (Zk6 x0  m) v0
def Zph (x0:List Int):Option Bool:=
 Zk6 x0 FU 0
def Zqs (x0:List Int)  (k:Int->Option Bool) (v0:Int):Option Bool:=
 if decide (v0 < (x0.length:Int))=true then (
  (idx x0 v0).bind λa0=>
  (Ql 2).bind λr0=>
  (Z4 a0 0 (Xa r0 1)).bind λr1=>
  if (!r1)=true then (
   some false)
  else (
   k (Zs v0 1)))
 else (
  some true)
def Zk3 (x0:List Int)  : Nat->Int->Option Bool
 | 0,_=>none
 | m+1,v0=>Zqs x0  (Zk3 x0  m) v0
def Zpq (x0:List Int):Option Bool:=
 Zk3 x0 FU 0
def Zv4 (x0:Zn):Option Bool:=
 if decide ((x0.regs.length:Int)=4)=true then (
  (Zpq x0.regs).bind λr0=>
  if r0=true then (
   (Ql 2).bind λr1=>
   (Z4 x0.timer 0 (Xa r1 1)).bind λr2=>
   if r2=true then (
    if decide ((x0.fifo.length:Int)<=4)=true then (
     (Zpq x0.fifo).bind λr3=>
     some r3)
    else (
     some false))
   else (
    some false))
  else (
   some false))
 else (
  some false)
def Zpf (x0:Zj):Option Bool:=
 if decide ((x0.mem.length:Int)=192)=true then (
  (Zph x0.mem).bind λr0=>
  if r0=true then (
   (Zv4 x0.dev).bind λr1=>
   some r1)
  else (
   some false))
 else (
  some false)
def Zc3 (x0:Zb):Option Int:=
 if decide ((x0.queue.length:Int)=0)=true then (
  some 0)
 else (
  (idx x0.queue 0).bind λa0=>
  (Za4 a0.burst).bind λr0=>
  some r0)
def Zal (x0:Zb)  (v0:Bool):Option Bool:=
 if v0=true then (
  some false)
 else (
  if decide ((x0.queue.length:Int)=0)=true then (
   if decide (x0.beat=0)=true then (
    if decide (x0.done=0)=true then (
     if decide (x0.tries=0)=true then (
      if (!x0.parted)=true then (
       some (!x0.broken))
      else (
       some false))
     else (
      some false))
    else (
     some false))
   else (
    some false))
  else (
   (Zc3 x0).bind λr0=>
   (Z4 x0.done 0 (Xa r0 1)).bind λr1=>
   if r1=true then (
    (Zc3 x0).bind λr2=>
    (Z4 x0.beat x0.done (Zji (Zs x0.done 2) r2)).bind λr3=>
    some r3)
   else (
    some false)))
def Zo4 (x0:Zb)  (k:Int->Option Bool) (v1:Int):Option Bool:=
 if decide (v1 < (x0.queue.length:Int))=true then (
  (idx x0.queue v1).bind λa0=>
  (Zra a0).bind λr4=>
  if (!r4)=true then (
   some false)
  else (
   k (Zs v1 1)))
 else (
  if decide ((x0.queue.length:Int) > 4)=true then (
   Zal x0 true)
  else (
   Zal x0 (decide (x0.tries < 0))))
def Zi4 (x0:Zb)  : Nat->Int->Option Bool
 | 0,_=>none
 | m+1,v1=>Zo4 x0  (Zi4 x0  m) v1
def Zbo (x0:Zb):Option Bool:=
 Zi4 x0 FU 0
def Z70 (x0:Zb) (x1:Zh):Option Bool:=
 (Zd2 x1).bind λr0=>
 if r0=true then (
  (Zbo x0).bind λr1=>
  if r1=true then (
   some (decide (x0.tries<=x1.maxRetry)))
  else (
   some false))
 else (
  some false)
def Zem (x0:Zf) (x1:Zc):Option Bool:=
 if (!x1.prio)=true then (
  some (decide (x0.tokens=0)&&(decide (x0.count=0)&&true)))
 else (
  (Z4 x0.tokens 0 x1.cap).bind λr0=>
  if r0=true then (
   (Z4 x0.count 0 (Xa x1.every 1)).bind λr1=>
   some r1)
  else (
   some false))
def Zlh (x0:Za) (x1:Int)  (v0:Int):Option Int:=
 if x0.data_.live=true then (
  if decide (x0.data_.who=x1)=true then (
   some (Zs v0 1))
  else (
   some v0))
 else (
  some v0)
def Zlp (x0:Za) (x1:Int)  (v1:Bool):Option Int:=
 if v1=true then (
  Zlh x0 x1 (Zs 0 1))
 else (
  Zlh x0 x1 0)
def Zvx (x0:Za) (x1:Int):Option Int:=
 if x0.addr.live=true then (
  Zlp x0 x1 (decide (x0.addr.who=x1)))
 else (
  Zlp x0 x1 false)
def Zto (x0:Int):Option ByteArray:=
 (Z4 x0 0 3).bind λr0=>
 if (!r0)=true then (
  some ByteArray.empty)
 else (
  (idx [(strL [111,107,97,121]),(strL [101,114,114,111,114]),(strL [114,101,116,114,121]),(strL [115,112,108,105,116])] x0).bind λa0=>
  some a0)
def Yg (x0:Za) (x1:Zg) (x2:Bool)  (vb0:Zb) (v0:Bool):Option Bool:=
 if v0=true then (
  some false)
 else (
  if decide (x1.beat=vb0.done)=true then (
   (Z4 x1.left 0 (Zs x0.conf.maxWait 2)).bind λr0=>
   if r0=true then (
    (Zto x1.resp).bind λr1=>
    if (!(r1.toList == ByteArray.empty.toList))=true then (
     if (!x1.second)=true then (
      some true)
     else (
      if decide (x1.resp≠0)=true then (
       some (decide (x1.left=0)))
      else (
       some false)))
    else (
     some false))
   else (
    some false))
  else (
   some false))
def Q3 (x0:Za) (x1:Zg) (x2:Bool)  (v1:Bool):Option Bool:=
 if v1=true then (
  some false)
 else (
  (idx x0.m x1.who).bind λa0=>
  if (!x2)=true then (
   if decide (x1.beat=(Xa a0.beat 1))=true then (
    if decide (x1.left=0)=true then (
     if decide (x1.resp=0)=true then (
      some (!x1.second))
     else (
      some false))
    else (
     some false))
   else (
    some false))
  else (
   if decide (x1.resp=2)=true then (
    if decide (a0.tries≥x0.conf.maxRetry)=true then (
     Yg x0 x1 x2 a0 true)
    else (
     if decide (x1.resp=3)=true then (
      if a0.parted=true then (
       Yg x0 x1 x2 a0 true)
      else (
       if decide (x0.holder=x1.who)=true then (
        Yg x0 x1 x2 a0 true)
       else (
        if x1.second=true then (
         Yg x0 x1 x2 a0 x0.addr.live)
        else (
         Yg x0 x1 x2 a0 false))))
     else (
      if x1.second=true then (
       Yg x0 x1 x2 a0 x0.addr.live)
      else (
       Yg x0 x1 x2 a0 false))))
   else (
    if decide (x1.resp=3)=true then (
     if a0.parted=true then (
      Yg x0 x1 x2 a0 true)
     else (
      if decide (x0.holder=x1.who)=true then (
       Yg x0 x1 x2 a0 true)
      else (
       if x1.second=true then (
        Yg x0 x1 x2 a0 x0.addr.live)
       else (
        Yg x0 x1 x2 a0 false))))
    else (
     if x1.second=true then (
      Yg x0 x1 x2 a0 x0.addr.live)
     else (
      Yg x0 x1 x2 a0 false)))))
def Zcp (x0:Za) (x1:Zg) (x2:Bool):Option Bool:=
 if (!x1.live)=true then (
  some ((x1.live == false)&&(decide (x1.who=0)&&(decide (x1.beat=0)&&((x1.first == false)&&(decide (x1.by_=0)&&(decide (x1.left=0)&&(decide (x1.resp=0)&&((x1.second == false)&&true)))))))))
 else (
  (Z4 x1.who 0 (Xa (x0.m.length:Int) 1)).bind λr2=>
  if (!r2)=true then (
   Q3 x0 x1 x2 true)
  else (
   (Z4 x1.by_ 1 3).bind λr3=>
   if (!r3)=true then (
    Q3 x0 x1 x2 true)
   else (
    (idx x0.splits x1.who).bind λa1=>
    Q3 x0 x1 x2 (decide (a1 > 0)))))
def Za8 (x0:Za)  (v0:Bool):Option Bool:=
 if v0=true then (
  some false)
 else (
  (idx x0.m x0.holder).bind λa0=>
  if decide ((a0.queue.length:Int) > 0)=true then (
   (idx a0.queue 0).bind λa1=>
   if a1.lock=true then (
    if (!a0.broken)=true then (
     (idx x0.splits x0.holder).bind λa2=>
     some (decide (a2=0)))
    else (
     some false))
   else (
    some false))
  else (
   some false))
def Zjp (x0:Za)  (k:Int->Option Bool) (v1:Int):Option Bool:=
 if decide (v1 < (x0.m.length:Int))=true then (
  (idx x0.m v1).bind λa3=>
  if decide (a3.beat > 0)=true then (
   (idx a3.queue 0).bind λa4=>
   if a4.lock=true then (
    if (!a3.broken)=true then (
     if decide (x0.holder≠v1)=true then (
      some false)
     else (
      k (Zs v1 1)))
    else (
     k (Zs v1 1)))
   else (
    k (Zs v1 1)))
  else (
   k (Zs v1 1)))
 else (
  if decide (x0.holder=(-1))=true then (
   some (decide (x0.held=0)))
  else (
   (Z4 x0.holder 0 (Xa (x0.m.length:Int) 1)).bind λr0=>
   if (!r0)=true then (
    Za8 x0 true)
   else (
    (Z4 x0.held 0 x0.conf.lockMost).bind λr1=>
    Za8 x0 (!r1))))
def Zsg (x0:Za)  : Nat->Int->Option Bool
 | 0,_=>none
 | m+1,v1=>Zjp x0  (Zsg x0  m) v1
def Zpa (x0:Za):Option Bool:=
 Zsg x0 FU 0
def Zk8 (x0:Za)  (k:Int->Option Bool) (v0:Int):Option Bool:=
 if decide (v0 < (x0.log.length:Int))=true then (
  (idx x0.log v0).bind λa0=>
  (Z4 a0.cycle 0 (Xa x0.now 1)).bind λr0=>
  if (!r0)=true then (
   some false)
  else (
   if decide (v0 > 0)=true then (
    (idx x0.log (Xa v0 1)).bind λa1=>
    if decide (a0.cycle<=a1.cycle)=true then (
     some false)
    else (
     (Z4 a0.who 0 (Xa (x0.m.length:Int) 1)).bind λr1=>
     if (!r1)=true then (
      some false)
     else (
      (Za3 a0.addr a0.size).bind λr2=>
      if (!r2)=true then (
       some false)
      else (
       (Z4 a0.addr 0 511).bind λr3=>
       if (!r3)=true then (
        some false)
       else (
        (Ql a0.size).bind λr4=>
        (Z4 a0.value 0 (Xa r4 1)).bind λr5=>
        if (!r5)=true then (
         some false)
        else (
         (Z4 a0.resp 0 1).bind λr6=>
         if (!r6)=true then (
          some false)
         else (
          k (Zs v0 1))))))))
   else (
    (Z4 a0.who 0 (Xa (x0.m.length:Int) 1)).bind λr1=>
    if (!r1)=true then (
     some false)
    else (
     (Za3 a0.addr a0.size).bind λr2=>
     if (!r2)=true then (
      some false)
     else (
      (Z4 a0.addr 0 511).bind λr3=>
      if (!r3)=true then (
       some false)
      else (
       (Ql a0.size).bind λr4=>
       (Z4 a0.value 0 (Xa r4 1)).bind λr5=>
       if (!r5)=true then (
        some false)
       else (
        (Z4 a0.resp 0 1).bind λr6=>
        if (!r6)=true then (
         some false)
        else (
         k (Zs v0 1)))))))))
 else (
  some true)
def Zok (x0:Za)  : Nat->Int->Option Bool
 | 0,_=>none
 | m+1,v0=>Zk8 x0  (Zok x0  m) v0
def Zs0 (x0:Za):Option Bool:=
 Zok x0 FU 0
def Zn7 (x0:Za)  (k:Int->Option Bool) (v0:Int):Option Bool:=
 if decide (v0 < (x0.conf.masters.length:Int))=true then (
  (idx x0.m v0).bind λa0=>
  (Z70 a0 x0.conf).bind λr0=>
  if (!r0)=true then (
   some false)
  else (
   (idx x0.buckets v0).bind λa1=>
   (idx x0.conf.masters v0).bind λa2=>
   (Zem a1 a2).bind λr1=>
   if (!r1)=true then (
    some false)
   else (
    (idx x0.splits v0).bind λa3=>
    (Z4 a3 0 x0.conf.maxSplit).bind λr2=>
    if (!r2)=true then (
     some false)
    else (
     (Zvx x0 v0).bind λr3=>
     if decide ((Xa a0.beat a0.done)≠r3)=true then (
      some false)
     else (
      k (Zs v0 1))))))
 else (
  (Zcp x0 x0.data_ true).bind λr4=>
  if r4=true then (
   (Zcp x0 x0.addr false).bind λr5=>
   if r5=true then (
    (Zpa x0).bind λr6=>
    if r6=true then (
     (Zs0 x0).bind λr7=>
     some r7)
    else (
     some false))
   else (
    some false))
  else (
   some false))
def Zp7 (x0:Za)  : Nat->Int->Option Bool
 | 0,_=>none
 | m+1,v0=>Zn7 x0  (Zp7 x0  m) v0
def Wz (x0:Za)  (v1:Bool):Option Bool:=
 if v1=true then (
  some false)
 else (
  Zp7 x0 FU 0)
def Zng (x0:Za):Option Bool:=
 (Zd2 x0.conf).bind λr8=>
 if (!r8)=true then (
  Wz x0 true)
 else (
  (Z4 x0.now 0 4000).bind λr9=>
  if (!r9)=true then (
   Wz x0 true)
  else (
   if decide ((x0.m.length:Int)≠(x0.conf.masters.length:Int))=true then (
    Wz x0 true)
   else (
    if decide ((x0.buckets.length:Int)≠(x0.conf.masters.length:Int))=true then (
     Wz x0 true)
    else (
     if decide ((x0.splits.length:Int)≠(x0.conf.masters.length:Int))=true then (
      Wz x0 true)
     else (
      (Zrb x0.arb x0.conf).bind λr10=>
      if (!r10)=true then (
       Wz x0 true)
      else (
       (Z4 x0.last (-1) (Xa (x0.conf.masters.length:Int) 1)).bind λr11=>
       if (!r11)=true then (
        Wz x0 true)
       else (
        (Zpf x0.model).bind λr12=>
        if (!r12)=true then (
         Wz x0 true)
        else (
         if decide (x0.picks < 0)=true then (
          Wz x0 true)
         else (
          Wz x0 (decide (x0.picks > x0.now)))))))))))
def Zlx (x0:Zb) (x1:Int)  (v0:Bool):Option Int:=
 if v0=true then (
  some (-1))
 else (
  (idx x0.queue 0).bind λa0=>
  (Zh2 a0.addr a0.size a0.burst).bind λr0=>
  (idx r0 x1).bind λa1=>
  some a1)
def Zg1 (x0:Zb) (x1:Int):Option Int:=
 (Zbo x0).bind λr1=>
 if (!r1)=true then (
  Zlx x0 x1 true)
 else (
  (Zc3 x0).bind λr2=>
  (Z4 x1 0 (Xa r2 1)).bind λr3=>
  Zlx x0 x1 (!r3))
def Zfu (x0:Za)  (vb0:Zm):Option Zm:=
 if x0.data_.live=true then (
  (idx x0.m x0.data_.who).bind λa0=>
  (Zg1 a0 x0.data_.beat).bind λr0=>
  some {vb0 with data_:=r0,from_:=x0.data_.who})
 else (
  some vb0)
def Zvp (x0:Za):Option Zm:=
 if x0.addr.live=true then (
  (idx x0.m x0.addr.who).bind λa1=>
  (Zg1 a1 x0.addr.beat).bind λr1=>
  if x0.addr.first=true then (
   Zfu x0 (Zm.mk x0.now r1 2 x0.addr.who (-1) (-1) true 0 (-1)))
  else (
   Zfu x0 (Zm.mk x0.now r1 3 x0.addr.who (-1) (-1) true 0 (-1))))
 else (
  Zfu x0 (Zm.mk x0.now (-1) 0 (-1) (-1) (-1) true 0 (-1)))
def Zjb (x0:Ze) (x1:Int)  (k:(List Zl)->Int->Option (List Zl)) (v0:List Zl) (v1:Int):Option (List Zl):=
 if decide (v1 < (x0.posts.length:Int))=true then (
  (idx x0.posts v1).bind λa0=>
  if decide (a0.at_=x1)=true then (
   (Zi2 a0.req).bind λr0=>
   (X1 80 v0 [{a0 with req:=r0}]).bind λz0=>
   k z0 (Zs v1 1))
  else (
   k v0 (Zs v1 1)))
 else (
  some v0)
def Zlw (x0:Ze) (x1:Int)  : Nat->(List Zl)->Int->Option (List Zl)
 | 0,_,_=>none
 | m+1,v0,v1=>Zjb x0 x1  (Zlw x0 x1  m) v0 v1
def Zu8 (x0:Ze) (x1:Int):Option (List Zl):=
 Zlw x0 x1 FU [] 0
def Zgf (x0:Zb) (x1:Zi)  (vb0:Zb) (v0:Bool):Option (Zb×Bool):=
 if v0=true then (
  some (vb0,false))
 else (
  (Zi2 x1).bind λr0=>
  (X1 64 vb0.queue [r0]).bind λz0=>
  some ({vb0 with queue:=z0},true))
def Zuw (x0:Zb) (x1:Zi):Option (Zb×Bool):=
 (Zd6 x0).bind λr1=>
 (Zbo x0).bind λr2=>
 if (!r2)=true then (
  Zgf x0 x1 r1 true)
 else (
  (Zra x1).bind λr3=>
  if (!r3)=true then (
   Zgf x0 x1 r1 true)
  else (
   Zgf x0 x1 r1 (decide ((x0.queue.length:Int)=4))))
def Zgc (x0:Zf) (x1:Zc)  (v0:Bool):Option Zf:=
 if v0=true then (
  some x0)
 else (
  if decide ((Zs x0.count 1)=x1.every)=true then (
   some (Zf.mk (Zji x1.cap (Zs x0.tokens 1)) 0))
  else (
   some (Zf.mk x0.tokens (Zs x0.count 1))))
def Zoo (x0:Zf) (x1:Zc):Option Zf:=
 if (!x1.prio)=true then (
  Zgc x0 x1 true)
 else (
  (Zem x0 x1).bind λr0=>
  Zgc x0 x1 (!r0))
def Zko (x0:Zb)  (vb0:Zb) (v0:Bool):Option (Zb×Bool):=
 if v0=true then (
  some (vb0,false))
 else (
  some ({vb0 with beat:=(Xa vb0.beat 1)},true))
def Zvi (x0:Zb):Option (Zb×Bool):=
 (Zd6 x0).bind λr0=>
 (Zbo x0).bind λr1=>
 if (!r1)=true then (
  Zko x0 r0 true)
 else (
  Zko x0 r0 (decide (x0.beat=x0.done)))
def Zfr (x0:Zf) (x1:Zc)  (v0:Bool):Option Zf:=
 if v0=true then (
  some (Zf.mk (Zji x1.cap (Zs x0.tokens 1)) x0.count))
 else (
  some x0)
def Zos (x0:Zf) (x1:Zc):Option Zf:=
 if x1.prio=true then (
  (Zem x0 x1).bind λr0=>
  Zfr x0 x1 r0)
 else (
  Zfr x0 x1 false)
def Zks (x0:Z5) (x1:Zh) (x2:Int)  (v0:Bool):Option Z5:=
 if v0=true then (
  (Zjd x1 x2).bind λr0=>
  some (Z5.mk x0.at_ (Zji r0 (Zs x0.credit 1))))
 else (
  some x0)
def Zv1 (x0:Z5) (x1:Zh) (x2:Int):Option Z5:=
 (Zrb x0 x1).bind λr1=>
 if r1=true then (
  Zks x0 x1 x2 (decide (x0.at_=x2)))
 else (
  Zks x0 x1 x2 false)
def Zka (x0:Za) (x1:Zg):Option Za:=
 (idx x0.m x1.who).bind λa0=>
 (Zvi a0).bind λr0=>
 (Qo x0.m x1.who r0.1).bind λy0=>
 if decide (x1.by_=1)=true then (
  (idx x0.buckets x1.who).bind λa1=>
  (idx x0.conf.masters x1.who).bind λa2=>
  (Zos a1 a2).bind λr1=>
  (Qo x0.buckets x1.who r1).bind λy1=>
  some {x0 with m:=y0,buckets:=y1})
 else (
  if decide (x1.by_=2)=true then (
   (Zv1 x0.arb x0.conf x1.who).bind λr2=>
   some {x0 with m:=y0,arb:=r2})
  else (
   some {x0 with m:=y0}))
def Zzp (x0:List Int) (x1:Int)  (v0:Bool):Option Int:=
 if v0=true then (
  some 0)
 else (
  (nzI (x0.length:Int)).bind λn0=>
  (idx x0 (Zay x1 (x0.length:Int))).bind λa0=>
  some a0)
def Zz2 (x0:List Int) (x1:Int):Option Int:=
 if decide ((x0.length:Int)=0)=true then (
  Zzp x0 x1 true)
 else (
  Zzp x0 x1 (decide (x1 < 0)))
def Zv0 (x0:Zh) (x1:Ze) (x2:Int):Option Int:=
 (Zz2 x1.waits x2).bind λr0=>
 some (Z0u 1 (Zji x0.maxSplit (Zs (Zji r0 99) 1)))
def Zm6 (x0:Zi) (x1:Int):Option Int:=
 if (!x0.write)=true then (
  some 0)
 else (
  (idx x0.data_ x1).bind λa0=>
  some a0)
def Ztx (x0:Int)  (v0:Bool):Option Int:=
 if v0=true then (
  some 0)
 else (
  if decide (x0 < 128)=true then (
   some 1)
  else (
   if decide (x0 < 192)=true then (
    some 2)
   else (
    some 3)))
def Zvb (x0:Int):Option Int:=
 if decide (x0 < 0)=true then (
  Ztx x0 true)
 else (
  Ztx x0 (decide (x0≥224)))
def Zta (x0:List Int) (x1:Int) (x2:Int):Option Bool:=
 (Zph x0).bind λr0=>
 if r0=true then (
  (Za3 x1 x2).bind λr1=>
  if r1=true then (
   (Jn x2).bind λr2=>
   some (decide (x1<=(Xa (x0.length:Int) r2))))
  else (
   some false))
 else (
  some false)
def Zfq (x0:List Int) (x1:Int) (x2:Int) (x3:Int)  (k:Int->(List Int)->Int->Option (List Int×Bool)) (v0:Int) (v1:List Int) (v2:Int):Option (List Int×Bool):=
 (Jn x2).bind λr0=>
 if decide (v2 < r0)=true then (
  (idx v1 (Zs x1 v2)).bind λa0=>
  (Qo v1 (Zs x1 v2) (Zay v0 256)).bind λy0=>
  k (Zrx v0 256) y0 (Zs v2 1))
 else (
  some (v1,true))
def Zoq (x0:List Int) (x1:Int) (x2:Int) (x3:Int)  : Nat->Int->(List Int)->Int->Option (List Int×Bool)
 | 0,_,_,_=>none
 | m+1,v0,v1,v2=>Zfq x0 x1 x2 x3  (Zoq x0 x1 x2 x3  m) v0 v1 v2
def Znq (x0:List Int) (x1:Int) (x2:Int) (x3:Int)  (v1:List Int) (v3:Bool):Option (List Int×Bool):=
 if v3=true then (
  some (v1,false))
 else (
  Zoq x0 x1 x2 x3 FU x3 v1 0)
def Zx0 (x0:List Int) (x1:Int) (x2:Int) (x3:Int):Option (List Int×Bool):=
 (X1 8 [] x0).bind λz0=>
 (Zta x0 x1 x2).bind λr1=>
 if (!r1)=true then (
  Znq x0 x1 x2 x3 z0 true)
 else (
  (Ql x2).bind λr2=>
  (Z4 x3 0 (Xa r2 1)).bind λr3=>
  Znq x0 x1 x2 x3 z0 (!r3))
def Zj5 (x0:Zn) (x1:Bool) (x2:Int) (x3:Int)  (vb0:Zn) (v0:Bool):Option (Zn×Int×Bool):=
 if v0=true then (
  (idx vb0.fifo 0).bind λa0=>
  (J6 vb0.fifo 1 (vb0.fifo.length:Int)).bind λs0=>
  some ({vb0 with fifo:=s0},a0,true))
 else (
  some (vb0,0,false))
def Zjz (x0:Zn) (x1:Bool) (x2:Int) (x3:Int)  (vb0:Zn) (v1:Bool):Option (Zn×Int×Bool):=
 if v1=true then (
  (X1 8 vb0.fifo [x3]).bind λz0=>
  some ({vb0 with fifo:=z0},x3,true))
 else (
  if decide (x2=20)=true then (
   if (!x1)=true then (
    Zj5 x0 x1 x2 x3 vb0 (decide ((vb0.fifo.length:Int) > 0)))
   else (
    Zj5 x0 x1 x2 x3 vb0 false))
  else (
   Zj5 x0 x1 x2 x3 vb0 false))
def Zp2 (x0:Zn) (x1:Bool) (x2:Int) (x3:Int)  (vb0:Zn) (v2:Bool):Option (Zn×Int×Bool):=
 if v2=true then (
  some ({vb0 with timer:=x3},x3,true))
 else (
  if decide (x2=16)=true then (
   (Ql 2).bind λr0=>
   (nzI r0).bind λn0=>
   some ({vb0 with timer:=(Zay (Zs vb0.timer 1) r0)},vb0.timer,true))
  else (
   if decide (x2=20)=true then (
    if x1=true then (
     Zjz x0 x1 x2 x3 vb0 (decide ((vb0.fifo.length:Int) < 4)))
    else (
     Zjz x0 x1 x2 x3 vb0 false))
   else (
    Zjz x0 x1 x2 x3 vb0 false)))
def Zp4 (x0:Zn) (x1:Bool) (x2:Int) (x3:Int)  (vb0:Zn) (v3:Bool):Option (Zn×Int×Bool):=
 if v3=true then (
  (idx vb0.regs (Zrx x2 4)).bind λa1=>
  (Qo vb0.regs (Zrx x2 4) x3).bind λy0=>
  some ({vb0 with regs:=y0},x3,true))
 else (
  (Z4 x2 0 12).bind λr1=>
  if r1=true then (
   (idx vb0.regs (Zrx x2 4)).bind λa2=>
   some (vb0,a2,true))
  else (
   if decide (x2=16)=true then (
    Zp2 x0 x1 x2 x3 vb0 x1)
   else (
    Zp2 x0 x1 x2 x3 vb0 false)))
def Zag (x0:Zn) (x1:Bool) (x2:Int) (x3:Int)  (vb0:Zn) (v4:Bool):Option (Zn×Int×Bool):=
 if v4=true then (
  some (vb0,0,false))
 else (
  (Z4 x2 0 12).bind λr2=>
  if r2=true then (
   Zp4 x0 x1 x2 x3 vb0 x1)
  else (
   Zp4 x0 x1 x2 x3 vb0 false))
def Z16 (x0:Zn) (x1:Bool) (x2:Int) (x3:Int):Option (Zn×Int×Bool):=
 (Zro x0).bind λr3=>
 (Zv4 x0).bind λr4=>
 if (!r4)=true then (
  Zag x0 x1 x2 x3 r3 true)
 else (
  if decide ((Zay x2 4)≠0)=true then (
   Zag x0 x1 x2 x3 r3 true)
  else (
   if x1=true then (
    (Ql 2).bind λr5=>
    (Z4 x3 0 (Xa r5 1)).bind λr6=>
    Zag x0 x1 x2 x3 r3 (!r6))
   else (
    Zag x0 x1 x2 x3 r3 false)))
def Zf2 (x0:List Int) (x1:Int) (x2:Int)  (k:Int->Int->Option (Int×Bool)) (v0:Int) (v1:Int):Option (Int×Bool):=
 if decide (v1≥0)=true then (
  (idx x0 (Zs x1 v1)).bind λa0=>
  k (Zs (Jt v0 256) a0) (Xa v1 1))
 else (
  some (v0,true))
def Znr (x0:List Int) (x1:Int) (x2:Int)  : Nat->Int->Int->Option (Int×Bool)
 | 0,_,_=>none
 | m+1,v0,v1=>Zf2 x0 x1 x2  (Znr x0 x1 x2  m) v0 v1
def Zxm (x0:List Int) (x1:Int) (x2:Int):Option (Int×Bool):=
 (Zta x0 x1 x2).bind λr0=>
 if (!r0)=true then (
  some (0,false))
 else (
  (Jn x2).bind λr1=>
  Znr x0 x1 x2 FU 0 (Xa r1 1))
def Zlu (x0:Zj) (x1:Bool) (x2:Int) (x3:Int) (x4:Int)  (vb0:Zj) (vb1:Zn) (v0:Int) (v1:Bool):Option (Zj×Int×Int):=
 if v1=true then (
  some ((Zj.mk vb0.mem vb1),v0,0))
 else (
  some (vb0,0,1))
def Zla (x0:Zj) (x1:Bool) (x2:Int) (x3:Int) (x4:Int)  (vb2:Zj) (v2:Int) (v3:Bool):Option (Zj×Int×Int):=
 if v3=true then (
  if x1=true then (
   (Zx0 x0.mem x2 x3 x4).bind λr0=>
   some ((Zj.mk r0.1 vb2.dev),x4,0))
  else (
   (Zxm x0.mem x2 x3).bind λr1=>
   some (vb2,r1.1,0)))
 else (
  if decide (v2=3)=true then (
   (Z16 x0.dev x1 (Xa x2 192) x4).bind λr2=>
   if decide (x3=2)=true then (
    Zlu x0 x1 x2 x3 x4 vb2 r2.1 r2.2.1 r2.2.2)
   else (
    Zlu x0 x1 x2 x3 x4 vb2 r2.1 r2.2.1 false))
  else (
   some (vb2,0,1)))
def K2 (x0:Zj) (x1:Bool) (x2:Int) (x3:Int) (x4:Int)  (vb2:Zj) (v4:Bool):Option (Zj×Int×Int):=
 if v4=true then (
  some (vb2,0,1))
 else (
  (Zvb x2).bind λr3=>
  if decide (r3=1)=true then (
   Zla x0 x1 x2 x3 x4 vb2 r3 (decide (r3=1)))
  else (
   Zla x0 x1 x2 x3 x4 vb2 r3 (decide (r3=2))))
def Zpe (x0:Zj) (x1:Bool) (x2:Int) (x3:Int) (x4:Int):Option (Zj×Int×Int):=
 (Ztr x0).bind λr4=>
 (Zpf x0).bind λr5=>
 if (!r5)=true then (
  K2 x0 x1 x2 x3 x4 r4 true)
 else (
  (Za3 x2 x3).bind λr6=>
  if (!r6)=true then (
   K2 x0 x1 x2 x3 x4 r4 true)
  else (
   if x1=true then (
    (Ql x3).bind λr7=>
    (Z4 x4 0 (Xa r7 1)).bind λr8=>
    K2 x0 x1 x2 x3 x4 r4 (!r8))
   else (
    K2 x0 x1 x2 x3 x4 r4 false)))
def Zoh (x0:Zb)  (vb0:Zb) (v0:Bool):Option (Zb×Bool):=
 if v0=true then (
  some (vb0,false))
 else (
  (Zc3 x0).bind λr0=>
  if decide ((Zs vb0.done 1)=r0)=true then (
   (J6 vb0.queue 1 (vb0.queue.length:Int)).bind λs0=>
   some ((Zb.mk s0 0 0 0 false false),true))
  else (
   some ((Zb.mk vb0.queue vb0.beat (Zs vb0.done 1) 0 false vb0.broken),true)))
def Zyd (x0:Zb):Option (Zb×Bool):=
 (Zd6 x0).bind λr1=>
 (Zbo x0).bind λr2=>
 if (!r2)=true then (
  Zoh x0 r1 true)
 else (
  Zoh x0 r1 (decide (x0.beat=x0.done)))
def Zdr (x0:Za) (x1:Ze)  (vb0:Za) (vb1:Zb) (vb2:Zr):Option Za:=
 (X1 56 vb0.log [vb2]).bind λz0=>
 (Zyd vb1).bind λr0=>
 (idx vb0.m x0.data_.who).bind λa0=>
 (Qo vb0.m x0.data_.who r0.1).bind λy0=>
 if decide (vb0.holder=x0.data_.who)=true then (
  if decide (r0.1.done=0)=true then (
   some {vb0 with m:=y0,holder:=(-1),held:=0,log:=z0})
  else (
   some {vb0 with m:=y0,log:=z0}))
 else (
  some {vb0 with m:=y0,log:=z0})
def Zp8 (x0:Za) (x1:Ze):Option Za:=
 (idx x0.m x0.data_.who).bind λa1=>
 if decide (x0.data_.resp=2)=true then (
  (Qo x0.m x0.data_.who {a1 with tries:=(Zs a1.tries 1)}).bind λy1=>
  (Zka {x0 with m:=y1,data_:=Zg.z0} x0.data_).bind λr1=>
  some r1)
 else (
  if decide (x0.data_.resp=3)=true then (
   (Qo x0.m x0.data_.who {a1 with parted:=true}).bind λy2=>
   (Zv0 x0.conf x1 x0.picks).bind λr2=>
   (idx x0.splits x0.data_.who).bind λa2=>
   (Qo x0.splits x0.data_.who r2).bind λy3=>
   (Zka {x0 with m:=y2,splits:=y3,data_:=Zg.z0} x0.data_).bind λr3=>
   some r3)
  else (
   (idx a1.queue 0).bind λa3=>
   (Zg1 a1 x0.data_.beat).bind λr4=>
   if decide (x0.data_.resp=0)=true then (
    (Zm6 a3 x0.data_.beat).bind λr5=>
    (Zpe x0.model a3.write r4 a3.size r5).bind λr6=>
    Zdr x0 x1 {x0 with data_:=Zg.z0,model:=r6.1} a1 (Zr.mk x0.now x0.data_.who a3.write r4 a3.size r6.2.1 x0.data_.resp))
   else (
    Zdr x0 x1 {x0 with data_:=Zg.z0} a1 (Zr.mk x0.now x0.data_.who a3.write r4 a3.size 0 x0.data_.resp))))
def Zxr (x0:Ze) (x1:Int):Option Int:=
 (Zz2 x0.says x1).bind λr0=>
 if decide (r0=2)=true then (
  some r0)
 else (
  if decide (r0=3)=true then (
   some r0)
  else (
   some 0))
def Zx6 (x0:Zh) (x1:Ze) (x2:Int):Option Int:=
 (Zz2 x1.waits x2).bind λr0=>
 some (Z0u 0 (Zji x0.maxWait r0))
def Ze5 (x0:Za) (x1:Ze)  (vb0:Zg):Option Za:=
 some {x0 with addr:=Zg.z0,data_:=vb0,picks:=(Zs x0.picks 1)}
def Km (x0:Za) (x1:Ze)  (vb0:Zg) (v0:Bool):Option Za:=
 if v0=true then (
  Ze5 x0 x1 {vb0 with resp:=3})
 else (
  Ze5 x0 x1 vb0)
def Zce (x0:Za) (x1:Ze)  (vb0:Zg) (vb1:Zb) (v1:Int) (v2:Int):Option Za:=
 if (!vb1.broken)=true then (
  if decide (v2=3)=true then (
   if decide (v1=2)=true then (
    if (!vb1.parted)=true then (
     Km x0 x1 vb0 (decide (x0.holder≠vb0.who)))
    else (
     Km x0 x1 vb0 false))
   else (
    Km x0 x1 vb0 false))
  else (
   Km x0 x1 vb0 false))
 else (
  Km x0 x1 vb0 false)
def Ko (x0:Za) (x1:Ze)  (vb0:Zg) (vb1:Zb) (v1:Int) (v2:Int) (v3:Bool):Option Za:=
 if v3=true then (
  Zce x0 x1 {vb0 with resp:=2} vb1 v1 v2)
 else (
  Zce x0 x1 vb0 vb1 v1 v2)
def Zck (x0:Za) (x1:Ze)  (vb0:Zg) (vb1:Zb) (v1:Int) (v2:Int):Option Za:=
 if (!vb1.broken)=true then (
  if decide (v2=2)=true then (
   if decide (v1=1)=true then (
    Ko x0 x1 vb0 vb1 v1 v2 (decide (vb1.tries < x0.conf.maxRetry)))
   else (
    if decide (v1=2)=true then (
     Ko x0 x1 vb0 vb1 v1 v2 (decide (vb1.tries < x0.conf.maxRetry)))
    else (
     Ko x0 x1 vb0 vb1 v1 v2 false)))
  else (
   Ko x0 x1 vb0 vb1 v1 v2 false))
 else (
  Ko x0 x1 vb0 vb1 v1 v2 false)
def Zcf (x0:Za) (x1:Ze)  (vb0:Zg) (vb1:Zb) (v1:Int) (v2:Int) (v4:Bool):Option Za:=
 if v4=true then (
  Zck x0 x1 {vb0 with left:=(Zs vb0.left 2)} vb1 v1 v2)
 else (
  Zck x0 x1 vb0 vb1 v1 v2)
def Zcj (x0:Za) (x1:Ze)  (vb0:Zg) (vb1:Zb) (v1:Int) (v2:Int):Option Za:=
 if decide (v1=3)=true then (
  Zcf x0 x1 vb0 vb1 v1 v2 (!vb1.broken))
 else (
  Zcf x0 x1 vb0 vb1 v1 v2 false)
def Zca (x0:Za) (x1:Ze)  (vb2:Zb) (vb3:Zi) (v5:Int) (v1:Int) (v2:Int) (v6:Bool):Option Za:=
 if v6=true then (
  Zcj x0 x1 {x0.addr with resp:=1} vb2 v1 v2)
 else (
  (Zx6 x0.conf x1 x0.picks).bind λr0=>
  (Zm6 vb3 x0.addr.beat).bind λr1=>
  (Zpe x0.model vb3.write v5 vb3.size r1).bind λr2=>
  Zcj x0 x1 {x0.addr with left:=r0,resp:=r2.2.2} vb2 v1 v2)
def Ztk (x0:Za) (x1:Ze):Option Za:=
 if (!x0.addr.live)=true then (
  some {x0 with addr:=Zg.z0})
 else (
  (idx x0.m x0.addr.who).bind λa0=>
  (idx a0.queue 0).bind λa1=>
  (Zg1 a0 x0.addr.beat).bind λr3=>
  (Zvb r3).bind λr4=>
  (Zxr x1 x0.picks).bind λr5=>
  if a0.broken=true then (
   Zca x0 x1 a0 a1 r3 r4 r5 true)
  else (
   Zca x0 x1 a0 a1 r3 r4 r5 (decide (r4=0))))
def Zm1 (x0:Zb):Option Bool:=
 (Zbo x0).bind λr0=>
 if r0=true then (
  (Zc3 x0).bind λr1=>
  some (decide (x0.beat < r1)))
 else (
  some false)
def Zc6 (x0:Zf) (x1:Zc)  (v0:Bool):Option (Zf×Bool):=
 if v0=true then (
  some (x0,false))
 else (
  some ((Zf.mk (Xa x0.tokens 1) x0.count),true))
def Znn (x0:Zf) (x1:Zc):Option (Zf×Bool):=
 if (!x1.prio)=true then (
  Zc6 x0 x1 true)
 else (
  (Zem x0 x1).bind λr0=>
  if (!r0)=true then (
   Zc6 x0 x1 true)
  else (
   Zc6 x0 x1 (decide (x0.tokens=0))))
def Zis (x0:Zb)  (vb0:Zb) (v0:Bool):Option (Zb×Bool):=
 if v0=true then (
  some (vb0,false))
 else (
  some ({vb0 with beat:=(Zs vb0.beat 1)},true))
def Ztm (x0:Zb):Option (Zb×Bool):=
 (Zd6 x0).bind λr0=>
 (Zm1 x0).bind λr1=>
 if (!r1)=true then (
  Zis x0 r0 true)
 else (
  Zis x0 r0 (decide (x0.beat=(Zs x0.done 2))))
def Zqq (x0:Z5) (x1:Zh) (x2:List Bool)  (k:Int->Option (Z5×Int)) (v0:Int):Option (Z5×Int):=
 if decide (v0<=(x2.length:Int))=true then (
  (nzI (x2.length:Int)).bind λn0=>
  (idx x2 (Zay (Zs x0.at_ v0) (x2.length:Int))).bind λa0=>
  if a0=true then (
   (Zjd x1 (Zay (Zs x0.at_ v0) (x2.length:Int))).bind λr0=>
   some ((Z5.mk (Zay (Zs x0.at_ v0) (x2.length:Int)) (Xa r0 1)),(Zay (Zs x0.at_ v0) (x2.length:Int))))
  else (
   k (Zs v0 1)))
 else (
  some ((Z5.mk x0.at_ 0),(-1)))
def Zkw (x0:Z5) (x1:Zh) (x2:List Bool)  : Nat->Int->Option (Z5×Int)
 | 0,_=>none
 | m+1,v0=>Zqq x0 x1 x2  (Zkw x0 x1 x2  m) v0
def Zls (x0:Z5) (x1:Zh) (x2:List Bool)  (v1:Bool):Option (Z5×Int):=
 if v1=true then (
  some ((Z5.mk x0.at_ (Xa x0.credit 1)),x0.at_))
 else (
  Zkw x0 x1 x2 FU 1)
def Zlf (x0:Z5) (x1:Zh) (x2:List Bool)  (v2:Bool):Option (Z5×Int):=
 if v2=true then (
  some (x0,(-1)))
 else (
  if decide (x0.credit > 0)=true then (
   (idx x2 x0.at_).bind λa1=>
   Zls x0 x1 x2 a1)
  else (
   Zls x0 x1 x2 false))
def Zvs (x0:Z5) (x1:Zh) (x2:List Bool):Option (Z5×Int):=
 (Zrb x0 x1).bind λr1=>
 if (!r1)=true then (
  Zlf x0 x1 x2 true)
 else (
  Zlf x0 x1 x2 (decide ((x2.length:Int)≠(x1.masters.length:Int))))
def Ziw (x0:Za) (k_L2:Za->Zg->(List Bool)->Int->Option Za) (vb0:Za) (vb1:Zg) (v0:List Bool) (v1:Int) (v2:Bool):Option Za:=
 if v2=true then (
  (idx vb0.buckets v1).bind λa0=>
  (idx vb0.conf.masters v1).bind λa1=>
  (Znn a0 a1).bind λr0=>
  (Qo vb0.buckets v1 r0.1).bind λy0=>
  k_L2 {vb0 with buckets:=y0} (Zg.mk false v1 0 false 1 0 0 false) v0 (Zs v1 1))
 else (
  k_L2 vb0 vb1 v0 (Zs v1 1))
def Zhc (x0:Za)  (vb0:Za) (vb1:Zg) (vb2:Zb):Option Za:=
 (Ztm vb2).bind λr1=>
 (idx vb0.m vb1.who).bind λa2=>
 (Qo vb0.m vb1.who r1.1).bind λy1=>
 some {vb0 with m:=y1,last:=vb1.who,addr:=vb1}
def Zdp (x0:Za)  (vb0:Za) (vb1:Zg) (vb2:Zb) (v3:Bool):Option Za:=
 if v3=true then (
  Zhc x0 {vb0 with holder:=vb1.who,held:=0} vb1 vb2)
 else (
  Zhc x0 vb0 vb1 vb2)
def Zex (x0:Za)  (vb0:Za) (vb1:Zg) (vb2:Zb):Option Za:=
 (idx vb2.queue 0).bind λa3=>
 if a3.lock=true then (
  if (!vb2.broken)=true then (
   Zdp x0 vb0 vb1 vb2 (decide (vb0.holder < 0)))
  else (
   Zdp x0 vb0 vb1 vb2 false))
 else (
  Zdp x0 vb0 vb1 vb2 false)
def Jg (x0:Za)  (vb0:Za) (vb1:Zg):Option Za:=
 if decide (vb1.who < 0)=true then (
  some vb0)
 else (
  (idx vb0.m vb1.who).bind λa4=>
  if decide (a4.beat=0)=true then (
   Zex x0 vb0 {vb1 with live:=true,beat:=a4.beat,first:=true} a4)
  else (
   Zex x0 vb0 {vb1 with live:=true,beat:=a4.beat,first:=(decide (vb0.last≠vb1.who))} a4))
def Zel (x0:Za)  (vb0:Za) (vb1:Zg) (v0:List Bool) (v4:Bool):Option Za:=
 if v4=true then (
  (Zvs vb0.arb vb0.conf v0).bind λr2=>
  Jg x0 {vb0 with arb:=r2.1} {vb1 with who:=r2.2,by_:=2})
 else (
  Jg x0 vb0 vb1)
def Zch (x0:Za) (k_L2:Za->Zg->(List Bool)->Int->Option Za) (vb0:Za) (vb1:Zg) (v0:List Bool) (v1:Int) (v5:Bool):Option Za:=
 if v5=true then (
  (idx v0 v1).bind λa5=>
  if a5=true then (
   (idx vb0.buckets v1).bind λa6=>
   Ziw x0 k_L2 vb0 vb1 v0 v1 (decide (a6.tokens > 0)))
  else (
   Ziw x0 k_L2 vb0 vb1 v0 v1 false))
 else (
  if decide (vb1.who < 0)=true then (
   Zel x0 vb0 vb1 v0 (decide (vb0.holder < 0)))
  else (
   Zel x0 vb0 vb1 v0 false))
def Jx (x0:Za)  (k:Za->Zg->(List Bool)->Int->Option Za) (vb0:Za) (vb1:Zg) (v0:List Bool) (v1:Int):Option Za:=
 if decide (v1 < (vb0.m.length:Int))=true then (
  Zch x0 k vb0 vb1 v0 v1 (decide (vb1.who < 0)))
 else (
  Zch x0 k vb0 vb1 v0 v1 false)
def Zaj (x0:Za)  : Nat->Za->Zg->(List Bool)->Int->Option Za
 | 0,_,_,_,_=>none
 | m+1,vb0,vb1,v0,v1=>Jx x0  (Zaj x0  m) vb0 vb1 v0 v1
def Zi9 (x0:Za)  (vb1:Zg) (v0:List Bool):Option Za:=
 Zaj x0 FU x0 vb1 v0 0
def Ziz (x0:Za)  (v0:List Bool) (v6:Bool):Option Za:=
 if v6=true then (
  Zi9 x0 (Zg.mk false x0.holder 0 false 3 0 0 false) v0)
 else (
  Zi9 x0 (Zg.mk false (-1) 0 false 0 0 0 false) v0)
def Zhe (x0:Za)  (k:(List Bool)->Int->Option Za) (v0:List Bool) (v7:Int):Option Za:=
 if decide (v7 < (x0.m.length:Int))=true then (
  (idx x0.m v7).bind λa7=>
  (Zm1 a7).bind λr3=>
  if r3=true then (
   (idx x0.splits v7).bind λa8=>
   if decide (a8=0)=true then (
    if decide (x0.holder < 0)=true then (
     (X1 1 v0 [true]).bind λz0=>
     k z0 (Zs v7 1))
    else (
     (X1 1 v0 [decide (x0.holder=v7)]).bind λz0=>
     k z0 (Zs v7 1)))
   else (
    (X1 1 v0 [false]).bind λz0=>
    k z0 (Zs v7 1)))
  else (
   (X1 1 v0 [false]).bind λz0=>
   k z0 (Zs v7 1)))
 else (
  if decide (x0.holder≥0)=true then (
   (idx v0 x0.holder).bind λa9=>
   Ziz x0 v0 a9)
  else (
   Ziz x0 v0 false))
def Zje (x0:Za)  : Nat->(List Bool)->Int->Option Za
 | 0,_,_=>none
 | m+1,v0,v7=>Zhe x0  (Zje x0  m) v0 v7
def Zty (x0:Za):Option Za:=
 Zje x0 FU [] 0
def Zda (x0:Za) (x1:Ze)  (vb0:Za) (vb1:Zm):Option (Za×Zm):=
 some ({vb0 with now:=(Zs vb0.now 1)},vb1)
def Zdd (x0:Za) (x1:Ze)  (vb0:Za) (vb2:Zm):Option (Za×Zm):=
 (Ztk vb0 x1).bind λr0=>
 (Zty r0).bind λr1=>
 if r1.addr.live=true then (
  Zda x0 x1 r1 {vb2 with got:=r1.addr.who})
 else (
  Zda x0 x1 r1 vb2)
def J1 (x0:Za) (x1:Ze)  (vb0:Za) (vb2:Zm) (v0:Bool):Option (Za×Zm):=
 if v0=true then (
  (idx vb0.m vb0.holder).bind λa0=>
  (Qo vb0.m vb0.holder {a0 with broken:=true}).bind λy0=>
  Zdd x0 x1 {vb0 with m:=y0,holder:=(-1),held:=0} vb2)
 else (
  Zdd x0 x1 vb0 vb2)
def Q5 (x0:Za) (x1:Ze)  (vb0:Za) (vb2:Zm):Option (Za×Zm):=
 if vb2.ready=true then (
  if decide (vb0.holder≥0)=true then (
   J1 x0 x1 vb0 vb2 (decide (vb0.held≥vb0.conf.lockMost)))
  else (
   J1 x0 x1 vb0 vb2 false))
 else (
  Zda x0 x1 vb0 vb2)
def J2 (x0:Za) (x1:Ze)  (vb0:Za) (vb2:Zm) (v1:Bool):Option (Za×Zm):=
 if v1=true then (
  if vb0.addr.live=true then (
   (Zka {vb0 with addr:=Zg.z0,data_:={vb0.data_ with second:=true}} vb0.addr).bind λr2=>
   Q5 x0 x1 r2 {vb2 with ready:=false,resp:=vb0.data_.resp})
  else (
   Q5 x0 x1 {vb0 with data_:={vb0.data_ with second:=true}} {vb2 with ready:=false,resp:=vb0.data_.resp}))
 else (
  if vb0.data_.live=true then (
   (Zp8 vb0 x1).bind λr3=>
   Q5 x0 x1 r3 {vb2 with resp:=vb0.data_.resp})
  else (
   Q5 x0 x1 vb0 vb2))
def Zld (x0:Za) (x1:Ze)  (vb0:Za) (vb2:Zm) (v2:Bool):Option (Za×Zm):=
 if v2=true then (
  Q5 x0 x1 {vb0 with data_:={vb0.data_ with left:=(Xa vb0.data_.left 1)}} {vb2 with ready:=false})
 else (
  if vb0.data_.live=true then (
   if decide (vb0.data_.resp≠0)=true then (
    J2 x0 x1 vb0 vb2 (!vb0.data_.second))
   else (
    J2 x0 x1 vb0 vb2 false))
  else (
   J2 x0 x1 vb0 vb2 false))
def J0 (x0:Za) (x1:Ze)  (vb0:Za) (vb2:Zm):Option (Za×Zm):=
 if vb0.data_.live=true then (
  Zld x0 x1 vb0 vb2 (decide (vb0.data_.left > 0)))
 else (
  Zld x0 x1 vb0 vb2 false)
def Zio (x0:Za) (x1:Ze)  (k:Za->Zm->Int->Option (Za×Zm)) (vb0:Za) (vb2:Zm) (v3:Int):Option (Za×Zm):=
 if decide (v3 < (vb0.m.length:Int))=true then (
  (idx vb0.splits v3).bind λa1=>
  (Qo vb0.splits v3 (Z0u 0 (Xa a1 1))).bind λy1=>
  (idx vb0.buckets v3).bind λa2=>
  (idx vb0.conf.masters v3).bind λa3=>
  (Zoo a2 a3).bind λr4=>
  (Qo vb0.buckets v3 r4).bind λy2=>
  k {vb0 with buckets:=y2,splits:=y1} vb2 (Zs v3 1))
 else (
  if decide (vb0.holder≥0)=true then (
   J0 x0 x1 {vb0 with held:=(Zji vb0.conf.lockMost (Zs vb0.held 1))} vb2)
  else (
   J0 x0 x1 vb0 vb2))
def Za9 (x0:Za) (x1:Ze)  : Nat->Za->Zm->Int->Option (Za×Zm)
 | 0,_,_,_=>none
 | m+1,vb0,vb2,v3=>Zio x0 x1  (Za9 x0 x1  m) vb0 vb2 v3
def Zi8 (x0:Za) (x1:Ze)  (k:Za->Zm->(List Zl)->Int->Option (Za×Zm)) (vb0:Za) (vb2:Zm) (v4:List Zl) (v5:Int):Option (Za×Zm):=
 if decide (v5 < (v4.length:Int))=true then (
  (idx v4 v5).bind λa4=>
  (Z4 a4.who 0 (Xa (vb0.m.length:Int) 1)).bind λr5=>
  if r5=true then (
   (idx vb0.m a4.who).bind λa5=>
   (Zuw a5 a4.req).bind λr6=>
   (Qo vb0.m a4.who r6.1).bind λy3=>
   k {vb0 with m:=y3} vb2 v4 (Zs v5 1))
  else (
   k vb0 vb2 v4 (Zs v5 1)))
 else (
  Za9 x0 x1 FU vb0 vb2 0)
def Zgh (x0:Za) (x1:Ze)  : Nat->Za->Zm->(List Zl)->Int->Option (Za×Zm)
 | 0,_,_,_,_=>none
 | m+1,vb0,vb2,v4,v5=>Zi8 x0 x1  (Zgh x0 x1  m) vb0 vb2 v4 v5
def Zu2 (x0:Za) (x1:Ze):Option (Za×Zm):=
 (Zo6 x0).bind λr7=>
 (Zvp r7).bind λr8=>
 (Zu8 x1 r7.now).bind λr9=>
 Zgh x0 x1 FU r7 r8 r9 0
def Zhi (x0:Zh) (x1:Ze)  (k:Int->Option Bool) (v0:Int):Option Bool:=
 if decide (v0 < (x1.posts.length:Int))=true then (
  (idx x1.posts v0).bind λa0=>
  (Z4 a0.at_ 0 4000).bind λr0=>
  if (!r0)=true then (
   some false)
  else (
   (Z4 a0.who 0 (Xa (x0.masters.length:Int) 1)).bind λr1=>
   if (!r1)=true then (
    some false)
   else (
    (Zra a0.req).bind λr2=>
    if (!r2)=true then (
     some false)
    else (
     if decide (v0 > 0)=true then (
      (idx x1.posts (Xa v0 1)).bind λa1=>
      if decide (a0.at_ < a1.at_)=true then (
       some false)
      else (
       k (Zs v0 1)))
     else (
      k (Zs v0 1))))))
 else (
  (Zd2 x0).bind λr3=>
  if r3=true then (
   if decide ((x1.posts.length:Int)<=20)=true then (
    if decide ((x1.waits.length:Int)<=20)=true then (
     some (decide ((x1.says.length:Int)<=20)))
    else (
     some false))
   else (
    some false))
  else (
   some false))
def Zjc (x0:Zh) (x1:Ze)  : Nat->Int->Option Bool
 | 0,_=>none
 | m+1,v0=>Zhi x0 x1  (Zjc x0 x1  m) v0
def Zrw (x0:Zh) (x1:Ze):Option Bool:=
 Zjc x0 x1 FU 0
def Zlk (x0:Za) (x1:Ze) (x2:Int)  (k:Za->(List Zm)->Int->Option (Za×List Zm)) (vb0:Za) (v0:List Zm) (v1:Int):Option (Za×List Zm):=
 if decide (v1 < x2)=true then (
  (Zu2 vb0 x1).bind λr0=>
  (X1 72 v0 [r0.2]).bind λz0=>
  k r0.1 z0 (Zs v1 1))
 else (
  some (vb0,v0))
def Zog (x0:Za) (x1:Ze) (x2:Int)  : Nat->Za->(List Zm)->Int->Option (Za×List Zm)
 | 0,_,_,_=>none
 | m+1,vb0,v0,v1=>Zlk x0 x1 x2  (Zog x0 x1 x2  m) vb0 v0 v1
def Zn8 (x0:Za) (x1:Ze) (x2:Int)  (vb0:Za) (v2:Bool):Option (Za×List Zm):=
 if v2=true then (
  some (vb0,[]))
 else (
  Zog x0 x1 x2 FU vb0 [] 0)
def Zya (x0:Za) (x1:Ze) (x2:Int):Option (Za×List Zm):=
 (Zo6 x0).bind λr1=>
 (Zng x0).bind λr2=>
 if (!r2)=true then (
  Zn8 x0 x1 x2 r1 true)
 else (
  (Z4 x2 0 (Xa 4000 x0.now)).bind λr3=>
  Zn8 x0 x1 x2 r1 (!r3))
def Zss (x0:Zh) (x1:Ze) (x2:Int)  (v0:Bool):Option (Za×Bool):=
 if v0=true then (
  some (Za.z0,false))
 else (
  (Zx4 x0).bind λr0=>
  (Zya r0.1 x1 x2).bind λr1=>
  some (r1.1,true))
def Z46 (x0:Zh) (x1:Ze) (x2:Int):Option (Za×Bool):=
 (Zrw x0 x1).bind λr2=>
 if (!r2)=true then (
  Zss x0 x1 x2 true)
 else (
  (Z4 x2 0 4000).bind λr3=>
  Zss x0 x1 x2 (!r3))
def Yp (x0:Int) (x1:Int) (x2:Int):Option Bool:=
 if decide (x1<=x0)=true then (
  some (decide (x0<=x2)))
 else (
  some false)
def Zuf (x0:Zh)  (v0:Bool):Option Int:=
 if v0=true then (
  some 0)
 else (
  some (Jt (Zs x0.maxRetry 2) (Zs x0.maxWait 6)))
def Ztb (x0:Zh):Option Int:=
 (Yp x0.maxRetry 0 3).bind λr0=>
 if (!r0)=true then (
  Zuf x0 true)
 else (
  (Yp x0.maxWait 0 3).bind λr1=>
  Zuf x0 (!r1))
def Zsc (x0:Zh):Option Int:=
 (Ztb x0).bind λr0=>
 if decide (r0=0)=true then (
  some 0)
 else (
  (Yp x0.lockMost 1 40).bind λr1=>
  if (!r1)=true then (
   some 0)
  else (
   (Ztb x0).bind λr2=>
   some (Zs (Jt 2 r2) x0.lockMost)))
def Zus (x0:Zh)  (k:Int->Int->Option Int) (v0:Int) (v1:Int):Option Int:=
 if decide (v1 < (x0.masters.length:Int))=true then (
  (idx x0.masters v1).bind λa0=>
  if a0.prio=true then (
   k (Zs v0 1) (Zs v1 1))
  else (
   k v0 (Zs v1 1)))
 else (
  some v0)
def Zqd (x0:Zh)  : Nat->Int->Int->Option Int
 | 0,_,_=>none
 | m+1,v0,v1=>Zus x0  (Zqd x0  m) v0 v1
def Z1j (x0:Zh):Option Int:=
 Zqd x0 FU 0 0
def Zoj (x0:Zh):Option Int:=
 (Zsc x0).bind λr0=>
 (Z1j x0).bind λr1=>
 some (Jt (Jt 2 r0) r1)
def Zrr (x0:Zc) (x1:Zh):Option Bool:=
 (Yp x0.weight 1 4).bind λr0=>
 if (!r0)=true then (
  some true)
 else (
  if x0.prio=true then (
   (Zoj x1).bind λr1=>
   (Yp x0.every r1 1000).bind λr2=>
   if (!r2)=true then (
    some true)
   else (
    (Yp x0.cap 1 8).bind λr3=>
    some (!r3)))
  else (
   if decide (x0.every≠0)=true then (
    some true)
   else (
    some (decide (x0.cap≠0)))))
def W7 (x0:List Zc) (x1c0:Zh)  (k:Int->Option Int) (v0:Int):Option Int:=
 if decide (v0 < (x0.length:Int))=true then (
  (idx x0 v0).bind λa0=>
  (Zrr a0 x1c0).bind λr0=>
  if r0=true then (
   some v0)
  else (
   k (Zs v0 1)))
 else (
  some (-1))
def Y2 (x0:List Zc) (x1c0:Zh)  : Nat->Int->Option Int
 | 0,_=>none
 | m+1,v0=>W7 x0 x1c0  (Y2 x0 x1c0  m) v0
def Qz (x0:List Zc) (x1c0:Zh):Option Int:=
 Y2 x0 x1c0 FU 0
def X8 (x0:List Zc) (x1c0:Zh):Option Bool:=
 (Qz x0 x1c0).bind λr0=>
 some (decide (r0≥0))
def Zf7 (x0:Zh):Option Bool:=
 (Yp (x0.masters.length:Int) 1 4).bind λr0=>
 if (!r0)=true then (
  some false)
 else (
  (Yp x0.quantum 1 4).bind λr1=>
  if (!r1)=true then (
   some false)
  else (
   (Yp x0.maxSplit 1 12).bind λr2=>
   if (!r2)=true then (
    some false)
   else (
    (Zsc x0).bind λr3=>
    if decide (r3=0)=true then (
     some false)
    else (
     (X8 x0.masters x0).bind λr4=>
     some (!r4)))))
def Zad (x0:List Zc):Option (List Zc):=X1 32 [] x0
def Zpc (x0:Zh):Option Zh:=
 (Zad x0.masters).bind λr0=>
 some {x0 with masters:=r0}
def Ygz  : Option Zn:=
 (mkI 8 4 0).bind λm0=>
 some (Zn.mk m0 0 [])
def Ztj  : Option Zj:=
 (mkI 8 192 0).bind λm0=>
 (Ygz).bind λr0=>
 some (Zj.mk m0 r0)
def Zpz (x0:Zc):Option Zf:=
 if (!x0.prio)=true then (
  some Zf.z0)
 else (
  some (Zf.mk (Z0u x0.cap 0) 0))
def Zkv (x0:Zh)  (k:Za->Int->Option (Za×Bool)) (vb0:Za) (v0:Int):Option (Za×Bool):=
 if decide (v0 < (x0.masters.length:Int))=true then (
  (idx x0.masters v0).bind λa0=>
  (X1 56 vb0.m [Zb.z0]).bind λz0=>
  (Zpz a0).bind λr0=>
  (X1 16 vb0.buckets [r0]).bind λz1=>
  (X1 8 vb0.splits [0]).bind λz2=>
  k {vb0 with m:=z0,buckets:=z1,splits:=z2} (Zs v0 1))
 else (
  some (vb0,true))
def Zn0 (x0:Zh)  : Nat->Za->Int->Option (Za×Bool)
 | 0,_,_=>none
 | m+1,vb0,v0=>Zkv x0  (Zn0 x0  m) vb0 v0
def Zxx (x0:Zh):Option (Za×Bool):=
 (Zf7 x0).bind λr1=>
 if (!r1)=true then (
  some (Za.z0,false))
 else (
  (Zpc x0).bind λr2=>
  (Ztj).bind λr3=>
  Zn0 x0 FU (Za.mk r2 0 [] Z5.z0 [] [] (-1) 0 (-1) Zg.z0 Zg.z0 r3 0 []) 0)
def Zgt (x0:Int):Option Int:=
 (Yp x0 0 3).bind λr0=>
 if (!r0)=true then (
  some 0)
 else (
  (idx [1,4,4,8] x0).bind λa0=>
  some a0)
def J7 (x0:Int):Option Int:=
 (Yp x0 0 2).bind λr0=>
 if (!r0)=true then (
  some 0)
 else (
  (nnI x0).bind λn0=>
  some (Yez 1 x0))
def Zgp (x0:Int) (x1:Int):Option Bool:=
 (Yp x1 0 2).bind λr0=>
 if r0=true then (
  if decide (x0≥0)=true then (
   (J7 x1).bind λr1=>
   (nzI r1).bind λn0=>
   some (decide ((Zay x0 r1)=0)))
  else (
   some false))
 else (
  some false)
def Zez (x0:Int) (x1:Int) (x2:Int)  (v0:Bool):Option Int:=
 if v0=true then (
  some (-1))
 else (
  (J7 x1).bind λr0=>
  (J7 x1).bind λr1=>
  if decide (x2=2)=true then (
   (nzI (Jt 4 r1)).bind λn0=>
   if decide ((Zay (Zs x0 r0) (Jt 4 r1))=0)=true then (
    some (Xa (Zs x0 r0) (Jt 4 r1)))
   else (
    some (Zs x0 r0)))
  else (
   some (Zs x0 r0)))
def Zse (x0:Int) (x1:Int) (x2:Int):Option Int:=
 (Zgp x0 x1).bind λr2=>
 if (!r2)=true then (
  Zez x0 x1 x2 true)
 else (
  if decide (x0≥512)=true then (
   Zez x0 x1 x2 true)
  else (
   (Zgt x2).bind λr3=>
   Zez x0 x1 x2 (decide (r3=0))))
def Zb5 (x0:Int) (x1:Int) (x2:Int)  (k:Int->(List Int)->Int->Int->Option (List Int)) (v0:Int) (v1:List Int) (v2:Int) (v3:Int):Option (List Int):=
 if decide (v3 < v2)=true then (
  (Zse v0 x1 x2).bind λr0=>
  if decide (r0 < 0)=true then (
   some [])
  else (
   (X1 8 v1 [v0]).bind λz0=>
   k r0 z0 v2 (Zs v3 1)))
 else (
  some v1)
def Zga (x0:Int) (x1:Int) (x2:Int)  : Nat->Int->(List Int)->Int->Int->Option (List Int)
 | 0,_,_,_,_=>none
 | m+1,v0,v1,v2,v3=>Zb5 x0 x1 x2  (Zga x0 x1 x2  m) v0 v1 v2 v3
def Zh3 (x0:Int) (x1:Int) (x2:Int):Option (List Int):=
 (Zgt x2).bind λr1=>
 Zga x0 x1 x2 FU x0 [] r1 0
def Zql (x0:Int) (x1:Int) (x2:Int)  (k:(List Int)->Int->Int->Option Bool) (v0:List Int) (v1:Int) (v2:Int):Option Bool:=
 if decide (v2 < v1)=true then (
  (idx v0 v2).bind λa0=>
  (idx v0 0).bind λa1=>
  if decide ((Zrx a0 64)≠(Zrx a1 64))=true then (
   some false)
  else (
   k v0 v1 (Zs v2 1)))
 else (
  some (decide ((v0.length:Int) > 0)))
def Zlj (x0:Int) (x1:Int) (x2:Int)  : Nat->(List Int)->Int->Int->Option Bool
 | 0,_,_,_=>none
 | m+1,v0,v1,v2=>Zql x0 x1 x2  (Zlj x0 x1 x2  m) v0 v1 v2
def Zu7 (x0:Int) (x1:Int) (x2:Int):Option Bool:=
 (Zh3 x0 x1 x2).bind λr0=>
 Zlj x0 x1 x2 FU r0 (r0.length:Int) 0
def Zpu (x0:Int):Option Int:=
 (J7 x0).bind λr0=>
 if decide (r0=0)=true then (
  some 0)
 else (
  (J7 x0).bind λr1=>
  (nnI (Jt 8 r1)).bind λn0=>
  some (Yez 1 (Jt 8 r1)))
def Zd8 (x0:Int) (x1:Int):Option Bool:=
 (Zpu x1).bind λr0=>
 (Yp x0 0 (Xa r0 1)).bind λr1=>
 some r1
def Zu5 (x0:Int) (x1:Zi):Option Bool:=
 (Zd8 x0 x1.size).bind λr0=>
 some (!r0)
def Zh5 (x0:List Int) (x1c0:Zi)  (k:Int->Option Int) (v0:Int):Option Int:=
 if decide (v0 < (x0.length:Int))=true then (
  (idx x0 v0).bind λa0=>
  (Zu5 a0 x1c0).bind λr0=>
  if r0=true then (
   some v0)
  else (
   k (Zs v0 1)))
 else (
  some (-1))
def Q7 (x0:List Int) (x1c0:Zi)  : Nat->Int->Option Int
 | 0,_=>none
 | m+1,v0=>Zh5 x0 x1c0  (Q7 x0 x1c0  m) v0
def K7 (x0:List Int) (x1c0:Zi):Option Int:=
 Q7 x0 x1c0 FU 0
def Wr (x0:List Int) (x1c0:Zi):Option Bool:=
 (K7 x0 x1c0).bind λr0=>
 some (decide (r0≥0))
def Zqg (x0:Zi)  (v0:Int):Option Bool:=
 (Zu7 x0.addr x0.size x0.burst).bind λr0=>
 if r0=true then (
  if decide ((x0.data_.length:Int)=v0)=true then (
   (Wr x0.data_ x0).bind λr1=>
   some (!r1))
  else (
   some false))
 else (
  some false)
def Znj (x0:Zi):Option Bool:=
 if x0.write=true then (
  (Zgt x0.burst).bind λr2=>
  Zqg x0 r2)
 else (
  Zqg x0 0)
def Xd (x0:List Int):Option (List Int):=X1 8 [] x0
def Ziv (x0:Zi):Option Zi:=
 (Xd x0.data_).bind λr0=>
 some {x0 with data_:=r0}
def Yfs (x0:Zb)  (k:(List Zi)->Int->Option Zb) (v0:List Zi) (v1:Int):Option Zb:=
 if decide (v1 < (x0.queue.length:Int))=true then (
  (idx x0.queue v1).bind λa0=>
  (Ziv a0).bind λr0=>
  (X1 64 v0 [r0]).bind λz0=>
  k z0 (Zs v1 1))
 else (
  some {x0 with queue:=v0})
def Zoc (x0:Zb)  : Nat->(List Zi)->Int->Option Zb
 | 0,_,_=>none
 | m+1,v0,v1=>Yfs x0  (Zoc x0  m) v0 v1
def Zf3 (x0:Zb):Option Zb:=
 Zoc x0 FU [] 0
def Js (x0:List Zf):Option (List Zf):=X1 16 [] x0
def Zst (x0:Zn):Option Zn:=
 (Xd x0.regs).bind λr0=>
 (Xd x0.fifo).bind λr1=>
 some (Zn.mk r0 x0.timer r1)
def Zhz (x0:Zj):Option Zj:=
 (Xd x0.mem).bind λr0=>
 (Zst x0.dev).bind λr1=>
 some (Zj.mk r0 r1)
def Za6 (x0:List Zr):Option (List Zr):=X1 56 [] x0
def Zll (x0:Za)  (k:Za->(List Zb)->Int->Option Za) (vb0:Za) (v0:List Zb) (v1:Int):Option Za:=
 if decide (v1 < (x0.m.length:Int))=true then (
  (idx x0.m v1).bind λa0=>
  (Zf3 a0).bind λr0=>
  (X1 56 v0 [r0]).bind λz0=>
  k vb0 z0 (Zs v1 1))
 else (
  (Js vb0.buckets).bind λr1=>
  (Xd vb0.splits).bind λr2=>
  (Zhz vb0.model).bind λr3=>
  (Za6 vb0.log).bind λr4=>
  some {vb0 with m:=v0,buckets:=r1,splits:=r2,model:=r3,log:=r4})
def Zh6 (x0:Za)  : Nat->Za->(List Zb)->Int->Option Za
 | 0,_,_,_=>none
 | m+1,vb0,v0,v1=>Zll x0  (Zh6 x0  m) vb0 v0 v1
def Zsw (x0:Za):Option Za:=
 (Zpc x0.conf).bind λr5=>
 Zh6 x0 FU {x0 with conf:=r5} [] 0
def Zf9 (x0:Zi):Option Bool:=
 (Znj x0).bind λr0=>
 some (!r0)
def Zee (x0:List Zi)  (k:Int->Option Int) (v0:Int):Option Int:=
 if decide (v0 < (x0.length:Int))=true then (
  (idx x0 v0).bind λa0=>
  (Zf9 a0).bind λr0=>
  if r0=true then (
   some v0)
  else (
   k (Zs v0 1)))
 else (
  some (-1))
def W0 (x0:List Zi)  : Nat->Int->Option Int
 | 0,_=>none
 | m+1,v0=>Zee x0  (W0 x0  m) v0
def Qm (x0:List Zi):Option Int:=
 W0 x0 FU 0
def X2 (x0:List Zi):Option Bool:=
 (Qm x0).bind λr0=>
 some (decide (r0≥0))
def Zbw (x0:Zb):Option Int:=
 if decide ((x0.queue.length:Int)=0)=true then (
  some 0)
 else (
  (idx x0.queue 0).bind λa0=>
  (Zgt a0.burst).bind λr0=>
  some r0)
def Wt (x0:Zb)  (v0:Bool):Option Bool:=
 if v0=true then (
  some false)
 else (
  if decide ((x0.queue.length:Int)=0)=true then (
   if decide (x0.beat=0)=true then (
    if decide (x0.done=0)=true then (
     if decide (x0.tries=0)=true then (
      if (!x0.parted)=true then (
       some (!x0.broken))
      else (
       some false))
     else (
      some false))
    else (
     some false))
   else (
    some false))
  else (
   (Zbw x0).bind λr0=>
   (Yp x0.done 0 (Xa r0 1)).bind λr1=>
   if r1=true then (
    (Zbw x0).bind λr2=>
    (Yp x0.beat x0.done (Zji (Zs x0.done 2) r2)).bind λr3=>
    some r3)
   else (
    some false)))
def Kp (x0:Zb):Option Bool:=
 if decide ((x0.queue.length:Int) > 4)=true then (
  Wt x0 true)
 else (
  if decide (x0.tries < 0)=true then (
   Wt x0 true)
  else (
   (X2 x0.queue).bind λr4=>
   Wt x0 r4))
def Zm7 (x0:Zf) (x1:Zc):Option Bool:=
 if (!x1.prio)=true then (
  some (decide (x0.tokens=0)&&(decide (x0.count=0)&&true)))
 else (
  (Yp x0.tokens 0 x1.cap).bind λr0=>
  if r0=true then (
   if decide (x0.count≥0)=true then (
    some (decide (x0.count < x1.every)))
   else (
    some false))
  else (
   some false))
def Zb3 (x0:Za)  (k:Int->Option Bool) (v0:Int):Option Bool:=
 if decide (v0 < (x0.m.length:Int))=true then (
  (idx x0.m v0).bind λa0=>
  (Kp a0).bind λr0=>
  if (!r0)=true then (
   some false)
  else (
   if decide (a0.tries > x0.conf.maxRetry)=true then (
    some false)
   else (
    (idx x0.buckets v0).bind λa1=>
    (idx x0.conf.masters v0).bind λa2=>
    (Zm7 a1 a2).bind λr1=>
    if (!r1)=true then (
     some false)
    else (
     (idx x0.splits v0).bind λa3=>
     (Yp a3 0 x0.conf.maxSplit).bind λr2=>
     if (!r2)=true then (
      some false)
     else (
      k (Zs v0 1))))))
 else (
  some true)
def Zgr (x0:Za)  : Nat->Int->Option Bool
 | 0,_=>none
 | m+1,v0=>Zb3 x0  (Zgr x0  m) v0
def Qn (x0:Za)  (v1:Bool):Option Bool:=
 if v1=true then (
  some false)
 else (
  Zgr x0 FU 0)
def Zf4 (x0:Za):Option Bool:=
 if decide ((x0.m.length:Int)≠(x0.conf.masters.length:Int))=true then (
  Qn x0 true)
 else (
  if decide ((x0.buckets.length:Int)≠(x0.conf.masters.length:Int))=true then (
   Qn x0 true)
  else (
   Qn x0 (decide ((x0.splits.length:Int)≠(x0.conf.masters.length:Int)))))
def Q1 (x0:Zh) (x1:Int):Option Bool:=
 (Yp x1 0 (Xa (x0.masters.length:Int) 1)).bind λr0=>
 some r0
def Zun (x0:Zh) (x1:Int)  (v0:Bool):Option Int:=
 if v0=true then (
  some 0)
 else (
  (idx x0.masters x1).bind λa0=>
  some (Jt a0.weight x0.quantum))
def Zn4 (x0:Zh) (x1:Int):Option Int:=
 (Zf7 x0).bind λr0=>
 if (!r0)=true then (
  Zun x0 x1 true)
 else (
  (Q1 x0 x1).bind λr1=>
  Zun x0 x1 (!r1))
def Zmo (x0:Z5) (x1:Zh):Option Bool:=
 (Zf7 x1).bind λr0=>
 if r0=true then (
  (Q1 x1 x0.at_).bind λr1=>
  if r1=true then (
   (Zn4 x1 x0.at_).bind λr2=>
   (Yp x0.credit 0 r2).bind λr3=>
   some r3)
  else (
   some false))
 else (
  some false)
def Zyb (x0:Int):Option Bool:=
 (Yp x0 0 255).bind λr0=>
 some (!r0)
def Zii (x0:List Int)  (k:Int->Option Int) (v0:Int):Option Int:=
 if decide (v0 < (x0.length:Int))=true then (
  (idx x0 v0).bind λa0=>
  (Zyb a0).bind λr0=>
  if r0=true then (
   some v0)
  else (
   k (Zs v0 1)))
 else (
  some (-1))
def Kj (x0:List Int)  : Nat->Int->Option Int
 | 0,_=>none
 | m+1,v0=>Zii x0  (Kj x0  m) v0
def Jf (x0:List Int):Option Int:=
 Kj x0 FU 0
def Wy (x0:List Int):Option Bool:=
 (Jf x0).bind λr0=>
 some (decide (r0≥0))
def Zum (x0:List Int) (x1:Int) (x2:Int):Option Bool:=
 if decide ((x0.length:Int)<=512)=true then (
  (Wy x0).bind λr0=>
  if (!r0)=true then (
   (Zgp x1 x2).bind λr1=>
   if r1=true then (
    (J7 x2).bind λr2=>
    some (decide (x1<=(Xa (x0.length:Int) r2))))
   else (
    some false))
  else (
   some false))
 else (
  some false)
def Zvq (x0:Int):Option Bool:=
 (Zd8 x0 2).bind λr0=>
 some (!r0)
def Zhq (x0:List Int)  (k:Int->Option Int) (v0:Int):Option Int:=
 if decide (v0 < (x0.length:Int))=true then (
  (idx x0 v0).bind λa0=>
  (Zvq a0).bind λr0=>
  if r0=true then (
   some v0)
  else (
   k (Zs v0 1)))
 else (
  some (-1))
def Q8 (x0:List Int)  : Nat->Int->Option Int
 | 0,_=>none
 | m+1,v0=>Zhq x0  (Q8 x0  m) v0
def K6 (x0:List Int):Option Int:=
 Q8 x0 FU 0
def Xy (x0:List Int):Option Bool:=
 (K6 x0).bind λr0=>
 some (decide (r0≥0))
def Zwq (x0:Zn):Option Bool:=
 if decide ((x0.regs.length:Int)=4)=true then (
  if decide ((x0.fifo.length:Int)<=4)=true then (
   (Xy x0.regs).bind λr0=>
   if (!r0)=true then (
    (Xy x0.fifo).bind λr1=>
    if (!r1)=true then (
     (Zd8 x0.timer 2).bind λr2=>
     some r2)
    else (
     some false))
   else (
    some false))
  else (
   some false))
 else (
  some false)
def Zgy (x0:Zj):Option Bool:=
 if decide ((x0.mem.length:Int)=192)=true then (
  (Zum x0.mem 0 0).bind λr0=>
  if r0=true then (
   (Zwq x0.dev).bind λr1=>
   some r1)
  else (
   some false))
 else (
  some false)
def Znz (x0:Zg):Option Bool:=
 some (!x0.live)
def Zfe (x0:List Zg)  (k:Int->Option Int) (v0:Int):Option Int:=
 if decide (v0 < (x0.length:Int))=true then (
  (idx x0 v0).bind λa0=>
  (Znz a0).bind λr0=>
  if r0=true then (
   some v0)
  else (
   k (Zs v0 1)))
 else (
  some (-1))
def Qe (x0:List Zg)  : Nat->Int->Option Int
 | 0,_=>none
 | m+1,v0=>Zfe x0  (Qe x0  m) v0
def Q0 (x0:List Zg):Option Int:=
 Qe x0 FU 0
def Zep (x0:List Zg)  (k:(List Zg)->Int->Int->Option (List Zg)) (v0:List Zg) (v1:Int) (v2:Int):Option (List Zg):=
 if decide (v2 < (v0.length:Int))=true then (
  (idx v0 v2).bind λa0=>
  (Znz a0).bind λr0=>
  if (!r0)=true then (
   (idx v0 v1).bind λa1=>
   (Qo v0 v1 a0).bind λy0=>
   k y0 (Zs v1 1) (Zs v2 1))
  else (
   k v0 v1 (Zs v2 1)))
 else (
  (J6 v0 v1 (v0.length:Int)).bind λs0=>
  (Z23 Zg.z0 v0 v1 (v0.length:Int)).bind λy1=>
  (J6 y1 0 v1).bind λs1=>
  some s1)
def W9 (x0:List Zg)  : Nat->(List Zg)->Int->Int->Option (List Zg)
 | 0,_,_,_=>none
 | m+1,v0,v1,v2=>Zep x0  (W9 x0  m) v0 v1 v2
def Wk (x0:List Zg):Option (List Zg):=
 (Q0 x0).bind λr1=>
 if decide (r1=(-1))=true then (
  some x0)
 else (
  W9 x0 FU x0 r1 (Zs r1 1))
def Zr6 (x0:Za):Option (List Zg):=
 (Wk [x0.addr,x0.data_]).bind λr0=>
 some r0
def Kn (x0:Za) (k_L1:(List Int)->(List Zg)->Int->Int->Option Bool) (vb0:Zg) (v0:List Int) (v1:List Zg) (v2:Int) (v3:Int) (v4:Bool):Option Bool:=
 if v4=true then (
  some false)
 else (
  (idx v0 vb0.who).bind λa0=>
  (Qo v0 vb0.who (Zs a0 1)).bind λy0=>
  k_L1 y0 v1 v2 (Zs v3 1))
def Qj (x0:Za)  (v5:Bool):Option Bool:=
 if v5=true then (
  some false)
 else (
  if (!x0.data_.second)=true then (
   some true)
  else (
   if decide (x0.data_.left=0)=true then (
    if decide (x0.data_.resp≠0)=true then (
     some (!x0.addr.live))
    else (
     some false))
   else (
    some false)))
def Zbk (x0:Za)  (vb1:Zb) (v6:Bool):Option Bool:=
 if v6=true then (
  some false)
 else (
  if decide (x0.data_.resp=3)=true then (
   if vb1.parted=true then (
    Qj x0 true)
   else (
    Qj x0 (decide (x0.data_.who=x0.holder))))
  else (
   Qj x0 false))
def Ju (x0:Za)  (vb1:Zb) (v7:Bool):Option Bool:=
 if v7=true then (
  some false)
 else (
  if decide (x0.data_.resp=2)=true then (
   Zbk x0 vb1 (decide (vb1.tries≥x0.conf.maxRetry)))
  else (
   Zbk x0 vb1 false))
def Xg (x0:Za)  (v8:Bool):Option Bool:=
 if v8=true then (
  some false)
 else (
  if (!x0.data_.live)=true then (
   some ((x0.data_.live == false)&&(decide (x0.data_.who=0)&&(decide (x0.data_.beat=0)&&((x0.data_.first == false)&&(decide (x0.data_.by_=0)&&(decide (x0.data_.left=0)&&(decide (x0.data_.resp=0)&&((x0.data_.second == false)&&true)))))))))
  else (
   (idx x0.m x0.data_.who).bind λa1=>
   if decide (x0.data_.beat≠a1.done)=true then (
    Ju x0 a1 true)
   else (
    (Yp x0.data_.left 0 (Zs x0.conf.maxWait 2)).bind λr0=>
    if (!r0)=true then (
     Ju x0 a1 true)
    else (
     (Yp x0.data_.resp 0 3).bind λr1=>
     Ju x0 a1 (!r1)))))
def Wp (x0:Za)  (k:(List Int)->Int->Option Bool) (v0:List Int) (v9:Int):Option Bool:=
 if decide (v9 < (x0.m.length:Int))=true then (
  (idx x0.m v9).bind λa2=>
  (idx v0 v9).bind λa3=>
  if decide ((Xa a2.beat a2.done)≠a3)=true then (
   some false)
  else (
   k v0 (Zs v9 1)))
 else (
  if x0.addr.live=true then (
   (idx x0.m x0.addr.who).bind λa4=>
   if decide (x0.addr.beat≠(Xa a4.beat 1))=true then (
    Xg x0 true)
   else (
    if decide (x0.addr.left≠0)=true then (
     Xg x0 true)
    else (
     if decide (x0.addr.resp≠0)=true then (
      Xg x0 true)
     else (
      if x0.addr.second=true then (
       Xg x0 true)
      else (
       if (!x0.addr.live)=true then (
        Xg x0 (!((x0.addr.live == false)&&(decide (x0.addr.who=0)&&(decide (x0.addr.beat=0)&&((x0.addr.first == false)&&(decide (x0.addr.by_=0)&&(decide (x0.addr.left=0)&&(decide (x0.addr.resp=0)&&((x0.addr.second == false)&&true))))))))))
       else (
        Xg x0 false))))))
  else (
   if (!x0.addr.live)=true then (
    Xg x0 (!((x0.addr.live == false)&&(decide (x0.addr.who=0)&&(decide (x0.addr.beat=0)&&((x0.addr.first == false)&&(decide (x0.addr.by_=0)&&(decide (x0.addr.left=0)&&(decide (x0.addr.resp=0)&&((x0.addr.second == false)&&true))))))))))
   else (
    Xg x0 false)))
def Zbm (x0:Za)  : Nat->(List Int)->Int->Option Bool
 | 0,_,_=>none
 | m+1,v0,v9=>Wp x0  (Zbm x0  m) v0 v9
def Wn (x0:Za)  (k:(List Int)->(List Zg)->Int->Int->Option Bool) (v0:List Int) (v1:List Zg) (v2:Int) (v3:Int):Option Bool:=
 if decide (v3 < v2)=true then (
  (idx v1 v3).bind λa5=>
  (Q1 x0.conf a5.who).bind λr2=>
  if (!r2)=true then (
   Kn x0 k a5 v0 v1 v2 v3 true)
  else (
   (Yp a5.by_ 1 3).bind λr3=>
   if (!r3)=true then (
    Kn x0 k a5 v0 v1 v2 v3 true)
   else (
    (idx x0.splits a5.who).bind λa6=>
    Kn x0 k a5 v0 v1 v2 v3 (decide (a6≠0)))))
 else (
  Zbm x0 FU v0 0)
def Zdv (x0:Za)  : Nat->(List Int)->(List Zg)->Int->Int->Option Bool
 | 0,_,_,_,_=>none
 | m+1,v0,v1,v2,v3=>Wn x0  (Zdv x0  m) v0 v1 v2 v3
def Zcg (x0:Za):Option Bool:=
 (mkI 8 (x0.m.length:Int) 0).bind λm0=>
 (Zr6 x0).bind λr4=>
 Zdv x0 FU m0 r4 (r4.length:Int) 0
def Zq6 (x0:Zb):Option Bool:=
 if decide ((x0.queue.length:Int) > 0)=true then (
  (idx x0.queue 0).bind λa0=>
  if a0.lock=true then (
   some (!x0.broken))
  else (
   some false))
 else (
  some false)
def Ze9 (x0:Za)  (k:Int->Option Bool) (v0:Int):Option Bool:=
 if decide (v0 < (x0.m.length:Int))=true then (
  (idx x0.m v0).bind λa0=>
  if decide (a0.beat > 0)=true then (
   (Zq6 a0).bind λr0=>
   if r0=true then (
    if decide (x0.holder≠v0)=true then (
     some false)
    else (
     k (Zs v0 1)))
   else (
    k (Zs v0 1)))
  else (
   k (Zs v0 1)))
 else (
  if decide (x0.holder=(-1))=true then (
   some (decide (x0.held=0)))
  else (
   (Q1 x0.conf x0.holder).bind λr1=>
   if r1=true then (
    (idx x0.m x0.holder).bind λa1=>
    (Zq6 a1).bind λr2=>
    if r2=true then (
     (idx x0.splits x0.holder).bind λa2=>
     if decide (a2=0)=true then (
      (Yp x0.held 0 x0.conf.lockMost).bind λr3=>
      some r3)
     else (
      some false))
    else (
     some false))
   else (
    some false)))
def Zne (x0:Za)  : Nat->Int->Option Bool
 | 0,_=>none
 | m+1,v0=>Ze9 x0  (Zne x0  m) v0
def Zef (x0:Za):Option Bool:=
 Zne x0 FU 0
def Zde (x0:Za)  (k:Int->Int->Option Bool) (v0:Int) (v1:Int):Option Bool:=
 if decide (v1 < (x0.log.length:Int))=true then (
  (idx x0.log v1).bind λa0=>
  if decide (a0.cycle<=v0)=true then (
   some false)
  else (
   if decide (a0.cycle≥x0.now)=true then (
    some false)
   else (
    (Q1 x0.conf a0.who).bind λr0=>
    if (!r0)=true then (
     some false)
    else (
     (Zgp a0.addr a0.size).bind λr1=>
     if (!r1)=true then (
      some false)
     else (
      if decide (a0.addr≥512)=true then (
       some false)
      else (
       (Zd8 a0.value a0.size).bind λr2=>
       if (!r2)=true then (
        some false)
       else (
        if decide (a0.resp≠0)=true then (
         if decide (a0.resp≠1)=true then (
          some false)
         else (
          k a0.cycle (Zs v1 1)))
        else (
         k a0.cycle (Zs v1 1)))))))))
 else (
  some true)
def Zd0 (x0:Za)  : Nat->Int->Int->Option Bool
 | 0,_,_=>none
 | m+1,v0,v1=>Zde x0  (Zd0 x0  m) v0 v1
def Zcc (x0:Za):Option Bool:=
 Zd0 x0 FU (-1) 0
def Zq2 (x0:Za):Option Bool:=
 (Zf7 x0.conf).bind λr0=>
 if r0=true then (
  (Yp x0.now 0 4000).bind λr1=>
  if r1=true then (
   (Zf4 x0).bind λr2=>
   if r2=true then (
    (Zmo x0.arb x0.conf).bind λr3=>
    if r3=true then (
     if decide (x0.last=(-1))=true then (
      (Zgy x0.model).bind λr4=>
      if r4=true then (
       (Yp x0.picks 0 x0.now).bind λr5=>
       if r5=true then (
        (Zcg x0).bind λr6=>
        if r6=true then (
         (Zef x0).bind λr7=>
         if r7=true then (
          (Zcc x0).bind λr8=>
          some r8)
         else (
          some false))
        else (
         some false))
       else (
        some false))
      else (
       some false))
     else (
      (Q1 x0.conf x0.last).bind λr9=>
      if r9=true then (
       (Zgy x0.model).bind λr4=>
       if r4=true then (
        (Yp x0.picks 0 x0.now).bind λr5=>
        if r5=true then (
         (Zcg x0).bind λr6=>
         if r6=true then (
          (Zef x0).bind λr7=>
          if r7=true then (
           (Zcc x0).bind λr8=>
           some r8)
          else (
           some false))
         else (
          some false))
        else (
         some false))
       else (
        some false))
      else (
       some false)))
    else (
     some false))
   else (
    some false))
  else (
   some false))
 else (
  some false)
def Zly (x0:Zb) (x1:Int)  (v0:Bool):Option Int:=
 if v0=true then (
  some (-1))
 else (
  (idx x0.queue 0).bind λa0=>
  (Zh3 a0.addr a0.size a0.burst).bind λr0=>
  (idx r0 x1).bind λa1=>
  some a1)
def Zd5 (x0:Zb) (x1:Int):Option Int:=
 (Kp x0).bind λr1=>
 if (!r1)=true then (
  Zly x0 x1 true)
 else (
  (Zbw x0).bind λr2=>
  (Yp x1 0 (Xa r2 1)).bind λr3=>
  Zly x0 x1 (!r3))
def Zjj (x0:Ze) (x1:Int)  (k:(List Zl)->Int->Option (List Zl)) (v0:List Zl) (v1:Int):Option (List Zl):=
 if decide (v1 < (x0.posts.length:Int))=true then (
  (idx x0.posts v1).bind λa0=>
  if decide (a0.at_=x1)=true then (
   (Ziv a0.req).bind λr0=>
   (X1 80 v0 [{a0 with req:=r0}]).bind λz0=>
   k z0 (Zs v1 1))
  else (
   k v0 (Zs v1 1)))
 else (
  some v0)
def Zk4 (x0:Ze) (x1:Int)  : Nat->(List Zl)->Int->Option (List Zl)
 | 0,_,_=>none
 | m+1,v0,v1=>Zjj x0 x1  (Zk4 x0 x1  m) v0 v1
def Zvl (x0:Ze) (x1:Int):Option (List Zl):=
 Zk4 x0 x1 FU [] 0
def Zfs (x0:Zb) (x1:Zi)  (vb0:Zb) (v0:Bool):Option (Zb×Bool):=
 if v0=true then (
  some (vb0,false))
 else (
  (Ziv x1).bind λr0=>
  (X1 64 vb0.queue [r0]).bind λz0=>
  some ({vb0 with queue:=z0},true))
def Zu3 (x0:Zb) (x1:Zi):Option (Zb×Bool):=
 (Zf3 x0).bind λr1=>
 (Kp x0).bind λr2=>
 if (!r2)=true then (
  Zfs x0 x1 r1 true)
 else (
  (Znj x1).bind λr3=>
  if (!r3)=true then (
   Zfs x0 x1 r1 true)
  else (
   Zfs x0 x1 r1 (decide ((x0.queue.length:Int)=4))))
def Zno (x0:Zf) (x1:Zc):Option Bool:=
 if x1.prio=true then (
  (Zm7 x0 x1).bind λr0=>
  some r0)
 else (
  some false)
def Zot (x0:Zf) (x1:Zc):Option Zf:=
 (Zno x0 x1).bind λr0=>
 if (!r0)=true then (
  some x0)
 else (
  if decide ((Zs x0.count 1)=x1.every)=true then (
   some (Zf.mk (Zji (Zs x0.tokens 1) x1.cap) 0))
  else (
   some (Zf.mk x0.tokens (Zs x0.count 1))))
def Zl1 (x0:Zb)  (vb0:Zb) (v0:Bool):Option (Zb×Bool):=
 if v0=true then (
  some (vb0,false))
 else (
  some ({vb0 with beat:=(Xa vb0.beat 1)},true))
def Zve (x0:Zb):Option (Zb×Bool):=
 (Zf3 x0).bind λr0=>
 (Kp x0).bind λr1=>
 if (!r1)=true then (
  Zl1 x0 r0 true)
 else (
  Zl1 x0 r0 (decide (x0.beat=x0.done)))
def Zoi (x0:Zf) (x1:Zc):Option Zf:=
 (Zno x0 x1).bind λr0=>
 if r0=true then (
  if decide (x0.tokens < x1.cap)=true then (
   some (Zf.mk (Zs x0.tokens 1) x0.count))
  else (
   some x0))
 else (
  some x0)
def Zkl (x0:Z5) (x1:Zh) (x2:Int)  (v0:Bool):Option Z5:=
 if v0=true then (
  (Zn4 x1 x2).bind λr0=>
  some (Z5.mk x0.at_ (Zji (Zs x0.credit 1) r0)))
 else (
  some x0)
def Zvn (x0:Z5) (x1:Zh) (x2:Int):Option Z5:=
 (Zmo x0 x1).bind λr1=>
 if r1=true then (
  Zkl x0 x1 x2 (decide (x2=x0.at_)))
 else (
  Zkl x0 x1 x2 false)
def Zei (x0:Za) (x1:Zg):Option Za:=
 (idx x0.m x1.who).bind λa0=>
 (Zve a0).bind λr0=>
 (Qo x0.m x1.who r0.1).bind λy0=>
 if decide (x1.by_=1)=true then (
  (idx x0.buckets x1.who).bind λa1=>
  (idx x0.conf.masters x1.who).bind λa2=>
  (Zoi a1 a2).bind λr1=>
  (Qo x0.buckets x1.who r1).bind λy1=>
  some {x0 with m:=y0,buckets:=y1})
 else (
  if decide (x1.by_=2)=true then (
   (Zvn x0.arb x0.conf x1.who).bind λr2=>
   some {x0 with m:=y0,arb:=r2})
  else (
   some {x0 with m:=y0}))
def Zky (x0:List Int) (x1:Int)  (v0:Bool):Option Int:=
 if v0=true then (
  some 0)
 else (
  (nzI (x0.length:Int)).bind λn0=>
  (idx x0 (Zay x1 (x0.length:Int))).bind λa0=>
  some a0)
def Zkc (x0:List Int) (x1:Int):Option Int:=
 if decide ((x0.length:Int)=0)=true then (
  Zky x0 x1 true)
 else (
  Zky x0 x1 (decide (x1 < 0)))
def Zva (x0:Zh) (x1:Ze) (x2:Int):Option Int:=
 (Zkc x1.waits x2).bind λr0=>
 some (Z0u 1 (Zji (Zs (Z0u 0 (Zji r0 99)) 1) x0.maxSplit))
def Zn5 (x0:Zb) (x1:Int):Option Int:=
 (idx x0.queue 0).bind λa0=>
 if a0.write=true then (
  (idx a0.data_ x1).bind λa1=>
  some a1)
 else (
  some 0)
def Zl0 (x0:Int)  (v0:Bool):Option Int:=
 if v0=true then (
  some 0)
 else (
  if decide (x0 < 128)=true then (
   some 1)
  else (
   if decide (x0 < 192)=true then (
    some 2)
   else (
    some 3)))
def Zpi (x0:Int):Option Int:=
 if decide (x0 < 0)=true then (
  Zl0 x0 true)
 else (
  Zl0 x0 (decide (x0≥224)))
def Zj1 (x0:Zn) (x1:Bool) (x2:Int) (x3:Int)  (vb0:Zn) (v0:Bool):Option (Zn×Int×Bool):=
 if v0=true then (
  some (vb0,0,false))
 else (
  if x1=true then (
   (idx vb0.regs (Zrx x2 4)).bind λa0=>
   (Qo vb0.regs (Zrx x2 4) x3).bind λy0=>
   some ({vb0 with regs:=y0},x3,true))
  else (
   (idx x0.regs (Zrx x2 4)).bind λa1=>
   some (vb0,a1,true)))
def Zj6 (x0:Zn) (x1:Bool) (x2:Int) (x3:Int)  (vb0:Zn) (v1:Bool):Option (Zn×Int×Bool):=
 if v1=true then (
  (idx x0.fifo 0).bind λa2=>
  (J6 x0.fifo 1 (x0.fifo.length:Int)).bind λs0=>
  (Xd s0).bind λr0=>
  some ({vb0 with fifo:=r0},a2,true))
 else (
  if decide (x2≥16)=true then (
   Zj1 x0 x1 x2 x3 vb0 true)
  else (
   if decide (x2 < 0)=true then (
    Zj1 x0 x1 x2 x3 vb0 true)
   else (
    Zj1 x0 x1 x2 x3 vb0 (decide ((Zay x2 4)≠0)))))
def Zj2 (x0:Zn) (x1:Bool) (x2:Int) (x3:Int)  (vb0:Zn) (v2:Bool):Option (Zn×Int×Bool):=
 if v2=true then (
  (X1 8 vb0.fifo [x3]).bind λz0=>
  some ({vb0 with fifo:=z0},x3,true))
 else (
  if decide (x2=20)=true then (
   if (!x1)=true then (
    Zj6 x0 x1 x2 x3 vb0 (decide ((x0.fifo.length:Int) > 0)))
   else (
    Zj6 x0 x1 x2 x3 vb0 false))
  else (
   Zj6 x0 x1 x2 x3 vb0 false))
def Zp3 (x0:Zn) (x1:Bool) (x2:Int) (x3:Int)  (vb0:Zn) (v3:Bool):Option (Zn×Int×Bool):=
 if v3=true then (
  some ({vb0 with timer:=x3},x3,true))
 else (
  if decide (x2=16)=true then (
   (Zpu 2).bind λr1=>
   (nzI r1).bind λn0=>
   some ({vb0 with timer:=(Zay (Zs x0.timer 1) r1)},x0.timer,true))
  else (
   if decide (x2=20)=true then (
    if x1=true then (
     Zj2 x0 x1 x2 x3 vb0 (decide ((x0.fifo.length:Int) < 4)))
    else (
     Zj2 x0 x1 x2 x3 vb0 false))
   else (
    Zj2 x0 x1 x2 x3 vb0 false)))
def Zdl (x0:Zn) (x1:Bool) (x2:Int) (x3:Int)  (vb0:Zn) (v4:Bool):Option (Zn×Int×Bool):=
 if v4=true then (
  some (vb0,0,false))
 else (
  if decide (x2=16)=true then (
   Zp3 x0 x1 x2 x3 vb0 x1)
  else (
   Zp3 x0 x1 x2 x3 vb0 false))
def Z1y (x0:Zn) (x1:Bool) (x2:Int) (x3:Int):Option (Zn×Int×Bool):=
 (Zst x0).bind λr2=>
 (Zwq x0).bind λr3=>
 if (!r3)=true then (
  Zdl x0 x1 x2 x3 r2 true)
 else (
  if x1=true then (
   (Zd8 x3 2).bind λr4=>
   Zdl x0 x1 x2 x3 r2 (!r4))
  else (
   Zdl x0 x1 x2 x3 r2 false))
def Zfy (x0:List Int) (x1:Int) (x2:Int) (x3:Int)  (k:(List Int)->Int->Int->Option (List Int×Bool)) (v0:List Int) (v1:Int) (v2:Int):Option (List Int×Bool):=
 if decide (v2 < v1)=true then (
  (nnI (Jt 8 v2)).bind λn0=>
  (idx v0 (Zs x1 v2)).bind λa0=>
  (Qo v0 (Zs x1 v2) (andW (shrW x3 (Jt 8 v2)) 255)).bind λy0=>
  k y0 v1 (Zs v2 1))
 else (
  some (v0,true))
def Zn1 (x0:List Int) (x1:Int) (x2:Int) (x3:Int)  : Nat->(List Int)->Int->Int->Option (List Int×Bool)
 | 0,_,_,_=>none
 | m+1,v0,v1,v2=>Zfy x0 x1 x2 x3  (Zn1 x0 x1 x2 x3  m) v0 v1 v2
def Zor (x0:List Int) (x1:Int) (x2:Int) (x3:Int)  (v0:List Int) (v3:Bool):Option (List Int×Bool):=
 if v3=true then (
  some (v0,false))
 else (
  (J7 x2).bind λr0=>
  Zn1 x0 x1 x2 x3 FU v0 r0 0)
def Zyi (x0:List Int) (x1:Int) (x2:Int) (x3:Int):Option (List Int×Bool):=
 (Xd x0).bind λr1=>
 (Zum x0 x1 x2).bind λr2=>
 if (!r2)=true then (
  Zor x0 x1 x2 x3 r1 true)
 else (
  (Zd8 x3 x2).bind λr3=>
  Zor x0 x1 x2 x3 r1 (!r3))
def Zgd (x0:List Int) (x1:Int) (x2:Int)  (k:Int->Int->Int->Option (Int×Bool)) (v0:Int) (v1:Int) (v2:Int):Option (Int×Bool):=
 if decide (v2 < v1)=true then (
  (idx x0 (Zs x1 v2)).bind λa0=>
  (nnI (Jt 8 v2)).bind λn0=>
  k (orW v0 (Yez a0 (Jt 8 v2))) v1 (Zs v2 1))
 else (
  some (v0,true))
def Zol (x0:List Int) (x1:Int) (x2:Int)  : Nat->Int->Int->Int->Option (Int×Bool)
 | 0,_,_,_=>none
 | m+1,v0,v1,v2=>Zgd x0 x1 x2  (Zol x0 x1 x2  m) v0 v1 v2
def Zxq (x0:List Int) (x1:Int) (x2:Int):Option (Int×Bool):=
 (Zum x0 x1 x2).bind λr0=>
 if (!r0)=true then (
  some (0,false))
 else (
  (J7 x2).bind λr1=>
  Zol x0 x1 x2 FU 0 r1 0)
def Zdg (x0:Zj) (x1:Bool) (x2:Int) (x3:Int) (x4:Int)  (vb0:Zj) (v0:Int) (v1:Bool):Option (Zj×Int×Int):=
 if (!v1)=true then (
  (Zhz x0).bind λr0=>
  some (r0,0,1))
 else (
  some (vb0,v0,0))
def Zk0 (x0:Zj) (x1:Bool) (x2:Int) (x3:Int) (x4:Int)  (vb0:Zj) (v2:Bool):Option (Zj×Int×Int):=
 if v2=true then (
  if x1=true then (
   (Zyi x0.mem x2 x3 x4).bind λr1=>
   Zdg x0 x1 x2 x3 x4 (Zj.mk r1.1 vb0.dev) x4 r1.2)
  else (
   (Zxq x0.mem x2 x3).bind λr2=>
   Zdg x0 x1 x2 x3 x4 vb0 r2.1 r2.2))
 else (
  Zdg x0 x1 x2 x3 x4 vb0 x4 false)
def Zku (x0:Zj) (x1:Bool) (x2:Int) (x3:Int) (x4:Int)  (vb0:Zj) (v3:Int) (v4:Bool):Option (Zj×Int×Int):=
 if v4=true then (
  (Z1y x0.dev x1 (Xa x2 192) x4).bind λr3=>
  Zdg x0 x1 x2 x3 x4 (Zj.mk vb0.mem r3.1) r3.2.1 r3.2.2)
 else (
  if decide (v3=1)=true then (
   Zk0 x0 x1 x2 x3 x4 vb0 true)
  else (
   Zk0 x0 x1 x2 x3 x4 vb0 (decide (v3=2))))
def K1 (x0:Zj) (x1:Bool) (x2:Int) (x3:Int) (x4:Int)  (vb0:Zj) (v5:Bool):Option (Zj×Int×Int):=
 if v5=true then (
  some (vb0,0,1))
 else (
  (Zpi x2).bind λr4=>
  if decide (r4=3)=true then (
   Zku x0 x1 x2 x3 x4 vb0 r4 (decide (x3=2)))
  else (
   Zku x0 x1 x2 x3 x4 vb0 r4 false))
def Zvh (x0:Zj) (x1:Bool) (x2:Int) (x3:Int) (x4:Int):Option (Zj×Int×Int):=
 (Zhz x0).bind λr5=>
 (Zgy x0).bind λr6=>
 if (!r6)=true then (
  K1 x0 x1 x2 x3 x4 r5 true)
 else (
  (Zgp x2 x3).bind λr7=>
  if (!r7)=true then (
   K1 x0 x1 x2 x3 x4 r5 true)
  else (
   if x1=true then (
    (Zd8 x4 x3).bind λr8=>
    K1 x0 x1 x2 x3 x4 r5 (!r8))
   else (
    K1 x0 x1 x2 x3 x4 r5 false)))
def Zsf (x0:Za) (x1:Zg):Option (Zj×Int×Int):=
 (idx x0.m x1.who).bind λa0=>
 (idx a0.queue 0).bind λa1=>
 (Zd5 a0 x1.beat).bind λr0=>
 (Zn5 a0 x1.beat).bind λr1=>
 (Zvh x0.model a1.write r0 a1.size r1).bind λr2=>
 some (r2.1,r2.2.1,r2.2.2)
def Znv (x0:Zb)  (vb0:Zb) (v0:Bool):Option (Zb×Bool):=
 if v0=true then (
  some (vb0,false))
 else (
  (Zbw {vb0 with done:=(Zs vb0.done 1)}).bind λr0=>
  if decide ((Zs vb0.done 1)=r0)=true then (
   (J6 vb0.queue 1 (vb0.queue.length:Int)).bind λs0=>
   some ((Zb.mk s0 0 0 0 false false),true))
  else (
   some ((Zb.mk vb0.queue vb0.beat (Zs vb0.done 1) 0 false vb0.broken),true)))
def Zx3 (x0:Zb):Option (Zb×Bool):=
 (Zf3 x0).bind λr1=>
 (Kp x0).bind λr2=>
 if (!r2)=true then (
  Znv x0 r1 true)
 else (
  Znv x0 r1 (decide (x0.beat=x0.done)))
def Zmh (x0:Za):Option Za:=
 some {x0 with holder:=(-1),held:=0}
def Zdx (x0:Za) (x1:Zg)  (vb0:Za) (vb1:Zb):Option Za:=
 (idx vb0.m x1.who).bind λa0=>
 (Qo vb0.m x1.who vb1).bind λy0=>
 some {vb0 with m:=y0}
def Zd1 (x0:Za) (x1:Zg)  (vb0:Za) (vb1:Zb) (v0:Bool):Option Za:=
 if v0=true then (
  (Zmh vb0).bind λr0=>
  Zdx x0 x1 r0 vb1)
 else (
  Zdx x0 x1 vb0 vb1)
def Zbi (x0:Za) (x1:Zg)  (vb0:Za) (vb1:Zb) (vb2:Zr):Option Za:=
 (X1 56 vb0.log [vb2]).bind λz0=>
 (Zx3 vb1).bind λr1=>
 if decide (vb0.holder=x1.who)=true then (
  Zd1 x0 x1 {vb0 with log:=z0} r1.1 (decide ((r1.1.queue.length:Int) < (vb1.queue.length:Int))))
 else (
  Zd1 x0 x1 {vb0 with log:=z0} r1.1 false)
def Zi0 (x0:Za) (x1:Zg):Option Za:=
 (idx x0.m x1.who).bind λa1=>
 (idx a1.queue 0).bind λa2=>
 (Zd5 a1 x1.beat).bind λr2=>
 if decide (x1.resp=0)=true then (
  (Zsf x0 x1).bind λr3=>
  Zbi x0 x1 {x0 with model:=r3.1} a1 (Zr.mk x0.now x1.who a2.write r2 a2.size r3.2.1 x1.resp))
 else (
  Zbi x0 x1 x0 a1 (Zr.mk x0.now x1.who a2.write r2 a2.size 0 x1.resp))
def Zfz (x0:Za) (x1:Ze) (x2:Zm)  (vb0:Za):Option (Bool×Za×Zm):=
 some (false,vb0,{x2 with resp:=x0.data_.resp})
def Zat (x0:Za) (x1:Ze) (x2:Zm)  (v0:Bool):Option (Bool×Za×Zm):=
 if v0=true then (
  if x0.addr.live=true then (
   (Zei {x0 with data_:={x0.data_ with second:=true}} x0.addr).bind λr0=>
   Zfz x0 x1 x2 {r0 with addr:=Zg.z0})
  else (
   Zfz x0 x1 x2 {x0 with data_:={x0.data_ with second:=true}}))
 else (
  if decide (x0.data_.resp=2)=true then (
   (idx x0.m x0.data_.who).bind λa0=>
   (Qo x0.m x0.data_.who {a0 with tries:=(Zs a0.tries 1)}).bind λy0=>
   (Zei {x0 with m:=y0,data_:=Zg.z0} x0.data_).bind λr1=>
   some (true,r1,{x2 with resp:=x0.data_.resp}))
  else (
   if decide (x0.data_.resp=3)=true then (
    (idx x0.m x0.data_.who).bind λa1=>
    (Qo x0.m x0.data_.who {a1 with parted:=true}).bind λy1=>
    (Zva x0.conf x1 x0.picks).bind λr2=>
    (idx x0.splits x0.data_.who).bind λa2=>
    (Qo x0.splits x0.data_.who r2).bind λy2=>
    (Zei {x0 with m:=y1,splits:=y2,data_:=Zg.z0} x0.data_).bind λr3=>
    some (true,r3,{x2 with resp:=x0.data_.resp}))
   else (
    (Zi0 {x0 with data_:=Zg.z0} x0.data_).bind λr4=>
    some (true,r4,{x2 with resp:=x0.data_.resp}))))
def Zom (x0:Za) (x1:Ze) (x2:Zm):Option (Bool×Za×Zm):=
 if (!x0.data_.live)=true then (
  some (true,x0,x2))
 else (
  if decide (x0.data_.left > 0)=true then (
   some (false,{x0 with data_:={x0.data_ with left:=(Xa x0.data_.left 1)}},x2))
  else (
   if decide (x0.data_.resp≠0)=true then (
    Zat x0 x1 x2 (!x0.data_.second))
   else (
    Zat x0 x1 x2 false)))
def Zxp (x0:Zh) (x1:Ze) (x2:Int):Option Int:=
 (Zkc x1.waits x2).bind λr0=>
 some (Z0u 0 (Zji r0 x0.maxWait))
def Zx8 (x0:Ze) (x1:Int):Option Int:=
 (Zkc x0.says x1).bind λr0=>
 if decide (r0=2)=true then (
  some r0)
 else (
  if decide (r0=3)=true then (
   some r0)
  else (
   some 0))
def Kd (x0:Za) (x1:Ze) (x2:Zg)  (vb0:Zb) (v0:Int) (v1:Int) (v2:Int) (v3:Int) (v4:Bool):Option (Int×Int):=
 if v4=true then (
  some (2,v2))
 else (
  if decide (v3=3)=true then (
   if decide (v0=2)=true then (
    if (!vb0.parted)=true then (
     if decide (x2.who≠x0.holder)=true then (
      some (3,v2))
     else (
      some (v1,v2)))
    else (
     some (v1,v2)))
   else (
    some (v1,v2)))
  else (
   some (v1,v2)))
def Zc5 (x0:Za) (x1:Ze) (x2:Zg)  (vb1:Zb) (v0:Int) (v1:Int) (v2:Int):Option (Int×Int):=
 (Zx8 x1 x0.picks).bind λr0=>
 if decide (r0=2)=true then (
  if decide (v0≠3)=true then (
   Kd x0 x1 x2 vb1 v0 v1 v2 r0 (decide (vb1.tries < x0.conf.maxRetry)))
  else (
   Kd x0 x1 x2 vb1 v0 v1 v2 r0 false))
 else (
  Kd x0 x1 x2 vb1 v0 v1 v2 r0 false)
def Jc (x0:Za) (x1:Ze) (x2:Zg)  (vb1:Zb) (v0:Int) (v5:Bool):Option (Int×Int):=
 if v5=true then (
  some (1,0))
 else (
  (Zsf x0 x2).bind λr1=>
  (Zxp x0.conf x1 x0.picks).bind λr2=>
  if decide (v0=3)=true then (
   Zc5 x0 x1 x2 vb1 v0 r1.2.2 (Zs r2 2))
  else (
   Zc5 x0 x1 x2 vb1 v0 r1.2.2 r2))
def Zn9 (x0:Za) (x1:Ze) (x2:Zg):Option (Int×Int):=
 (idx x0.m x2.who).bind λa0=>
 (Zd5 a0 x2.beat).bind λr3=>
 (Zpi r3).bind λr4=>
 if a0.broken=true then (
  Jc x0 x1 x2 a0 r4 true)
 else (
  Jc x0 x1 x2 a0 r4 (decide (r4=0)))
def Zl8 (x0:Zb):Option Bool:=
 (Kp x0).bind λr0=>
 if r0=true then (
  (Zbw x0).bind λr1=>
  some (decide (x0.beat < r1)))
 else (
  some false)
def Zf6 (x0:Zf) (x1:Zc)  (v0:Bool):Option (Zf×Bool):=
 if v0=true then (
  some (x0,false))
 else (
  some ((Zf.mk (Xa x0.tokens 1) x0.count),true))
def Zow (x0:Zf) (x1:Zc):Option (Zf×Bool):=
 (Zno x0 x1).bind λr0=>
 if (!r0)=true then (
  Zf6 x0 x1 true)
 else (
  Zf6 x0 x1 (decide (x0.tokens=0)))
def Zqh (x0:Z5) (x1:Zh) (x2:List Bool)  (k:Int->Option (Z5×Int)) (v0:Int):Option (Z5×Int):=
 if decide (v0<=(x1.masters.length:Int))=true then (
  (nzI (x1.masters.length:Int)).bind λn0=>
  (idx x2 (Zay (Zs x0.at_ v0) (x1.masters.length:Int))).bind λa0=>
  if a0=true then (
   (Zn4 x1 (Zay (Zs x0.at_ v0) (x1.masters.length:Int))).bind λr0=>
   some ((Z5.mk (Zay (Zs x0.at_ v0) (x1.masters.length:Int)) (Xa r0 1)),(Zay (Zs x0.at_ v0) (x1.masters.length:Int))))
  else (
   k (Zs v0 1)))
 else (
  some ((Z5.mk x0.at_ 0),(-1)))
def Zkr (x0:Z5) (x1:Zh) (x2:List Bool)  : Nat->Int->Option (Z5×Int)
 | 0,_=>none
 | m+1,v0=>Zqh x0 x1 x2  (Zkr x0 x1 x2  m) v0
def Zlz (x0:Z5) (x1:Zh) (x2:List Bool)  (v1:Bool):Option (Z5×Int):=
 if v1=true then (
  some ((Z5.mk x0.at_ (Xa x0.credit 1)),x0.at_))
 else (
  Zkr x0 x1 x2 FU 1)
def Zlt (x0:Z5) (x1:Zh) (x2:List Bool)  (v2:Bool):Option (Z5×Int):=
 if v2=true then (
  some (x0,(-1)))
 else (
  if decide (x0.credit > 0)=true then (
   (idx x2 x0.at_).bind λa1=>
   Zlz x0 x1 x2 a1)
  else (
   Zlz x0 x1 x2 false))
def Zvj (x0:Z5) (x1:Zh) (x2:List Bool):Option (Z5×Int):=
 (Zmo x0 x1).bind λr1=>
 if (!r1)=true then (
  Zlt x0 x1 x2 true)
 else (
  Zlt x0 x1 x2 (decide ((x2.length:Int)≠(x1.masters.length:Int))))
def Zds (x0:Za)  (k:(List Bool)->Int->Int->Option (Int×Int×Za)) (v0:List Bool) (v1:Int) (v2:Int):Option (Int×Int×Za):=
 if decide (v2 < v1)=true then (
  (idx v0 v2).bind λa0=>
  if (!a0)=true then (
   k v0 v1 (Zs v2 1))
  else (
   (idx x0.buckets v2).bind λa1=>
   (idx x0.conf.masters v2).bind λa2=>
   (Zow a1 a2).bind λr0=>
   if r0.2=true then (
    (Qo x0.buckets v2 r0.1).bind λy0=>
    some (v2,1,{x0 with buckets:=y0}))
   else (
    k v0 v1 (Zs v2 1))))
 else (
  if decide (x0.holder≠(-1))=true then (
   some ((-1),0,x0))
  else (
   (Zvj x0.arb x0.conf v0).bind λr1=>
   some (r1.2,2,{x0 with arb:=r1.1})))
def Ze3 (x0:Za)  : Nat->(List Bool)->Int->Int->Option (Int×Int×Za)
 | 0,_,_,_=>none
 | m+1,v0,v1,v2=>Zds x0  (Ze3 x0  m) v0 v1 v2
def Zi3 (x0:Za)  (v0:List Bool) (v3:Bool):Option (Int×Int×Za):=
 if v3=true then (
  some (x0.holder,3,x0))
 else (
  Ze3 x0 FU v0 (v0.length:Int) 0)
def Zg9 (x0:Za)  (k:(List Bool)->Int->Option (Int×Int×Za)) (v0:List Bool) (v4:Int):Option (Int×Int×Za):=
 if decide (v4 < (x0.m.length:Int))=true then (
  (idx x0.m v4).bind λa3=>
  (Zl8 a3).bind λr2=>
  if r2=true then (
   (idx x0.splits v4).bind λa4=>
   if decide (a4=0)=true then (
    if decide (x0.holder=(-1))=true then (
     (X1 1 v0 [true]).bind λz0=>
     k z0 (Zs v4 1))
    else (
     (X1 1 v0 [decide (x0.holder=v4)]).bind λz0=>
     k z0 (Zs v4 1)))
   else (
    (X1 1 v0 [false]).bind λz0=>
    k z0 (Zs v4 1)))
  else (
   (X1 1 v0 [false]).bind λz0=>
   k z0 (Zs v4 1)))
 else (
  if decide (x0.holder≠(-1))=true then (
   (idx v0 x0.holder).bind λa5=>
   Zi3 x0 v0 a5)
  else (
   Zi3 x0 v0 false))
def Zjf (x0:Za)  : Nat->(List Bool)->Int->Option (Int×Int×Za)
 | 0,_,_=>none
 | m+1,v0,v4=>Zg9 x0  (Zjf x0  m) v0 v4
def Zts (x0:Za):Option (Int×Int×Za):=
 Zjf x0 FU [] 0
def Zi5 (x0:Zb)  (vb0:Zb) (v0:Bool):Option (Zb×Bool):=
 if v0=true then (
  some (vb0,false))
 else (
  some ({vb0 with beat:=(Zs vb0.beat 1)},true))
def Ztn (x0:Zb):Option (Zb×Bool):=
 (Zf3 x0).bind λr0=>
 (Zl8 x0).bind λr1=>
 if (!r1)=true then (
  Zi5 x0 r0 true)
 else (
  Zi5 x0 r0 (decide (x0.beat=(Zs x0.done 2))))
def Zhb (x0:Za)  (vb0:Za) (vb1:Zb) (v0:Int):Option (Int×Za):=
 (Ztn vb1).bind λr0=>
 (idx vb0.m v0).bind λa0=>
 (Qo vb0.m v0 r0.1).bind λy0=>
 some (v0,{vb0 with m:=y0,last:=v0})
def Zhj (x0:Za)  (vb0:Za) (vb1:Zb) (v0:Int) (v1:Bool):Option (Int×Za):=
 if v1=true then (
  Zhb x0 {vb0 with holder:=v0,held:=0} vb1 v0)
 else (
  Zhb x0 vb0 vb1 v0)
def Jy (x0:Za)  (vb0:Za) (vb1:Zb) (v0:Int):Option (Int×Za):=
 (Zq6 vb1).bind λr1=>
 if r1=true then (
  Zhj x0 vb0 vb1 v0 (decide (vb0.holder=(-1))))
 else (
  Zhj x0 vb0 vb1 v0 false)
def Zpy (x0:Za):Option (Int×Za):=
 (Zts x0).bind λr2=>
 if decide (r2.1 < 0)=true then (
  some ((-1),r2.2.2))
 else (
  (idx r2.2.2.m r2.1).bind λa1=>
  if decide (a1.beat=0)=true then (
   Jy x0 {r2.2.2 with addr:=(Zg.mk true r2.1 a1.beat true r2.2.1 0 0 false)} a1 r2.1)
  else (
   Jy x0 {r2.2.2 with addr:=(Zg.mk true r2.1 a1.beat (decide (r2.2.2.last≠r2.1)) r2.2.1 0 0 false)} a1 r2.1))
def Zen (x0:Za) (x1:Ze)  (vb0:Za) (vb1:Zm):Option (Zm×Za):=
 some (vb1,{vb0 with now:=(Zs vb0.now 1)})
def Zey (x0:Za) (x1:Ze)  (vb0:Za) (vb1:Zm):Option (Zm×Za):=
 (Zpy vb0).bind λr0=>
 Zen x0 x1 r0.2 {vb1 with got:=r0.1}
def Zcd (x0:Za) (x1:Ze)  (vb0:Za) (vb2:Zm):Option (Zm×Za):=
 if vb0.addr.live=true then (
  (Zn9 vb0 x1 vb0.addr).bind λr1=>
  Zey x0 x1 {vb0 with addr:=Zg.z0,data_:={vb0.addr with left:=r1.2,resp:=r1.1},picks:=(Zs vb0.picks 1)} vb2)
 else (
  Zey x0 x1 vb0 vb2)
def Jb (x0:Za) (x1:Ze)  (vb0:Za) (vb2:Zm) (v0:Bool):Option (Zm×Za):=
 if v0=true then (
  (idx vb0.m vb0.holder).bind λa0=>
  (Qo vb0.m vb0.holder {a0 with broken:=true}).bind λy0=>
  (Zmh {vb0 with m:=y0}).bind λr2=>
  Zcd x0 x1 r2 vb2)
 else (
  Zcd x0 x1 vb0 vb2)
def Ji (x0:Za) (x1:Ze)  (vb0:Za) (vb2:Zm):Option (Zm×Za):=
 (Zom vb0 x1 vb2).bind λr3=>
 if r3.1=true then (
  if decide (r3.2.1.holder≠(-1))=true then (
   Jb x0 x1 r3.2.1 {r3.2.2 with ready:=r3.1} (decide (r3.2.1.held=r3.2.1.conf.lockMost)))
  else (
   Jb x0 x1 r3.2.1 {r3.2.2 with ready:=r3.1} false))
 else (
  Zen x0 x1 r3.2.1 {r3.2.2 with ready:=r3.1})
def Zhd (x0:Za) (x1:Ze)  (k:Za->Zm->Int->Int->Option (Zm×Za)) (vb0:Za) (vb2:Zm) (v1:Int) (v2:Int):Option (Zm×Za):=
 if decide (v2 < v1)=true then (
  (idx vb0.splits v2).bind λa1=>
  (Qo vb0.splits v2 (Z0u (Xa a1 1) 0)).bind λy1=>
  (idx vb0.buckets v2).bind λa2=>
  (idx vb0.conf.masters v2).bind λa3=>
  (Zot a2 a3).bind λr4=>
  (Qo vb0.buckets v2 r4).bind λy2=>
  k {vb0 with buckets:=y2,splits:=y1} vb2 v1 (Zs v2 1))
 else (
  if decide (vb0.holder≠(-1))=true then (
   Ji x0 x1 {vb0 with held:=(Zji (Zs vb0.held 1) vb0.conf.lockMost)} vb2)
  else (
   Ji x0 x1 vb0 vb2))
def Zam (x0:Za) (x1:Ze)  : Nat->Za->Zm->Int->Int->Option (Zm×Za)
 | 0,_,_,_,_=>none
 | m+1,vb0,vb2,v1,v2=>Zhd x0 x1  (Zam x0 x1  m) vb0 vb2 v1 v2
def Zhk (x0:Za) (x1:Ze)  (k:Za->Zm->(List Zl)->Int->Int->Option (Zm×Za)) (vb0:Za) (vb2:Zm) (v3:List Zl) (v4:Int) (v5:Int):Option (Zm×Za):=
 if decide (v5 < v4)=true then (
  (idx v3 v5).bind λa4=>
  (Q1 vb0.conf a4.who).bind λr5=>
  if r5=true then (
   (idx vb0.m a4.who).bind λa5=>
   (Zu3 a5 a4.req).bind λr6=>
   (Qo vb0.m a4.who r6.1).bind λy3=>
   k {vb0 with m:=y3} vb2 v3 v4 (Zs v5 1))
  else (
   k vb0 vb2 v3 v4 (Zs v5 1)))
 else (
  Zam x0 x1 FU vb0 vb2 (vb0.splits.length:Int) 0)
def Zet (x0:Za) (x1:Ze)  : Nat->Za->Zm->(List Zl)->Int->Int->Option (Zm×Za)
 | 0,_,_,_,_,_=>none
 | m+1,vb0,vb2,v3,v4,v5=>Zhk x0 x1  (Zet x0 x1  m) vb0 vb2 v3 v4 v5
def Zeo (x0:Za) (x1:Ze)  (vb2:Zm):Option (Zm×Za):=
 (Zvl x1 x0.now).bind λr7=>
 Zet x0 x1 FU x0 vb2 r7 (r7.length:Int) 0
def Zek (x0:Za) (x1:Ze)  (vb2:Zm):Option (Zm×Za):=
 if x0.data_.live=true then (
  (idx x0.m x0.data_.who).bind λa6=>
  (Zd5 a6 x0.data_.beat).bind λr8=>
  Zeo x0 x1 {vb2 with data_:=r8,from_:=x0.data_.who})
 else (
  Zeo x0 x1 vb2)
def Zmc (x0:Za) (x1:Ze):Option (Zm×Za):=
 if x0.addr.live=true then (
  (idx x0.m x0.addr.who).bind λa7=>
  (Zd5 a7 x0.addr.beat).bind λr9=>
  if x0.addr.first=true then (
   Zek x0 x1 (Zm.mk x0.now r9 2 x0.addr.who (-1) (-1) true 0 (-1)))
  else (
   Zek x0 x1 (Zm.mk x0.now r9 3 x0.addr.who (-1) (-1) true 0 (-1))))
 else (
  Zek x0 x1 (Zm.mk x0.now (-1) 0 (-1) (-1) (-1) true 0 (-1)))
def Zhg (x0:Zh) (x1:Ze)  (k:Int->Option Bool) (v0:Int):Option Bool:=
 if decide (v0 < (x1.posts.length:Int))=true then (
  (idx x1.posts v0).bind λa0=>
  (Yp a0.at_ 0 4000).bind λr0=>
  if (!r0)=true then (
   some false)
  else (
   if decide (v0 > 0)=true then (
    (idx x1.posts (Xa v0 1)).bind λa1=>
    if decide (a0.at_ < a1.at_)=true then (
     some false)
    else (
     (Q1 x0 a0.who).bind λr1=>
     if (!r1)=true then (
      some false)
     else (
      (Znj a0.req).bind λr2=>
      if (!r2)=true then (
       some false)
      else (
       k (Zs v0 1)))))
   else (
    (Q1 x0 a0.who).bind λr1=>
    if (!r1)=true then (
     some false)
    else (
     (Znj a0.req).bind λr2=>
     if (!r2)=true then (
      some false)
     else (
      k (Zs v0 1))))))
 else (
  some true)
def Zit (x0:Zh) (x1:Ze)  : Nat->Int->Option Bool
 | 0,_=>none
 | m+1,v0=>Zhg x0 x1  (Zit x0 x1  m) v0
def Zci (x0:Zh) (x1:Ze)  (v1:Bool):Option Bool:=
 if v1=true then (
  some false)
 else (
  Zit x0 x1 FU 0)
def Ztv (x0:Zh) (x1:Ze):Option Bool:=
 (Zf7 x0).bind λr3=>
 if (!r3)=true then (
  Zci x0 x1 true)
 else (
  if decide ((x1.posts.length:Int) > 20)=true then (
   Zci x0 x1 true)
  else (
   if decide ((x1.waits.length:Int) > 20)=true then (
    Zci x0 x1 true)
   else (
    Zci x0 x1 (decide ((x1.says.length:Int) > 20)))))
def Zkp (x0:Za) (x1:Ze) (x2:Int)  (k:Za->(List Zm)->Int->Option (Za×List Zm)) (vb0:Za) (v0:List Zm) (v1:Int):Option (Za×List Zm):=
 if decide (v1 < x2)=true then (
  (Zmc vb0 x1).bind λr0=>
  (X1 72 v0 [r0.1]).bind λz0=>
  k r0.2 z0 (Zs v1 1))
 else (
  (Zsw vb0).bind λr1=>
  some (r1,v0))
def Zob (x0:Za) (x1:Ze) (x2:Int)  : Nat->Za->(List Zm)->Int->Option (Za×List Zm)
 | 0,_,_,_=>none
 | m+1,vb0,v0,v1=>Zkp x0 x1 x2  (Zob x0 x1 x2  m) vb0 v0 v1
def Zod (x0:Za) (x1:Ze) (x2:Int)  (vb0:Za) (v2:Bool):Option (Za×List Zm):=
 if v2=true then (
  some (vb0,[]))
 else (
  Zob x0 x1 x2 FU vb0 [] 0)
def Zx5 (x0:Za) (x1:Ze) (x2:Int):Option (Za×List Zm):=
 (Zsw x0).bind λr2=>
 (Zq2 x0).bind λr3=>
 if (!r3)=true then (
  Zod x0 x1 x2 r2 true)
 else (
  (Yp x2 0 (Xa 4000 x0.now)).bind λr4=>
  Zod x0 x1 x2 r2 (!r4))
def Znd (x0:Zh) (x1:Ze) (x2:Int)  (vb0:Za) (v0:Bool):Option (Za×Bool):=
 if v0=true then (
  some (Za.z0,false))
 else (
  (Zx5 vb0 x1 x2).bind λr0=>
  some (r0.1,true))
def Z6w (x0:Zh) (x1:Ze) (x2:Int):Option (Za×Bool):=
 (Zxx x0).bind λr1=>
 if (!r1.2)=true then (
  Znd x0 x1 x2 r1.1 true)
 else (
  (Ztv x0 x1).bind λr2=>
  if (!r2)=true then (
   Znd x0 x1 x2 r1.1 true)
  else (
   (Yp x2 0 4000).bind λr3=>
   Znd x0 x1 x2 r1.1 (!r3)))
def Zsx (x0:Zr) (x1:Zr):Option Bool:=
 if decide (x0.cycle≠x1.cycle)=true then (
  some false)
 else (
  if decide (x0.who≠x1.who)=true then (
   some false)
  else (
   if (x0.write != x1.write)=true then (
    some false)
   else (
    if decide (x0.addr≠x1.addr)=true then (
     some false)
    else (
     if decide (x0.size≠x1.size)=true then (
      some false)
     else (
      if decide (x0.value≠x1.value)=true then (
       some false)
      else (
       if decide (x0.resp≠x1.resp)=true then (
        some false)
       else (
        some true)))))))
def Ydx (x0:List Zr) (x1:List Zr)  (k:Int->Option Bool) (v0:Int):Option Bool:=
 if decide (v0 < (x0.length:Int))=true then (
  (idx x0 v0).bind λa0=>
  (idx x1 v0).bind λa1=>
  (Zsx a0 a1).bind λr0=>
  if (!r0)=true then (
   some false)
  else (
   k (Zs v0 1)))
 else (
  some true)
def Zlc (x0:List Zr) (x1:List Zr)  : Nat->Int->Option Bool
 | 0,_=>none
 | m+1,v0=>Ydx x0 x1  (Zlc x0 x1  m) v0
def Zvd (x0:List Zr) (x1:List Zr):Option Bool:=
 if decide ((x0.length:Int)≠(x1.length:Int))=true then (
  some false)
 else (
  Zlc x0 x1 FU 0)
def Zpj (x0:Zc) (x1:Zc):Option Bool:=
 if decide (x0.weight≠x1.weight)=true then (
  some false)
 else (
  if (x0.prio != x1.prio)=true then (
   some false)
  else (
   if decide (x0.every≠x1.every)=true then (
    some false)
   else (
    if decide (x0.cap≠x1.cap)=true then (
     some false)
    else (
     some true))))
def Ybb (x0:List Zc) (x1:List Zc)  (k:Int->Option Bool) (v0:Int):Option Bool:=
 if decide (v0 < (x0.length:Int))=true then (
  (idx x0 v0).bind λa0=>
  (idx x1 v0).bind λa1=>
  (Zpj a0 a1).bind λr0=>
  if (!r0)=true then (
   some false)
  else (
   k (Zs v0 1)))
 else (
  some true)
def Zjs (x0:List Zc) (x1:List Zc)  : Nat->Int->Option Bool
 | 0,_=>none
 | m+1,v0=>Ybb x0 x1  (Zjs x0 x1  m) v0
def Zrt (x0:List Zc) (x1:List Zc):Option Bool:=
 if decide ((x0.length:Int)≠(x1.length:Int))=true then (
  some false)
 else (
  Zjs x0 x1 FU 0)
def Zsh (x0:Zh) (x1:Zh):Option Bool:=
 (Zrt x0.masters x1.masters).bind λr0=>
 if (!r0)=true then (
  some false)
 else (
  if decide (x0.quantum≠x1.quantum)=true then (
   some false)
  else (
   if decide (x0.maxWait≠x1.maxWait)=true then (
    some false)
   else (
    if decide (x0.maxRetry≠x1.maxRetry)=true then (
     some false)
    else (
     if decide (x0.maxSplit≠x1.maxSplit)=true then (
      some false)
     else (
      if decide (x0.lockMost≠x1.lockMost)=true then (
       some false)
      else (
       some true))))))
def Zkm (x0:List Int) (x1:List Int)  (k:Int->Option Bool) (v0:Int):Option Bool:=
 if decide (v0 < (x0.length:Int))=true then (
  (idx x0 v0).bind λa0=>
  (idx x1 v0).bind λa1=>
  if decide (a0≠a1)=true then (
   some false)
  else (
   k (Zs v0 1)))
 else (
  some true)
def Zop (x0:List Int) (x1:List Int)  : Nat->Int->Option Bool
 | 0,_=>none
 | m+1,v0=>Zkm x0 x1  (Zop x0 x1  m) v0
def Zcq (x0:List Int) (x1:List Int):Option Bool:=
 if decide ((x0.length:Int)≠(x1.length:Int))=true then (
  some false)
 else (
  Zop x0 x1 FU 0)
def Zq1 (x0:Zi) (x1:Zi):Option Bool:=
 if (x0.write != x1.write)=true then (
  some false)
 else (
  if decide (x0.addr≠x1.addr)=true then (
   some false)
  else (
   if decide (x0.size≠x1.size)=true then (
    some false)
   else (
    if decide (x0.burst≠x1.burst)=true then (
     some false)
    else (
     if (x0.lock != x1.lock)=true then (
      some false)
     else (
      (Zcq x0.data_ x1.data_).bind λr0=>
      if (!r0)=true then (
       some false)
      else (
       some true))))))
def Ye8 (x0:List Zi) (x1:List Zi)  (k:Int->Option Bool) (v0:Int):Option Bool:=
 if decide (v0 < (x0.length:Int))=true then (
  (idx x0 v0).bind λa0=>
  (idx x1 v0).bind λa1=>
  (Zq1 a0 a1).bind λr0=>
  if (!r0)=true then (
   some false)
  else (
   k (Zs v0 1)))
 else (
  some true)
def Zon (x0:List Zi) (x1:List Zi)  : Nat->Int->Option Bool
 | 0,_=>none
 | m+1,v0=>Ye8 x0 x1  (Zon x0 x1  m) v0
def Zyg (x0:List Zi) (x1:List Zi):Option Bool:=
 if decide ((x0.length:Int)≠(x1.length:Int))=true then (
  some false)
 else (
  Zon x0 x1 FU 0)
def Z1v (x0:Zb) (x1:Zb):Option Bool:=
 (Zyg x0.queue x1.queue).bind λr0=>
 if (!r0)=true then (
  some false)
 else (
  if decide (x0.beat≠x1.beat)=true then (
   some false)
  else (
   if decide (x0.done≠x1.done)=true then (
    some false)
   else (
    if decide (x0.tries≠x1.tries)=true then (
     some false)
    else (
     if (x0.parted != x1.parted)=true then (
      some false)
     else (
      if (x0.broken != x1.broken)=true then (
       some false)
      else (
       some true))))))
def Yf0 (x0:List Zb) (x1:List Zb)  (k:Int->Option Bool) (v0:Int):Option Bool:=
 if decide (v0 < (x0.length:Int))=true then (
  (idx x0 v0).bind λa0=>
  (idx x1 v0).bind λa1=>
  (Z1v a0 a1).bind λr0=>
  if (!r0)=true then (
   some false)
  else (
   k (Zs v0 1)))
 else (
  some true)
def Zou (x0:List Zb) (x1:List Zb)  : Nat->Int->Option Bool
 | 0,_=>none
 | m+1,v0=>Yf0 x0 x1  (Zou x0 x1  m) v0
def Zxz (x0:List Zb) (x1:List Zb):Option Bool:=
 if decide ((x0.length:Int)≠(x1.length:Int))=true then (
  some false)
 else (
  Zou x0 x1 FU 0)
def Z2i (x0:Z5) (x1:Z5):Option Bool:=
 if decide (x0.at_≠x1.at_)=true then (
  some false)
 else (
  if decide (x0.credit≠x1.credit)=true then (
   some false)
  else (
   some true))
def Zr8 (x0:Zf) (x1:Zf):Option Bool:=
 if decide (x0.tokens≠x1.tokens)=true then (
  some false)
 else (
  if decide (x0.count≠x1.count)=true then (
   some false)
  else (
   some true))
def Z8c (x0:List Zf) (x1:List Zf)  (k:Int->Option Bool) (v0:Int):Option Bool:=
 if decide (v0 < (x0.length:Int))=true then (
  (idx x0 v0).bind λa0=>
  (idx x1 v0).bind λa1=>
  (Zr8 a0 a1).bind λr0=>
  if (!r0)=true then (
   some false)
  else (
   k (Zs v0 1)))
 else (
  some true)
def Zhl (x0:List Zf) (x1:List Zf)  : Nat->Int->Option Bool
 | 0,_=>none
 | m+1,v0=>Z8c x0 x1  (Zhl x0 x1  m) v0
def Zp5 (x0:List Zf) (x1:List Zf):Option Bool:=
 if decide ((x0.length:Int)≠(x1.length:Int))=true then (
  some false)
 else (
  Zhl x0 x1 FU 0)
def Zsq (x0:Zg) (x1:Zg):Option Bool:=
 if (x0.live != x1.live)=true then (
  some false)
 else (
  if decide (x0.who≠x1.who)=true then (
   some false)
  else (
   if decide (x0.beat≠x1.beat)=true then (
    some false)
   else (
    if (x0.first != x1.first)=true then (
     some false)
    else (
     if decide (x0.by_≠x1.by_)=true then (
      some false)
     else (
      if decide (x0.left≠x1.left)=true then (
       some false)
      else (
       if decide (x0.resp≠x1.resp)=true then (
        some false)
       else (
        if (x0.second != x1.second)=true then (
         some false)
        else (
         some true))))))))
def Z7r (x0:Zn) (x1:Zn):Option Bool:=
 (Zcq x0.regs x1.regs).bind λr0=>
 if (!r0)=true then (
  some false)
 else (
  if decide (x0.timer≠x1.timer)=true then (
   some false)
  else (
   (Zcq x0.fifo x1.fifo).bind λr1=>
   if (!r1)=true then (
    some false)
   else (
    some true)))
def Zvw (x0:Zj) (x1:Zj):Option Bool:=
 (Zcq x0.mem x1.mem).bind λr0=>
 if (!r0)=true then (
  some false)
 else (
  (Z7r x0.dev x1.dev).bind λr1=>
  if (!r1)=true then (
   some false)
  else (
   some true))
def Zwv (x0:Za) (x1:Za):Option Bool:=
 (Zsh x0.conf x1.conf).bind λr0=>
 if (!r0)=true then (
  some false)
 else (
  if decide (x0.now≠x1.now)=true then (
   some false)
  else (
   (Zxz x0.m x1.m).bind λr1=>
   if (!r1)=true then (
    some false)
   else (
    (Z2i x0.arb x1.arb).bind λr2=>
    if (!r2)=true then (
     some false)
    else (
     (Zp5 x0.buckets x1.buckets).bind λr3=>
     if (!r3)=true then (
      some false)
     else (
      (Zcq x0.splits x1.splits).bind λr4=>
      if (!r4)=true then (
       some false)
      else (
       if decide (x0.holder≠x1.holder)=true then (
        some false)
       else (
        if decide (x0.held≠x1.held)=true then (
         some false)
        else (
         if decide (x0.last≠x1.last)=true then (
          some false)
         else (
          (Zsq x0.addr x1.addr).bind λr5=>
          if (!r5)=true then (
           some false)
          else (
           (Zsq x0.data_ x1.data_).bind λr6=>
           if (!r6)=true then (
            some false)
           else (
            (Zvw x0.model x1.model).bind λr7=>
            if (!r7)=true then (
             some false)
            else (
             if decide (x0.picks≠x1.picks)=true then (
              some false)
             else (
              (Zvd x0.log x1.log).bind λr8=>
              if (!r8)=true then (
               some false)
              else (
               some true))))))))))))))
def Zso (x0:Zl) (x1:Zl):Option Bool:=
 if decide (x0.at_≠x1.at_)=true then (
  some false)
 else (
  if decide (x0.who≠x1.who)=true then (
   some false)
  else (
   (Zq1 x0.req x1.req).bind λr0=>
   if (!r0)=true then (
    some false)
   else (
    some true)))
def Yec (x0:List Zl) (x1:List Zl)  (k:Int->Option Bool) (v0:Int):Option Bool:=
 if decide (v0 < (x0.length:Int))=true then (
  (idx x0 v0).bind λa0=>
  (idx x1 v0).bind λa1=>
  (Zso a0 a1).bind λr0=>
  if (!r0)=true then (
   some false)
  else (
   k (Zs v0 1)))
 else (
  some true)
def Zk2 (x0:List Zl) (x1:List Zl)  : Nat->Int->Option Bool
 | 0,_=>none
 | m+1,v0=>Yec x0 x1  (Zk2 x0 x1  m) v0
def Zvf (x0:List Zl) (x1:List Zl):Option Bool:=
 if decide ((x0.length:Int)≠(x1.length:Int))=true then (
  some false)
 else (
  Zk2 x0 x1 FU 0)
def Zrv (x0:Ze) (x1:Ze):Option Bool:=
 (Zvf x0.posts x1.posts).bind λr0=>
 if (!r0)=true then (
  some false)
 else (
  (Zcq x0.waits x1.waits).bind λr1=>
  if (!r1)=true then (
   some false)
  else (
   (Zcq x0.says x1.says).bind λr2=>
   if (!r2)=true then (
    some false)
   else (
    some true)))
def Zgj (x0:List Zr) (x1:Int)  (k:Int->Int->Option Int) (v0:Int) (v1:Int):Option Int:=
 if decide (v1 < (x0.length:Int))=true then (
  (idx x0 v1).bind λa0=>
  if decide (a0.cycle≠v0)=true then (
   some (-1))
  else (
   if decide (a0.who≠(Zs v0 1))=true then (
    some (-1))
   else (
    if (a0.write != decide ((Zay (Zs (Zs v0 1) 1) 3)=0))=true then (
     some (-1))
    else (
     if decide (a0.addr≠(Zs (Zs (Zs v0 1) 1) 1))=true then (
      some (-1))
     else (
      if decide (a0.size≠(Zs (Zs (Zs (Zs v0 1) 1) 1) 1))=true then (
       some (-1))
      else (
       if decide (a0.value≠(Zs (Zs (Zs (Zs (Zs v0 1) 1) 1) 1) 1))=true then (
        some (-1))
       else (
        if decide (a0.resp≠(Zs (Zs (Zs (Zs (Zs (Zs v0 1) 1) 1) 1) 1) 1))=true then (
         some (-1))
        else (
         k (Zs (Zs (Zs (Zs (Zs (Zs (Zs v0 1) 1) 1) 1) 1) 1) 1) (Zs v1 1)))))))))
 else (
  some v0)
def Zo3 (x0:List Zr) (x1:Int)  : Nat->Int->Int->Option Int
 | 0,_,_=>none
 | m+1,v0,v1=>Zgj x0 x1  (Zo3 x0 x1  m) v0 v1
def Zqc (x0:List Zr) (x1:Int):Option Int:=
 Zo3 x0 x1 FU x1 0
def Zfa (x0:List Zc) (x1:Int)  (k:Int->Int->Option Int) (v0:Int) (v1:Int):Option Int:=
 if decide (v1 < (x0.length:Int))=true then (
  (idx x0 v1).bind λa0=>
  if decide (a0.weight≠v0)=true then (
   some (-1))
  else (
   if (a0.prio != decide ((Zay (Zs v0 1) 3)=0))=true then (
    some (-1))
   else (
    if decide (a0.every≠(Zs (Zs v0 1) 1))=true then (
     some (-1))
    else (
     if decide (a0.cap≠(Zs (Zs (Zs v0 1) 1) 1))=true then (
      some (-1))
     else (
      k (Zs (Zs (Zs (Zs v0 1) 1) 1) 1) (Zs v1 1))))))
 else (
  some v0)
def Zmb (x0:List Zc) (x1:Int)  : Nat->Int->Int->Option Int
 | 0,_,_=>none
 | m+1,v0,v1=>Zfa x0 x1  (Zmb x0 x1  m) v0 v1
def Zn6 (x0:List Zc) (x1:Int):Option Int:=
 Zmb x0 x1 FU x1 0
def Zzf (x0:Zh) (x1:Int):Option Int:=
 (Zn6 x0.masters x1).bind λr0=>
 if decide (r0 < 0)=true then (
  some (-1))
 else (
  some r0)
def Zha (x0:List Int) (x1:Int)  (k:Int->Int->Option Int) (v0:Int) (v1:Int):Option Int:=
 if decide (v1 < (x0.length:Int))=true then (
  (idx x0 v1).bind λa0=>
  if decide (a0≠v0)=true then (
   some (-1))
  else (
   k (Zs v0 1) (Zs v1 1)))
 else (
  some v0)
def Zqt (x0:List Int) (x1:Int)  : Nat->Int->Int->Option Int
 | 0,_,_=>none
 | m+1,v0,v1=>Zha x0 x1  (Zqt x0 x1  m) v0 v1
def Zc2 (x0:List Int) (x1:Int):Option Int:=
 Zqt x0 x1 FU x1 0
def Zhn (x0:List Zi) (x1:Int)  (k:Int->Int->Option Int) (v0:Int) (v1:Int):Option Int:=
 if decide (v1 < (x0.length:Int))=true then (
  (idx x0 v1).bind λa0=>
  if (a0.write != decide ((Zay v0 3)=0))=true then (
   some (-1))
  else (
   if decide (a0.addr≠(Zs v0 1))=true then (
    some (-1))
   else (
    if decide (a0.size≠(Zs (Zs v0 1) 1))=true then (
     some (-1))
    else (
     if decide (a0.burst≠(Zs (Zs (Zs v0 1) 1) 1))=true then (
      some (-1))
     else (
      if (a0.lock != decide ((Zay (Zs (Zs (Zs (Zs v0 1) 1) 1) 1) 3)=0))=true then (
       some (-1))
      else (
       (Zc2 a0.data_ (Zs (Zs (Zs (Zs (Zs v0 1) 1) 1) 1) 1)).bind λr0=>
       if decide (r0 < 0)=true then (
        some (-1))
       else (
        k r0 (Zs v1 1))))))))
 else (
  some v0)
def Zqw (x0:List Zi) (x1:Int)  : Nat->Int->Int->Option Int
 | 0,_,_=>none
 | m+1,v0,v1=>Zhn x0 x1  (Zqw x0 x1  m) v0 v1
def Zr1 (x0:List Zi) (x1:Int):Option Int:=
 Zqw x0 x1 FU x1 0
def Zhh (x0:List Zb) (x1:Int)  (k:Int->Int->Option Int) (v0:Int) (v1:Int):Option Int:=
 if decide (v1 < (x0.length:Int))=true then (
  (idx x0 v1).bind λa0=>
  (Zr1 a0.queue v0).bind λr0=>
  if decide (r0 < 0)=true then (
   some (-1))
  else (
   if decide (a0.beat≠r0)=true then (
    some (-1))
   else (
    if decide (a0.done≠(Zs r0 1))=true then (
     some (-1))
    else (
     if decide (a0.tries≠(Zs (Zs r0 1) 1))=true then (
      some (-1))
     else (
      if (a0.parted != decide ((Zay (Zs (Zs (Zs r0 1) 1) 1) 3)=0))=true then (
       some (-1))
      else (
       if (a0.broken != decide ((Zay (Zs (Zs (Zs (Zs r0 1) 1) 1) 1) 3)=0))=true then (
        some (-1))
       else (
        k (Zs (Zs (Zs (Zs (Zs r0 1) 1) 1) 1) 1) (Zs v1 1))))))))
 else (
  some v0)
def Zqu (x0:List Zb) (x1:Int)  : Nat->Int->Int->Option Int
 | 0,_,_=>none
 | m+1,v0,v1=>Zhh x0 x1  (Zqu x0 x1  m) v0 v1
def Ztu (x0:List Zb) (x1:Int):Option Int:=
 Zqu x0 x1 FU x1 0
def Zdw (x0:List Zf) (x1:Int)  (k:Int->Int->Option Int) (v0:Int) (v1:Int):Option Int:=
 if decide (v1 < (x0.length:Int))=true then (
  (idx x0 v1).bind λa0=>
  if decide (a0.tokens≠v0)=true then (
   some (-1))
  else (
   if decide (a0.count≠(Zs v0 1))=true then (
    some (-1))
   else (
    k (Zs (Zs v0 1) 1) (Zs v1 1))))
 else (
  some v0)
def Zkf (x0:List Zf) (x1:Int)  : Nat->Int->Int->Option Int
 | 0,_,_=>none
 | m+1,v0,v1=>Zdw x0 x1  (Zkf x0 x1  m) v0 v1
def Zkz (x0:List Zf) (x1:Int):Option Int:=
 Zkf x0 x1 FU x1 0
def Z3a (x0:Zn) (x1:Int):Option Int:=
 (Zc2 x0.regs x1).bind λr0=>
 if decide (r0 < 0)=true then (
  some (-1))
 else (
  (Zc2 x0.fifo r0).bind λr1=>
  if decide (r1 < 0)=true then (
   some (-1))
  else (
   some r1))
def Zw5 (x0:Zj) (x1:Int):Option Int:=
 (Zc2 x0.mem x1).bind λr0=>
 if decide (r0 < 0)=true then (
  some (-1))
 else (
  (Z3a x0.dev r0).bind λr1=>
  if decide (r1 < 0)=true then (
   some (-1))
  else (
   some r1))
def Zo8 (x0:Za) (x1:Int):Option Int:=
 (Zzf x0.conf x1).bind λr0=>
 if decide (r0 < 0)=true then (
  some (-1))
 else (
  (Ztu x0.m r0).bind λr1=>
  if decide (r1 < 0)=true then (
   some (-1))
  else (
   (Zkz x0.buckets r1).bind λr2=>
   if decide (r2 < 0)=true then (
    some (-1))
   else (
    (Zc2 x0.splits r2).bind λr3=>
    if decide (r3 < 0)=true then (
     some (-1))
    else (
     (Zw5 x0.model r3).bind λr4=>
     if decide (r4 < 0)=true then (
      some (-1))
     else (
      (Zqc x0.log r4).bind λr5=>
      if decide (r5 < 0)=true then (
       some (-1))
      else (
       some r5))))))
end Go.Proofs.YtagdmghmblplbaaGreat.Ev
namespace Go.Proofs.YtagdmghmblplbaaGreat.Ev
open Go Go.Proofs Go.RowKit
def Zc.enc (x:Zc):List V:=[.lit (.int .i64 x.weight),.lit (.bool x.prio),.lit (.int .i64 x.every),.lit (.int .i64 x.cap)]
theorem Zc.enc_len (x:Zc):(Zc.enc x).length=4:=rfl
theorem Zc.enc_lit (x:Zc):(Zc.enc x).all Zyc=true:=rfl
def Zh.enc (x:Zh):List V:=[.tr (x.masters.map Zc.enc),.lit (.int .i64 x.quantum),.lit (.int .i64 x.maxWait),.lit (.int .i64 x.maxRetry),.lit (.int .i64 x.maxSplit),.lit (.int .i64 x.lockMost)]
def Zi.enc (x:Zi):List V:=[.lit (.bool x.write),.lit (.int .i64 x.addr),.lit (.int .i64 x.size),.lit (.int .i64 x.burst),.lit (.bool x.lock),.tr (x.data_.map Zd)]
theorem Zi.enc_len (x:Zi):(Zi.enc x).length=6:=rfl
def Zl.enc (x:Zl):List V:=[.lit (.int .i64 x.at_),.lit (.int .i64 x.who),.lit (.bool x.req.write),.lit (.int .i64 x.req.addr),.lit (.int .i64 x.req.size),.lit (.int .i64 x.req.burst),.lit (.bool x.req.lock),.tr (x.req.data_.map Zd)]
theorem Zl.enc_len (x:Zl):(Zl.enc x).length=8:=rfl
def Ze.enc (x:Ze):List V:=[.tr (x.posts.map Zl.enc),.tr (x.waits.map Zd),.tr (x.says.map Zd)]
def Zb.enc (x:Zb):List V:=[.tr (x.queue.map Zi.enc),.lit (.int .i64 x.beat),.lit (.int .i64 x.done),.lit (.int .i64 x.tries),.lit (.bool x.parted),.lit (.bool x.broken)]
theorem Zb.enc_len (x:Zb):(Zb.enc x).length=6:=rfl
def Z5.enc (x:Z5):List V:=[.lit (.int .i64 x.at_),.lit (.int .i64 x.credit)]
def Zf.enc (x:Zf):List V:=[.lit (.int .i64 x.tokens),.lit (.int .i64 x.count)]
theorem Zf.enc_len (x:Zf):(Zf.enc x).length=2:=rfl
theorem Zf.enc_lit (x:Zf):(Zf.enc x).all Zyc=true:=rfl
def Zg.enc (x:Zg):List V:=[.lit (.bool x.live),.lit (.int .i64 x.who),.lit (.int .i64 x.beat),.lit (.bool x.first),.lit (.int .i64 x.by_),.lit (.int .i64 x.left),.lit (.int .i64 x.resp),.lit (.bool x.second)]
theorem Zg.enc_len (x:Zg):(Zg.enc x).length=8:=rfl
def Zn.enc (x:Zn):List V:=[.tr (x.regs.map Zd),.lit (.int .i64 x.timer),.tr (x.fifo.map Zd)]
def Zj.enc (x:Zj):List V:=[.tr (x.mem.map Zd),.tr (x.dev.regs.map Zd),.lit (.int .i64 x.dev.timer),.tr (x.dev.fifo.map Zd)]
def Zr.enc (x:Zr):List V:=[.lit (.int .i64 x.cycle),.lit (.int .i64 x.who),.lit (.bool x.write),.lit (.int .i64 x.addr),.lit (.int .i64 x.size),.lit (.int .i64 x.value),.lit (.int .i64 x.resp)]
theorem Zr.enc_len (x:Zr):(Zr.enc x).length=7:=rfl
theorem Zr.enc_lit (x:Zr):(Zr.enc x).all Zyc=true:=rfl
def Za.enc (x:Za):List V:=[.tr (x.conf.masters.map Zc.enc),.lit (.int .i64 x.conf.quantum),.lit (.int .i64 x.conf.maxWait),.lit (.int .i64 x.conf.maxRetry),.lit (.int .i64 x.conf.maxSplit),.lit (.int .i64 x.conf.lockMost),.lit (.int .i64 x.now),.tr (x.m.map Zb.enc),.lit (.int .i64 x.arb.at_),.lit (.int .i64 x.arb.credit),.tr (x.buckets.map Zf.enc),.tr (x.splits.map Zd),.lit (.int .i64 x.holder),.lit (.int .i64 x.held),.lit (.int .i64 x.last),.lit (.bool x.addr.live),.lit (.int .i64 x.addr.who),.lit (.int .i64 x.addr.beat),.lit (.bool x.addr.first),.lit (.int .i64 x.addr.by_),.lit (.int .i64 x.addr.left),.lit (.int .i64 x.addr.resp),.lit (.bool x.addr.second),.lit (.bool x.data_.live),.lit (.int .i64 x.data_.who),.lit (.int .i64 x.data_.beat),.lit (.bool x.data_.first),.lit (.int .i64 x.data_.by_),.lit (.int .i64 x.data_.left),.lit (.int .i64 x.data_.resp),.lit (.bool x.data_.second),.tr (x.model.mem.map Zd),.tr (x.model.dev.regs.map Zd),.lit (.int .i64 x.model.dev.timer),.tr (x.model.dev.fifo.map Zd),.lit (.int .i64 x.picks),.tr (x.log.map Zr.enc)]
def Zm.enc (x:Zm):List V:=[.lit (.int .i64 x.cycle),.lit (.int .i64 x.addr),.lit (.int .i64 x.kind),.lit (.int .i64 x.who),.lit (.int .i64 x.data_),.lit (.int .i64 x.from_),.lit (.bool x.ready),.lit (.int .i64 x.resp),.lit (.int .i64 x.got)]
theorem Zm.enc_len (x:Zm):(Zm.enc x).length=9:=rfl
def Za.ow (x:Za):List V:=[.own 150 (x.conf.masters.map Zc.enc),il x.conf.quantum,il x.conf.maxWait,il x.conf.maxRetry,il x.conf.maxSplit,il x.conf.lockMost,il x.now,.own 156 (x.m.map Zb.enc),il x.arb.at_,il x.arb.credit,.own 158 (x.buckets.map Zf.enc),.own 3 (x.splits.map Zd),il x.holder,il x.held,il x.last,bl x.addr.live,il x.addr.who,il x.addr.beat,bl x.addr.first,il x.addr.by_,il x.addr.left,il x.addr.resp,bl x.addr.second,bl x.data_.live,il x.data_.who,il x.data_.beat,bl x.data_.first,il x.data_.by_,il x.data_.left,il x.data_.resp,bl x.data_.second,.own 3 (x.model.mem.map Zd),.own 3 (x.model.dev.regs.map Zd),il x.model.dev.timer,.own 3 (x.model.dev.fifo.map Zd),il x.picks,.own 113 (x.log.map Zr.enc)]
def Za.rl (x:Za) (n:Nat):List V:=[.sl (1,n) 0 (x.conf.masters.map Zc.enc).length,il x.conf.quantum,il x.conf.maxWait,il x.conf.maxRetry,il x.conf.maxSplit,il x.conf.lockMost,il x.now,.sl (1,n+1) 0 (x.m.map Zb.enc).length,il x.arb.at_,il x.arb.credit,.sl (1,n+2) 0 (x.buckets.map Zf.enc).length,.sl (1,n+3) 0 (x.splits.map Zd).length,il x.holder,il x.held,il x.last,bl x.addr.live,il x.addr.who,il x.addr.beat,bl x.addr.first,il x.addr.by_,il x.addr.left,il x.addr.resp,bl x.addr.second,bl x.data_.live,il x.data_.who,il x.data_.beat,bl x.data_.first,il x.data_.by_,il x.data_.left,il x.data_.resp,bl x.data_.second,.sl (1,n+4) 0 (x.model.mem.map Zd).length,.sl (1,n+5) 0 (x.model.dev.regs.map Zd).length,il x.model.dev.timer,.sl (1,n+6) 0 (x.model.dev.fifo.map Zd).length,il x.picks,.sl (1,n+7) 0 (x.log.map Zr.enc).length]
def Za.bk (x:Za) (n:Nat):List (Id×Blk):=[((1,n),⟨false,true,true,150,(x.conf.masters.map Zc.enc)⟩),((1,n+1),⟨false,true,true,156,(x.m.map Zb.enc)⟩),((1,n+2),⟨false,true,true,158,(x.buckets.map Zf.enc)⟩),((1,n+3),⟨false,true,true,3,(x.splits.map Zd)⟩),((1,n+4),⟨false,true,true,3,(x.model.mem.map Zd)⟩),((1,n+5),⟨false,true,true,3,(x.model.dev.regs.map Zd)⟩),((1,n+6),⟨false,true,true,3,(x.model.dev.fifo.map Zd)⟩),((1,n+7),⟨false,true,true,113,(x.log.map Zr.enc)⟩)]
def Za.ff (n e b:Nat):List (Id×Id):=[((1,n),(e,b)),((1,n+1),(e,b+7)),((1,n+2),(e,b+10)),((1,n+3),(e,b+11)),((1,n+4),(e,b+31)),((1,n+5),(e,b+32)),((1,n+6),(e,b+34)),((1,n+7),(e,b+36))]
def Za.nm (x:Za):List O:=[.num (x.conf.masters.map Zc.enc).length 0 0 [],.num (x.m.map Zb.enc).length 0 0 [],.num (x.buckets.map Zf.enc).length 0 0 [],.num (x.splits.map Zd).length 0 0 [],.num (x.model.mem.map Zd).length 0 0 [],.num (x.model.dev.regs.map Zd).length 0 0 [],.num (x.model.dev.fifo.map Zd).length 0 0 [],.num (x.log.map Zr.enc).length 0 0 []]
theorem Za.so (x:Za) {q:List O} {p:Prop} (h:Scr q p):Scr q ((x.conf.masters.map Zc.enc).length=(x.conf.masters.map Zc.enc).length/\(x.m.map Zb.enc).length=(x.m.map Zb.enc).length/\(x.buckets.map Zf.enc).length=(x.buckets.map Zf.enc).length/\(x.splits.map Zd).length=(x.splits.map Zd).length/\(x.model.mem.map Zd).length=(x.model.mem.map Zd).length/\(x.model.dev.regs.map Zd).length=(x.model.dev.regs.map Zd).length/\(x.model.dev.fifo.map Zd).length=(x.model.dev.fifo.map Zd).length/\(x.log.map Zr.enc).length=(x.log.map Zr.enc).length/\p):=⟨rfl,rfl,rfl,rfl,rfl,rfl,rfl,rfl,h⟩
theorem Za.sc (x:Za) {q:List O} {p:Prop} (h:Scr q p):Scr (Za.nm x++q) ((x.conf.masters.map Zc.enc).length=(x.conf.masters.map Zc.enc).length/\(x.m.map Zb.enc).length=(x.m.map Zb.enc).length/\(x.buckets.map Zf.enc).length=(x.buckets.map Zf.enc).length/\(x.splits.map Zd).length=(x.splits.map Zd).length/\(x.model.mem.map Zd).length=(x.model.mem.map Zd).length/\(x.model.dev.regs.map Zd).length=(x.model.dev.regs.map Zd).length/\(x.model.dev.fifo.map Zd).length=(x.model.dev.fifo.map Zd).length/\(x.log.map Zr.enc).length=(x.log.map Zr.enc).length/\p):=⟨rfl,rfl,rfl,rfl,rfl,rfl,rfl,rfl,h⟩
def Zn.ow (x:Zn):List V:=[.own 3 (x.regs.map Zd),il x.timer,.own 3 (x.fifo.map Zd)]
def Zn.rl (x:Zn) (n:Nat):List V:=[.sl (1,n) 0 (x.regs.map Zd).length,il x.timer,.sl (1,n+1) 0 (x.fifo.map Zd).length]
def Zn.bk (x:Zn) (n:Nat):List (Id×Blk):=[((1,n),⟨false,true,true,3,(x.regs.map Zd)⟩),((1,n+1),⟨false,true,true,3,(x.fifo.map Zd)⟩)]
def Zn.ff (n e b:Nat):List (Id×Id):=[((1,n),(e,b)),((1,n+1),(e,b+2))]
def Zn.nm (x:Zn):List O:=[.num (x.regs.map Zd).length 0 0 [],.num (x.fifo.map Zd).length 0 0 []]
theorem Zn.so (x:Zn) {q:List O} {p:Prop} (h:Scr q p):Scr q ((x.regs.map Zd).length=(x.regs.map Zd).length/\(x.fifo.map Zd).length=(x.fifo.map Zd).length/\p):=⟨rfl,rfl,h⟩
theorem Zn.sc (x:Zn) {q:List O} {p:Prop} (h:Scr q p):Scr (Zn.nm x++q) ((x.regs.map Zd).length=(x.regs.map Zd).length/\(x.fifo.map Zd).length=(x.fifo.map Zd).length/\p):=⟨rfl,rfl,h⟩
def Zj.ow (x:Zj):List V:=[.own 3 (x.mem.map Zd),.own 3 (x.dev.regs.map Zd),il x.dev.timer,.own 3 (x.dev.fifo.map Zd)]
def Zj.rl (x:Zj) (n:Nat):List V:=[.sl (1,n) 0 (x.mem.map Zd).length,.sl (1,n+1) 0 (x.dev.regs.map Zd).length,il x.dev.timer,.sl (1,n+2) 0 (x.dev.fifo.map Zd).length]
def Zj.bk (x:Zj) (n:Nat):List (Id×Blk):=[((1,n),⟨false,true,true,3,(x.mem.map Zd)⟩),((1,n+1),⟨false,true,true,3,(x.dev.regs.map Zd)⟩),((1,n+2),⟨false,true,true,3,(x.dev.fifo.map Zd)⟩)]
def Zj.ff (n e b:Nat):List (Id×Id):=[((1,n),(e,b)),((1,n+1),(e,b+1)),((1,n+2),(e,b+3))]
def Zj.nm (x:Zj):List O:=[.num (x.mem.map Zd).length 0 0 [],.num (x.dev.regs.map Zd).length 0 0 [],.num (x.dev.fifo.map Zd).length 0 0 []]
theorem Zj.so (x:Zj) {q:List O} {p:Prop} (h:Scr q p):Scr q ((x.mem.map Zd).length=(x.mem.map Zd).length/\(x.dev.regs.map Zd).length=(x.dev.regs.map Zd).length/\(x.dev.fifo.map Zd).length=(x.dev.fifo.map Zd).length/\p):=⟨rfl,rfl,rfl,h⟩
theorem Zj.sc (x:Zj) {q:List O} {p:Prop} (h:Scr q p):Scr (Zj.nm x++q) ((x.mem.map Zd).length=(x.mem.map Zd).length/\(x.dev.regs.map Zd).length=(x.dev.regs.map Zd).length/\(x.dev.fifo.map Zd).length=(x.dev.fifo.map Zd).length/\p):=⟨rfl,rfl,rfl,h⟩
def Ze.ow (x:Ze):List V:=[.own 106 (x.posts.map Zl.enc),.own 3 (x.waits.map Zd),.own 3 (x.says.map Zd)]
def ffi (n:Nat):Nat->List (Id×Id)
 | 0=>[]
 | m+1=>((1,n),(1,n))::ffi (n+1) m
abbrev bx (n:Nat) (r:List V):Id×Blk:=((1,n),⟨true,true,true,0,[r]⟩)
abbrev rx (n t:Nat) (R:List (List V)):Id×Blk:=((1,n),⟨false,true,true,t,R⟩)
end Go.Proofs.YtagdmghmblplbaaGreat.Ev
