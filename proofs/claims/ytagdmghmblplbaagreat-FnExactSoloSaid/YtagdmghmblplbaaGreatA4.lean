/- A part of the proof of FnExactSolo: see the text YtagdmghmblplbaaGreatLawFnExactSolo for what is proved and its conditions. Conditions here: those in each line. -/
import Derived.Test.YtagdmghmblplbaaGreatA3
import Derived.KernelRfl
set_option linter.unusedSimpArgs false
set_option linter.unusedVariables false
set_option linter.unusedSectionVars false
namespace Go.Proofs.YtagdmghmblplbaaGreat.Ev
open Go Go.Proofs
structure Zc where
 weight:Int
 prio:Bool
 every:Int
 cap:Int
 deriving DecidableEq
structure Zh where
 masters:List Zc
 quantum:Int
 maxWait:Int
 maxRetry:Int
 maxSplit:Int
 lockMost:Int
 deriving DecidableEq
structure Zb where
 write:Bool
 addr:Int
 size:Int
 burst:Int
 lock:Bool
 data_:List Int
 deriving DecidableEq
structure Zv where
 at_:Int
 who:Int
 req:Zb
 deriving DecidableEq
structure Zg where
 posts:List Zv
 waits:List Int
 says:List Int
 deriving DecidableEq
structure Zd where
 queue:List Zb
 beat:Int
 done:Int
 tries:Int
 parted:Bool
 broken:Bool
 deriving DecidableEq
structure Z6 where
 at_:Int
 credit:Int
 deriving DecidableEq
structure Zk where
 tokens:Int
 count:Int
 deriving DecidableEq
structure Zf where
 live:Bool
 who:Int
 beat:Int
 first:Bool
 by_:Int
 left:Int
 resp:Int
 second:Bool
 deriving DecidableEq
structure Zl where
 regs:List Int
 timer:Int
 fifo:List Int
 deriving DecidableEq
structure Zj where
 mem:List Int
 dev:Zl
 deriving DecidableEq
structure Zm where
 cycle:Int
 who:Int
 write:Bool
 addr:Int
 size:Int
 value:Int
 resp:Int
 deriving DecidableEq
structure Za where
 conf:Zh
 now:Int
 m:List Zd
 arb:Z6
 buckets:List Zk
 splits:List Int
 holder:Int
 held:Int
 last:Int
 addr:Zf
 data_:Zf
 model:Zj
 picks:Int
 log:List Zm
 deriving DecidableEq
structure Zq where
 cycle:Int
 addr:Int
 kind:Int
 who:Int
 data_:Int
 from_:Int
 ready:Bool
 resp:Int
 got:Int
 deriving DecidableEq
def Zc.ok (z:Zc):Prop:=(Lit.int .i64 z.weight).wf=true/\True/\(Lit.int .i64 z.every).wf=true/\(Lit.int .i64 z.cap).wf=true
def Zh.ok (z:Zh):Prop:=(z.masters.length<=maxLen/\∀x∈z.masters,Zc.ok x)/\(Lit.int .i64 z.quantum).wf=true/\(Lit.int .i64 z.maxWait).wf=true/\(Lit.int .i64 z.maxRetry).wf=true/\(Lit.int .i64 z.maxSplit).wf=true/\(Lit.int .i64 z.lockMost).wf=true
def Zb.ok (z:Zb):Prop:=True/\(Lit.int .i64 z.addr).wf=true/\(Lit.int .i64 z.size).wf=true/\(Lit.int .i64 z.burst).wf=true/\True/\(z.data_.length<=maxLen/\∀x∈z.data_,(Lit.int .i64 x).wf=true)
abbrev Zc.z0:Zc:=⟨0,false,0,0⟩
abbrev Zh.z0:Zh:=⟨[],0,0,0,0,0⟩
abbrev Zb.z0:Zb:=⟨false,0,0,0,false,[]⟩
abbrev Zg.z0:Zg:=⟨[],[],[]⟩
abbrev Zd.z0:Zd:=⟨[],0,0,0,false,false⟩
abbrev Z6.z0:Z6:=⟨0,0⟩
abbrev Zk.z0:Zk:=⟨0,0⟩
abbrev Zf.z0:Zf:=⟨false,0,0,false,0,0,0,false⟩
abbrev Zl.z0:Zl:=⟨[],0,[]⟩
abbrev Zj.z0:Zj:=⟨[],Zl.z0⟩
abbrev Zm.z0:Zm:=⟨0,0,false,0,0,0,0⟩
abbrev Za.z0:Za:=⟨Zh.z0,0,[],Z6.z0,[],[],0,0,0,Zf.z0,Zf.z0,Zj.z0,0,[]⟩
abbrev Zq.z0:Zq:=⟨0,0,0,0,0,0,false,0,0⟩
def Z57 (x0:List Zc) (x1:Int):Option Int:=
 if decide ((Y9 x1 (x0.length:Int)) < 0)=true then (
  some (-1))
 else (
  some (Y9 x1 (x0.length:Int)))
def Zrr (x0:Zh) (x1:Int):Option Int:=
 (Z57 x0.masters x1).bind λr0=>
 if decide (r0 < 0)=true then (
  some (-1))
 else (
  some r0)
def Yex (x0:List Int) (x1:Int):Option Int:=
 if decide ((Y9 x1 (x0.length:Int)) < 0)=true then (
  some (-1))
 else (
  some (Y9 x1 (x0.length:Int)))
def Z0o (x0:Zb) (x1:Int):Option Int:=
 (Yex x0.data_ x1).bind λr0=>
 if decide (r0 < 0)=true then (
  some (-1))
 else (
  some r0)
def Yfp (x0:List Zb) (x1:Int)  (k:Int->Int->Option Int) (v0:Int) (v1:Int):Option Int:=
 if decide (v1 < (x0.length:Int))=true then (
  (idx x0 v1).bind λa0=>
  (Z0o a0 v0).bind λr0=>
  if decide (r0 < 0)=true then (
   some (-1))
  else (
   k r0 (Zu v1 1)))
 else (
  some v0)
def Znc (x0:List Zb) (x1:Int)  : Nat->Int->Int->Option Int
 | 0,_,_=>none
 | m+1,v0,v1=>Yfp x0 x1  (Znc x0 x1  m) v0 v1
def Zxd (x0:List Zb) (x1:Int):Option Int:=
 if decide ((Y9 x1 (x0.length:Int)) < 0)=true then (
  some (-1))
 else (
  Znc x0 x1 FU (Y9 x1 (x0.length:Int)) 0)
def Z1w (x0:Zc):Option Zc:=
 some x0
def Z9l (x0:List Zc)  (k:(List Zc)->Int->Option (List Zc)) (v0:List Zc) (v1:Int):Option (List Zc):=
 if decide (v1 < (x0.length:Int))=true then (
  (idx x0 v1).bind λa0=>
  (Z1w a0).bind λr0=>
  (idx v0 v1).bind λa1=>
  (Qn v0 v1 r0).bind λy0=>
  k y0 (Zu v1 1))
 else (
  some v0)
def Zii (x0:List Zc)  : Nat->(List Zc)->Int->Option (List Zc)
 | 0,_,_=>none
 | m+1,v0,v1=>Z9l x0  (Zii x0  m) v0 v1
def Zr1 (x0:List Zc):Option (List Zc):=
 (mkI 32 (x0.length:Int) Zc.z0).bind λm0=>
 Zii x0 FU m0 0
def Zxf (x0:Zh):Option Zh:=
 (Zr1 x0.masters).bind λr0=>
 some {x0 with masters:=r0}
def Yfn (x0:List Int)  (k:(List Int)->Int->Option (List Int)) (v0:List Int) (v1:Int):Option (List Int):=
 if decide (v1 < (x0.length:Int))=true then (
  (idx x0 v1).bind λa0=>
  (idx v0 v1).bind λa1=>
  (Qn v0 v1 a0).bind λy0=>
  k y0 (Zu v1 1))
 else (
  some v0)
def Znr (x0:List Int)  : Nat->(List Int)->Int->Option (List Int)
 | 0,_,_=>none
 | m+1,v0,v1=>Yfn x0  (Znr x0  m) v0 v1
def Zwo (x0:List Int):Option (List Int):=
 (mkI 8 (x0.length:Int) 0).bind λm0=>
 Znr x0 FU m0 0
def Zqg (x0:Zb):Option Zb:=
 (Zwo x0.data_).bind λr0=>
 some {x0 with data_:=r0}
def Yfh (x0:List Zb)  (k:(List Zb)->Int->Option (List Zb)) (v0:List Zb) (v1:Int):Option (List Zb):=
 if decide (v1 < (x0.length:Int))=true then (
  (idx x0 v1).bind λa0=>
  (Zqg a0).bind λr0=>
  (idx v0 v1).bind λa1=>
  (Qn v0 v1 r0).bind λy0=>
  k y0 (Zu v1 1))
 else (
  some v0)
def Znk (x0:List Zb)  : Nat->(List Zb)->Int->Option (List Zb)
 | 0,_,_=>none
 | m+1,v0,v1=>Yfh x0  (Znk x0  m) v0 v1
def Zwn (x0:List Zb):Option (List Zb):=
 (mkI 64 (x0.length:Int) Zb.z0).bind λm0=>
 Znk x0 FU m0 0
def Yts (x0:Zv):Option Zv:=
 (Zqg x0.req).bind λr0=>
 some {x0 with req:=r0}
def Ycc (x0:List Zv)  (k:(List Zv)->Int->Option (List Zv)) (v0:List Zv) (v1:Int):Option (List Zv):=
 if decide (v1 < (x0.length:Int))=true then (
  (idx x0 v1).bind λa0=>
  (Yts a0).bind λr0=>
  (idx v0 v1).bind λa1=>
  (Qn v0 v1 r0).bind λy0=>
  k y0 (Zu v1 1))
 else (
  some v0)
def Ye1 (x0:List Zv)  : Nat->(List Zv)->Int->Option (List Zv)
 | 0,_,_=>none
 | m+1,v0,v1=>Ycc x0  (Ye1 x0  m) v0 v1
def Z4 (x0:Int) (x1:Int) (x2:Int):Option Bool:=
 if decide (x0≥x1)=true then (
  some (decide (x0<=x2)))
 else (
  some false)
def Zn0 (x0:Zh)  (v0:Bool):Option Int:=
 if v0=true then (
  some 0)
 else (
  some (Jm (Zu x0.maxRetry 2) (Zu x0.maxWait 6)))
def Zi3 (x0:Zh):Option Int:=
 (Z4 x0.maxRetry 0 3).bind λr0=>
 if (!r0)=true then (
  Zn0 x0 true)
 else (
  (Z4 x0.maxWait 0 3).bind λr1=>
  Zn0 x0 (!r1))
def Zfv (x0:Zh):Option Int:=
 (Zi3 x0).bind λr0=>
 if decide (r0=0)=true then (
  some 0)
 else (
  (Z4 x0.lockMost 1 40).bind λr1=>
  if (!r1)=true then (
   some 0)
  else (
   (Zi3 x0).bind λr2=>
   some (Zu (Jm 2 r2) x0.lockMost)))
def Zqs (x0:Zh):Option Bool:=
 (Z4 x0.quantum 1 4).bind λr0=>
 if r0=true then (
  (Zi3 x0).bind λr1=>
  if decide (r1 > 0)=true then (
   (Z4 x0.maxSplit 1 12).bind λr2=>
   if r2=true then (
    (Z4 x0.lockMost 1 40).bind λr3=>
    some r3)
   else (
    some false))
  else (
   some false))
 else (
  some false)
def Zqw (x0:Zh)  (k:Int->Int->Option Bool) (v0:Int) (v1:Int):Option Bool:=
 if decide (v1 < (x0.masters.length:Int))=true then (
  (idx x0.masters v1).bind λa0=>
  (Z4 a0.weight 1 4).bind λr0=>
  if (!r0)=true then (
   some false)
  else (
   if (!a0.prio)=true then (
    if decide (a0.every≠0)=true then (
     some false)
    else (
     if decide (a0.cap≠0)=true then (
      some false)
     else (
      if a0.prio=true then (
       (Zfv x0).bind λr1=>
       (Z4 a0.every (Jm (Jm 2 v0) r1) 1000).bind λr2=>
       if (!r2)=true then (
        some false)
       else (
        (Z4 a0.cap 1 8).bind λr3=>
        if (!r3)=true then (
         some false)
        else (
         k v0 (Zu v1 1))))
      else (
       k v0 (Zu v1 1)))))
   else (
    if a0.prio=true then (
     (Zfv x0).bind λr1=>
     (Z4 a0.every (Jm (Jm 2 v0) r1) 1000).bind λr2=>
     if (!r2)=true then (
      some false)
     else (
      (Z4 a0.cap 1 8).bind λr3=>
      if (!r3)=true then (
       some false)
      else (
       k v0 (Zu v1 1))))
    else (
     k v0 (Zu v1 1)))))
 else (
  (Z4 (x0.masters.length:Int) 1 4).bind λr4=>
  if r4=true then (
   (Zqs x0).bind λr5=>
   some r5)
  else (
   some false))
def Zan (x0:Zh)  : Nat->Int->Int->Option Bool
 | 0,_,_=>none
 | m+1,v0,v1=>Zqw x0  (Zan x0  m) v0 v1
def Zr8 (x0:Zh)  (k:Int->Int->Option Bool) (v0:Int) (v2:Int):Option Bool:=
 if decide (v2 < (x0.masters.length:Int))=true then (
  (idx x0.masters v2).bind λa1=>
  if a1.prio=true then (
   k (Zu v0 1) (Zu v2 1))
  else (
   k v0 (Zu v2 1)))
 else (
  Zan x0 FU v0 0)
def Znn (x0:Zh)  : Nat->Int->Int->Option Bool
 | 0,_,_=>none
 | m+1,v0,v2=>Zr8 x0  (Znn x0  m) v0 v2
def Zdq (x0:Zh):Option Bool:=
 Znn x0 FU 0 0
def Zaz (x0:Int):Option Int:=
 (Z4 x0 0 3).bind λr0=>
 if (!r0)=true then (
  some 0)
 else (
  (idx [1,4,4,8] x0).bind λa0=>
  some a0)
def Jg (x0:Int):Option Int:=
 (Z4 x0 0 2).bind λr0=>
 if (!r0)=true then (
  some 0)
 else (
  (nnI x0).bind λn0=>
  some (Ybx 1 x0))
def Za0 (x0:Int) (x1:Int):Option Bool:=
 (Jg x1).bind λr0=>
 if decide (r0 > 0)=true then (
  if decide (x0≥0)=true then (
   (Jg x1).bind λr1=>
   (nzI r1).bind λn0=>
   some (decide ((Zdh x0 r1)=0)))
  else (
   some false))
 else (
  some false)
def Zjd (x0:Int) (x1:Int) (x2:Int)  (v0:Int) (v1:Bool):Option Int:=
 if v1=true then (
  some (Y9 (Zu x0 v0) (Jm 4 v0)))
 else (
  some (Zu x0 v0))
def Zed (x0:Int) (x1:Int) (x2:Int)  (v0:Int) (v2:Bool):Option Int:=
 if v2=true then (
  some (-1))
 else (
  if decide (x2=2)=true then (
   (nzI (Jm 4 v0)).bind λn0=>
   Zjd x0 x1 x2 v0 (decide ((Zdh (Zu x0 v0) (Jm 4 v0))=0)))
  else (
   Zjd x0 x1 x2 v0 false))
def Zmr (x0:Int) (x1:Int) (x2:Int):Option Int:=
 (Jg x1).bind λr0=>
 (Za0 x0 x1).bind λr1=>
 if (!r1)=true then (
  Zed x0 x1 x2 r0 true)
 else (
  (Z4 x0 0 511).bind λr2=>
  if (!r2)=true then (
   Zed x0 x1 x2 r0 true)
  else (
   (Zaz x2).bind λr3=>
   Zed x0 x1 x2 r0 (decide (r3=0))))
def Zct (x0:Int) (x1:Int) (x2:Int) (k_L1:Int->(List Int)->Option (List Int)) (v0:Int) (v1:List Int) (v2:Bool):Option (List Int):=
 if v2=true then (
  (Xt 8 v1 [v0]).bind λz0=>
  (Zmr v0 x1 x2).bind λr0=>
  k_L1 r0 z0)
 else (
  (Zaz x2).bind λr1=>
  if decide ((v1.length:Int) < r1)=true then (
   some [])
  else (
   some v1))
def Zbz (x0:Int) (x1:Int) (x2:Int)  (k:Int->(List Int)->Option (List Int)) (v0:Int) (v1:List Int):Option (List Int):=
 (Zaz x2).bind λr2=>
 if decide ((v1.length:Int) < r2)=true then (
  (Zmr v0 x1 x2).bind λr3=>
  Zct x0 x1 x2 k v0 v1 (decide (r3≥0)))
 else (
  Zct x0 x1 x2 k v0 v1 false)
def Zga (x0:Int) (x1:Int) (x2:Int)  : Nat->Int->(List Int)->Option (List Int)
 | 0,_,_=>none
 | m+1,v0,v1=>Zbz x0 x1 x2  (Zga x0 x1 x2  m) v0 v1
def Zht (x0:Int) (x1:Int) (x2:Int):Option (List Int):=
 Zga x0 x1 x2 FU x0 []
def Zp3 (x0:Int) (x1:Int) (x2:Int)  (k:(List Int)->Int->Option Bool) (v0:List Int) (v1:Int):Option Bool:=
 if decide (v1 < (v0.length:Int))=true then (
  (idx v0 v1).bind λa0=>
  (idx v0 0).bind λa1=>
  if decide ((Zq4 a0 64)≠(Zq4 a1 64))=true then (
   some false)
  else (
   k v0 (Zu v1 1)))
 else (
  some (decide ((v0.length:Int) > 0)))
def Zlm (x0:Int) (x1:Int) (x2:Int)  : Nat->(List Int)->Int->Option Bool
 | 0,_,_=>none
 | m+1,v0,v1=>Zp3 x0 x1 x2  (Zlm x0 x1 x2  m) v0 v1
def Zud (x0:Int) (x1:Int) (x2:Int):Option Bool:=
 (Zht x0 x1 x2).bind λr0=>
 Zlm x0 x1 x2 FU r0 0
def Qk (x0:Int):Option Int:=
 (Jg x0).bind λr0=>
 if decide (r0=0)=true then (
  some 0)
 else (
  (Jg x0).bind λr1=>
  (nnI (Jm 8 r1)).bind λn0=>
  some (Ybx 1 (Jm 8 r1)))
def Zs5 (x0:Zb)  (k:Int->Option Bool) (v0:Int):Option Bool:=
 if decide (v0 < (x0.data_.length:Int))=true then (
  (idx x0.data_ v0).bind λa0=>
  (Qk x0.size).bind λr0=>
  (Z4 a0 0 (Y9 r0 1)).bind λr1=>
  if (!r1)=true then (
   some false)
  else (
   k (Zu v0 1)))
 else (
  if decide ((x0.data_.length:Int)=0)=true then (
   if (!x0.write)=true then (
    some true)
   else (
    (Zaz x0.burst).bind λr2=>
    if decide ((x0.data_.length:Int)=r2)=true then (
     some x0.write)
    else (
     some false)))
  else (
   (Zaz x0.burst).bind λr2=>
   if decide ((x0.data_.length:Int)=r2)=true then (
    some x0.write)
   else (
    some false)))
def Zpk (x0:Zb)  : Nat->Int->Option Bool
 | 0,_=>none
 | m+1,v0=>Zs5 x0  (Zpk x0  m) v0
def Zqm (x0:Zb):Option Bool:=
 (Zud x0.addr x0.size x0.burst).bind λr3=>
 if (!r3)=true then (
  some false)
 else (
  Zpk x0 FU 0)
def Zq2 (x0:Zh):Option Zh:=
 (Xt 32 [] x0.masters).bind λz0=>
 some {x0 with masters:=z0}
def Z48  : Option Zl:=
 (mkI 8 4 0).bind λm0=>
 some (Zl.mk m0 0 [])
def Zr7  : Option Zj:=
 (mkI 8 192 0).bind λm0=>
 (Z48).bind λr0=>
 some (Zj.mk m0 r0)
def Zph (x0:Zc):Option Zk:=
 if (!x0.prio)=true then (
  some Zk.z0)
 else (
  some (Zk.mk (Zkh 0 x0.cap) 0))
def Zlr (x0:Zh)  (k:Za->Int->Option (Za×Bool)) (vb0:Za) (v0:Int):Option (Za×Bool):=
 if decide (v0 < (x0.masters.length:Int))=true then (
  (Xt 56 vb0.m [Zd.z0]).bind λz0=>
  (idx x0.masters v0).bind λa0=>
  (Zph a0).bind λr0=>
  (Xt 16 vb0.buckets [r0]).bind λz1=>
  (Xt 8 vb0.splits [0]).bind λz2=>
  k {vb0 with m:=z0,buckets:=z1,splits:=z2} (Zu v0 1))
 else (
  some (vb0,true))
def Zn2 (x0:Zh)  : Nat->Za->Int->Option (Za×Bool)
 | 0,_,_=>none
 | m+1,vb0,v0=>Zlr x0  (Zn2 x0  m) vb0 v0
def Zwz (x0:Zh):Option (Za×Bool):=
 (Zdq x0).bind λr1=>
 if (!r1)=true then (
  some (Za.z0,false))
 else (
  (Zq2 x0).bind λr2=>
  (Zr7).bind λr3=>
  Zn2 x0 FU (Za.mk r2 0 [] Z6.z0 [] [] (-1) 0 (-1) Zf.z0 Zf.z0 r3 0 []) 0)
def Ziv (x0:Zb):Option Zb:=
 (Xt 8 [] x0.data_).bind λz0=>
 some {x0 with data_:=z0}
def Yb5 (x0:Zd)  (k:(List Zb)->Int->Option Zd) (v0:List Zb) (v1:Int):Option Zd:=
 if decide (v1 < (x0.queue.length:Int))=true then (
  (idx x0.queue v1).bind λa0=>
  (Ziv a0).bind λr0=>
  (Xt 64 v0 [r0]).bind λz0=>
  k z0 (Zu v1 1))
 else (
  some {x0 with queue:=v0})
def Zlg (x0:Zd)  : Nat->(List Zb)->Int->Option Zd
 | 0,_,_=>none
 | m+1,v0,v1=>Yb5 x0  (Zlg x0  m) v0 v1
def Zdw (x0:Zd):Option Zd:=
 Zlg x0 FU [] 0
def Zrw (x0:Zl):Option Zl:=
 (Xt 8 [] x0.regs).bind λz0=>
 (Xt 8 [] x0.fifo).bind λz1=>
 some (Zl.mk z0 x0.timer z1)
def Zrk (x0:Zj):Option Zj:=
 (Xt 8 [] x0.mem).bind λz0=>
 (Zrw x0.dev).bind λr0=>
 some (Zj.mk z0 r0)
def Zi9 (x0:Za)  (k:Za->Int->Option Za) (vb0:Za) (v0:Int):Option Za:=
 if decide (v0 < (x0.m.length:Int))=true then (
  (idx x0.m v0).bind λa0=>
  (Zdw a0).bind λr0=>
  (Xt 56 vb0.m [r0]).bind λz0=>
  k {vb0 with m:=z0} (Zu v0 1))
 else (
  (Xt 16 [] x0.buckets).bind λz1=>
  (Xt 8 [] x0.splits).bind λz2=>
  (Zrk x0.model).bind λr1=>
  (Xt 56 [] x0.log).bind λz3=>
  some {vb0 with buckets:=z1,splits:=z2,model:=r1,log:=z3})
def Zfu (x0:Za)  : Nat->Za->Int->Option Za
 | 0,_,_=>none
 | m+1,vb0,v0=>Zi9 x0  (Zfu x0  m) vb0 v0
def Zor (x0:Za):Option Za:=
 (Zq2 x0.conf).bind λr2=>
 Zfu x0 FU {x0 with conf:=r2,m:=[]} 0
def Znl (x0:Zh) (x1:Int)  (v0:Bool):Option Int:=
 if v0=true then (
  some 0)
 else (
  (idx x0.masters x1).bind λa0=>
  some (Jm a0.weight x0.quantum))
def Zi1 (x0:Zh) (x1:Int):Option Int:=
 (Zdq x0).bind λr0=>
 if (!r0)=true then (
  Znl x0 x1 true)
 else (
  (Z4 x1 0 (Y9 (x0.masters.length:Int) 1)).bind λr1=>
  Znl x0 x1 (!r1))
def Zqk (x0:Z6) (x1:Zh):Option Bool:=
 (Zdq x1).bind λr0=>
 if r0=true then (
  (Z4 x0.at_ 0 (Y9 (x1.masters.length:Int) 1)).bind λr1=>
  if r1=true then (
   (Zi1 x1 x0.at_).bind λr2=>
   (Z4 x0.credit 0 r2).bind λr3=>
   some r3)
  else (
   some false))
 else (
  some false)
def Zp1 (x0:List Int)  (k:Int->Option Bool) (v0:Int):Option Bool:=
 if decide (v0 < (x0.length:Int))=true then (
  (idx x0 v0).bind λa0=>
  (Z4 a0 0 255).bind λr0=>
  if (!r0)=true then (
   some false)
  else (
   k (Zu v0 1)))
 else (
  some (decide ((x0.length:Int)<=512)))
def Zlf (x0:List Int)  : Nat->Int->Option Bool
 | 0,_=>none
 | m+1,v0=>Zp1 x0  (Zlf x0  m) v0
def Zop (x0:List Int):Option Bool:=
 Zlf x0 FU 0
def Zp6 (x0:List Int)  (k:Int->Option Bool) (v0:Int):Option Bool:=
 if decide (v0 < (x0.length:Int))=true then (
  (idx x0 v0).bind λa0=>
  (Qk 2).bind λr0=>
  (Z4 a0 0 (Y9 r0 1)).bind λr1=>
  if (!r1)=true then (
   some false)
  else (
   k (Zu v0 1)))
 else (
  some true)
def Zkp (x0:List Int)  : Nat->Int->Option Bool
 | 0,_=>none
 | m+1,v0=>Zp6 x0  (Zkp x0  m) v0
def Zo7 (x0:List Int):Option Bool:=
 Zkp x0 FU 0
def Zvo (x0:Zl):Option Bool:=
 if decide ((x0.regs.length:Int)=4)=true then (
  (Zo7 x0.regs).bind λr0=>
  if r0=true then (
   (Qk 2).bind λr1=>
   (Z4 x0.timer 0 (Y9 r1 1)).bind λr2=>
   if r2=true then (
    if decide ((x0.fifo.length:Int)<=4)=true then (
     (Zo7 x0.fifo).bind λr3=>
     some r3)
    else (
     some false))
   else (
    some false))
  else (
   some false))
 else (
  some false)
def Zoz (x0:Zj):Option Bool:=
 if decide ((x0.mem.length:Int)=192)=true then (
  (Zop x0.mem).bind λr0=>
  if r0=true then (
   (Zvo x0.dev).bind λr1=>
   some r1)
  else (
   some false))
 else (
  some false)
def Zc0 (x0:Zd):Option Int:=
 if decide ((x0.queue.length:Int)=0)=true then (
  some 0)
 else (
  (idx x0.queue 0).bind λa0=>
  (Zaz a0.burst).bind λr0=>
  some r0)
def Zak (x0:Zd)  (v0:Bool):Option Bool:=
 if v0=true then (
  some false)
 else (
  if decide ((x0.queue.length:Int)=0)=true then (
   if decide (x0.beat=0)=true then (
    if decide (x0.done=0)=true then (
     if decide (x0.tries=0)=true then (
      if (!x0.parted)=true then (
       some (!x0.broken))
      else (
       some false))
     else (
      some false))
    else (
     some false))
   else (
    some false))
  else (
   (Zc0 x0).bind λr0=>
   (Z4 x0.done 0 (Y9 r0 1)).bind λr1=>
   if r1=true then (
    (Zc0 x0).bind λr2=>
    (Z4 x0.beat x0.done (Zi4 (Zu x0.done 2) r2)).bind λr3=>
    some r3)
   else (
    some false)))
def Zol (x0:Zd)  (k:Int->Option Bool) (v1:Int):Option Bool:=
 if decide (v1 < (x0.queue.length:Int))=true then (
  (idx x0.queue v1).bind λa0=>
  (Zqm a0).bind λr4=>
  if (!r4)=true then (
   some false)
  else (
   k (Zu v1 1)))
 else (
  if decide ((x0.queue.length:Int) > 4)=true then (
   Zak x0 true)
  else (
   Zak x0 (decide (x0.tries < 0))))
def Zjl (x0:Zd)  : Nat->Int->Option Bool
 | 0,_=>none
 | m+1,v1=>Zol x0  (Zjl x0  m) v1
def Za9 (x0:Zd):Option Bool:=
 Zjl x0 FU 0
def Z7c (x0:Zd) (x1:Zh):Option Bool:=
 (Zdq x1).bind λr0=>
 if r0=true then (
  (Za9 x0).bind λr1=>
  if r1=true then (
   some (decide (x0.tries<=x1.maxRetry)))
  else (
   some false))
 else (
  some false)
def Zer (x0:Zk) (x1:Zc):Option Bool:=
 if (!x1.prio)=true then (
  some (decide (x0.tokens=0)&&(decide (x0.count=0)&&true)))
 else (
  (Z4 x0.tokens 0 x1.cap).bind λr0=>
  if r0=true then (
   (Z4 x0.count 0 (Y9 x1.every 1)).bind λr1=>
   some r1)
  else (
   some false))
def Zkw (x0:Za) (x1:Int)  (v0:Int):Option Int:=
 if x0.data_.live=true then (
  if decide (x0.data_.who=x1)=true then (
   some (Zu v0 1))
  else (
   some v0))
 else (
  some v0)
def Zkt (x0:Za) (x1:Int)  (v1:Bool):Option Int:=
 if v1=true then (
  Zkw x0 x1 (Zu 0 1))
 else (
  Zkw x0 x1 0)
def Zt1 (x0:Za) (x1:Int):Option Int:=
 if x0.addr.live=true then (
  Zkt x0 x1 (decide (x0.addr.who=x1)))
 else (
  Zkt x0 x1 false)
def Zsq (x0:Int):Option ByteArray:=
 (Z4 x0 0 3).bind λr0=>
 if (!r0)=true then (
  some ByteArray.empty)
 else (
  (idx [(strL [111,107,97,121]),(strL [101,114,114,111,114]),(strL [114,101,116,114,121]),(strL [115,112,108,105,116])] x0).bind λa0=>
  some a0)
def Ye (x0:Za) (x1:Zf) (x2:Bool)  (vb0:Zd) (v0:Bool):Option Bool:=
 if v0=true then (
  some false)
 else (
  if decide (x1.beat=vb0.done)=true then (
   (Z4 x1.left 0 (Zu x0.conf.maxWait 2)).bind λr0=>
   if r0=true then (
    (Zsq x1.resp).bind λr1=>
    if (!(r1.toList == ByteArray.empty.toList))=true then (
     if (!x1.second)=true then (
      some true)
     else (
      if decide (x1.resp≠0)=true then (
       some (decide (x1.left=0)))
      else (
       some false)))
    else (
     some false))
   else (
    some false))
  else (
   some false))
def Q0 (x0:Za) (x1:Zf) (x2:Bool)  (v1:Bool):Option Bool:=
 if v1=true then (
  some false)
 else (
  (idx x0.m x1.who).bind λa0=>
  if (!x2)=true then (
   if decide (x1.beat=(Y9 a0.beat 1))=true then (
    if decide (x1.left=0)=true then (
     if decide (x1.resp=0)=true then (
      some (!x1.second))
     else (
      some false))
    else (
     some false))
   else (
    some false))
  else (
   if decide (x1.resp=2)=true then (
    if decide (a0.tries≥x0.conf.maxRetry)=true then (
     Ye x0 x1 x2 a0 true)
    else (
     if decide (x1.resp=3)=true then (
      if a0.parted=true then (
       Ye x0 x1 x2 a0 true)
      else (
       if decide (x0.holder=x1.who)=true then (
        Ye x0 x1 x2 a0 true)
       else (
        if x1.second=true then (
         Ye x0 x1 x2 a0 x0.addr.live)
        else (
         Ye x0 x1 x2 a0 false))))
     else (
      if x1.second=true then (
       Ye x0 x1 x2 a0 x0.addr.live)
      else (
       Ye x0 x1 x2 a0 false))))
   else (
    if decide (x1.resp=3)=true then (
     if a0.parted=true then (
      Ye x0 x1 x2 a0 true)
     else (
      if decide (x0.holder=x1.who)=true then (
       Ye x0 x1 x2 a0 true)
      else (
       if x1.second=true then (
        Ye x0 x1 x2 a0 x0.addr.live)
       else (
        Ye x0 x1 x2 a0 false))))
    else (
     if x1.second=true then (
      Ye x0 x1 x2 a0 x0.addr.live)
     else (
      Ye x0 x1 x2 a0 false)))))
def Zcl (x0:Za) (x1:Zf) (x2:Bool):Option Bool:=
 if (!x1.live)=true then (
  some ((x1.live == false)&&(decide (x1.who=0)&&(decide (x1.beat=0)&&((x1.first == false)&&(decide (x1.by_=0)&&(decide (x1.left=0)&&(decide (x1.resp=0)&&((x1.second == false)&&true)))))))))
 else (
  (Z4 x1.who 0 (Y9 (x0.m.length:Int) 1)).bind λr2=>
  if (!r2)=true then (
   Q0 x0 x1 x2 true)
  else (
   (Z4 x1.by_ 1 3).bind λr3=>
   if (!r3)=true then (
    Q0 x0 x1 x2 true)
   else (
    (idx x0.splits x1.who).bind λa1=>
    Q0 x0 x1 x2 (decide (a1 > 0)))))
def Zbe (x0:Za)  (v0:Bool):Option Bool:=
 if v0=true then (
  some false)
 else (
  (idx x0.m x0.holder).bind λa0=>
  if decide ((a0.queue.length:Int) > 0)=true then (
   (idx a0.queue 0).bind λa1=>
   if a1.lock=true then (
    if (!a0.broken)=true then (
     (idx x0.splits x0.holder).bind λa2=>
     some (decide (a2=0)))
    else (
     some false))
   else (
    some false))
  else (
   some false))
def Zit (x0:Za)  (k:Int->Option Bool) (v1:Int):Option Bool:=
 if decide (v1 < (x0.m.length:Int))=true then (
  (idx x0.m v1).bind λa3=>
  if decide (a3.beat > 0)=true then (
   (idx a3.queue 0).bind λa4=>
   if a4.lock=true then (
    if (!a3.broken)=true then (
     if decide (x0.holder≠v1)=true then (
      some false)
     else (
      k (Zu v1 1)))
    else (
     k (Zu v1 1)))
   else (
    k (Zu v1 1)))
  else (
   k (Zu v1 1)))
 else (
  if decide (x0.holder=(-1))=true then (
   some (decide (x0.held=0)))
  else (
   (Z4 x0.holder 0 (Y9 (x0.m.length:Int) 1)).bind λr0=>
   if (!r0)=true then (
    Zbe x0 true)
   else (
    (Z4 x0.held 0 x0.conf.lockMost).bind λr1=>
    Zbe x0 (!r1))))
def Zsb (x0:Za)  : Nat->Int->Option Bool
 | 0,_=>none
 | m+1,v1=>Zit x0  (Zsb x0  m) v1
def Zot (x0:Za):Option Bool:=
 Zsb x0 FU 0
def Zk2 (x0:Za)  (k:Int->Option Bool) (v0:Int):Option Bool:=
 if decide (v0 < (x0.log.length:Int))=true then (
  (idx x0.log v0).bind λa0=>
  (Z4 a0.cycle 0 (Y9 x0.now 1)).bind λr0=>
  if (!r0)=true then (
   some false)
  else (
   if decide (v0 > 0)=true then (
    (idx x0.log (Y9 v0 1)).bind λa1=>
    if decide (a0.cycle<=a1.cycle)=true then (
     some false)
    else (
     (Z4 a0.who 0 (Y9 (x0.m.length:Int) 1)).bind λr1=>
     if (!r1)=true then (
      some false)
     else (
      (Za0 a0.addr a0.size).bind λr2=>
      if (!r2)=true then (
       some false)
      else (
       (Z4 a0.addr 0 511).bind λr3=>
       if (!r3)=true then (
        some false)
       else (
        (Qk a0.size).bind λr4=>
        (Z4 a0.value 0 (Y9 r4 1)).bind λr5=>
        if (!r5)=true then (
         some false)
        else (
         (Z4 a0.resp 0 1).bind λr6=>
         if (!r6)=true then (
          some false)
         else (
          k (Zu v0 1))))))))
   else (
    (Z4 a0.who 0 (Y9 (x0.m.length:Int) 1)).bind λr1=>
    if (!r1)=true then (
     some false)
    else (
     (Za0 a0.addr a0.size).bind λr2=>
     if (!r2)=true then (
      some false)
     else (
      (Z4 a0.addr 0 511).bind λr3=>
      if (!r3)=true then (
       some false)
      else (
       (Qk a0.size).bind λr4=>
       (Z4 a0.value 0 (Y9 r4 1)).bind λr5=>
       if (!r5)=true then (
        some false)
       else (
        (Z4 a0.resp 0 1).bind λr6=>
        if (!r6)=true then (
         some false)
        else (
         k (Zu v0 1)))))))))
 else (
  some true)
def Znv (x0:Za)  : Nat->Int->Option Bool
 | 0,_=>none
 | m+1,v0=>Zk2 x0  (Znv x0  m) v0
def Zrz (x0:Za):Option Bool:=
 Znv x0 FU 0
def Zng (x0:Za)  (k:Int->Option Bool) (v0:Int):Option Bool:=
 if decide (v0 < (x0.conf.masters.length:Int))=true then (
  (idx x0.m v0).bind λa0=>
  (Z7c a0 x0.conf).bind λr0=>
  if (!r0)=true then (
   some false)
  else (
   (idx x0.buckets v0).bind λa1=>
   (idx x0.conf.masters v0).bind λa2=>
   (Zer a1 a2).bind λr1=>
   if (!r1)=true then (
    some false)
   else (
    (idx x0.splits v0).bind λa3=>
    (Z4 a3 0 x0.conf.maxSplit).bind λr2=>
    if (!r2)=true then (
     some false)
    else (
     (Zt1 x0 v0).bind λr3=>
     if decide ((Y9 a0.beat a0.done)≠r3)=true then (
      some false)
     else (
      k (Zu v0 1))))))
 else (
  (Zcl x0 x0.data_ true).bind λr4=>
  if r4=true then (
   (Zcl x0 x0.addr false).bind λr5=>
   if r5=true then (
    (Zot x0).bind λr6=>
    if r6=true then (
     (Zrz x0).bind λr7=>
     some r7)
    else (
     some false))
   else (
    some false))
  else (
   some false))
def Zpd (x0:Za)  : Nat->Int->Option Bool
 | 0,_=>none
 | m+1,v0=>Zng x0  (Zpd x0  m) v0
def Wu (x0:Za)  (v1:Bool):Option Bool:=
 if v1=true then (
  some false)
 else (
  Zpd x0 FU 0)
def Zmv (x0:Za):Option Bool:=
 (Zdq x0.conf).bind λr8=>
 if (!r8)=true then (
  Wu x0 true)
 else (
  (Z4 x0.now 0 4000).bind λr9=>
  if (!r9)=true then (
   Wu x0 true)
  else (
   if decide ((x0.m.length:Int)≠(x0.conf.masters.length:Int))=true then (
    Wu x0 true)
   else (
    if decide ((x0.buckets.length:Int)≠(x0.conf.masters.length:Int))=true then (
     Wu x0 true)
    else (
     if decide ((x0.splits.length:Int)≠(x0.conf.masters.length:Int))=true then (
      Wu x0 true)
     else (
      (Zqk x0.arb x0.conf).bind λr10=>
      if (!r10)=true then (
       Wu x0 true)
      else (
       (Z4 x0.last (-1) (Y9 (x0.conf.masters.length:Int) 1)).bind λr11=>
       if (!r11)=true then (
        Wu x0 true)
       else (
        (Zoz x0.model).bind λr12=>
        if (!r12)=true then (
         Wu x0 true)
        else (
         if decide (x0.picks < 0)=true then (
          Wu x0 true)
         else (
          Wu x0 (decide (x0.picks > x0.now)))))))))))
def Ybw (x0:Za)  (k:Int->Option Bool) (v0:Int):Option Bool:=
 if decide (v0 < (x0.m.length:Int))=true then (
  (idx x0.m v0).bind λa0=>
  if decide ((a0.queue.length:Int) > 0)=true then (
   some false)
  else (
   k (Zu v0 1)))
 else (
  some true)
def Zlh (x0:Za)  : Nat->Int->Option Bool
 | 0,_=>none
 | m+1,v0=>Ybw x0  (Zlh x0  m) v0
def Zt2 (x0:Za):Option Bool:=
 Zlh x0 FU 0
def Zlk (x0:Zd) (x1:Int)  (v0:Bool):Option Int:=
 if v0=true then (
  some (-1))
 else (
  (idx x0.queue 0).bind λa0=>
  (Zht a0.addr a0.size a0.burst).bind λr0=>
  (idx r0 x1).bind λa1=>
  some a1)
def Zgz (x0:Zd) (x1:Int):Option Int:=
 (Za9 x0).bind λr1=>
 if (!r1)=true then (
  Zlk x0 x1 true)
 else (
  (Zc0 x0).bind λr2=>
  (Z4 x1 0 (Y9 r2 1)).bind λr3=>
  Zlk x0 x1 (!r3))
def Zf7 (x0:Za)  (vb0:Zq):Option Zq:=
 if x0.data_.live=true then (
  (idx x0.m x0.data_.who).bind λa0=>
  (Zgz a0 x0.data_.beat).bind λr0=>
  some {vb0 with data_:=r0,from_:=x0.data_.who})
 else (
  some vb0)
def Zt0 (x0:Za):Option Zq:=
 if x0.addr.live=true then (
  (idx x0.m x0.addr.who).bind λa1=>
  (Zgz a1 x0.addr.beat).bind λr1=>
  if x0.addr.first=true then (
   Zf7 x0 (Zq.mk x0.now r1 2 x0.addr.who (-1) (-1) true 0 (-1)))
  else (
   Zf7 x0 (Zq.mk x0.now r1 3 x0.addr.who (-1) (-1) true 0 (-1))))
 else (
  Zf7 x0 (Zq.mk x0.now (-1) 0 (-1) (-1) (-1) true 0 (-1)))
def Zih (x0:Zg) (x1:Int)  (k:(List Zv)->Int->Option (List Zv)) (v0:List Zv) (v1:Int):Option (List Zv):=
 if decide (v1 < (x0.posts.length:Int))=true then (
  (idx x0.posts v1).bind λa0=>
  if decide (a0.at_=x1)=true then (
   (Ziv a0.req).bind λr0=>
   (Xt 80 v0 [{a0 with req:=r0}]).bind λz0=>
   k z0 (Zu v1 1))
  else (
   k v0 (Zu v1 1)))
 else (
  some v0)
def Zk4 (x0:Zg) (x1:Int)  : Nat->(List Zv)->Int->Option (List Zv)
 | 0,_,_=>none
 | m+1,v0,v1=>Zih x0 x1  (Zk4 x0 x1  m) v0 v1
def Zuc (x0:Zg) (x1:Int):Option (List Zv):=
 Zk4 x0 x1 FU [] 0
def Zfj (x0:Zd) (x1:Zb)  (vb0:Zd) (v0:Bool):Option (Zd×Bool):=
 if v0=true then (
  some (vb0,false))
 else (
  (Ziv x1).bind λr0=>
  (Xt 64 vb0.queue [r0]).bind λz0=>
  some ({vb0 with queue:=z0},true))
def Zt8 (x0:Zd) (x1:Zb):Option (Zd×Bool):=
 (Zdw x0).bind λr1=>
 (Za9 x0).bind λr2=>
 if (!r2)=true then (
  Zfj x0 x1 r1 true)
 else (
  (Zqm x1).bind λr3=>
  if (!r3)=true then (
   Zfj x0 x1 r1 true)
  else (
   Zfj x0 x1 r1 (decide ((x0.queue.length:Int)=4))))
def Zfl (x0:Zk) (x1:Zc)  (v0:Bool):Option Zk:=
 if v0=true then (
  some x0)
 else (
  if decide ((Zu x0.count 1)=x1.every)=true then (
   some (Zk.mk (Zi4 x1.cap (Zu x0.tokens 1)) 0))
  else (
   some (Zk.mk x0.tokens (Zu x0.count 1))))
def Znp (x0:Zk) (x1:Zc):Option Zk:=
 if (!x1.prio)=true then (
  Zfl x0 x1 true)
 else (
  (Zer x0 x1).bind λr0=>
  Zfl x0 x1 (!r0))
def Zkq (x0:Zd)  (vb0:Zd) (v0:Bool):Option (Zd×Bool):=
 if v0=true then (
  some (vb0,false))
 else (
  some ({vb0 with beat:=(Y9 vb0.beat 1)},true))
def Zui (x0:Zd):Option (Zd×Bool):=
 (Zdw x0).bind λr0=>
 (Za9 x0).bind λr1=>
 if (!r1)=true then (
  Zkq x0 r0 true)
 else (
  Zkq x0 r0 (decide (x0.beat=x0.done)))
def Zgb (x0:Zk) (x1:Zc)  (v0:Bool):Option Zk:=
 if v0=true then (
  some (Zk.mk (Zi4 x1.cap (Zu x0.tokens 1)) x0.count))
 else (
  some x0)
def Zns (x0:Zk) (x1:Zc):Option Zk:=
 if x1.prio=true then (
  (Zer x0 x1).bind λr0=>
  Zgb x0 x1 r0)
 else (
  Zgb x0 x1 false)
def Zlc (x0:Z6) (x1:Zh) (x2:Int)  (v0:Bool):Option Z6:=
 if v0=true then (
  (Zi1 x1 x2).bind λr0=>
  some (Z6.mk x0.at_ (Zi4 r0 (Zu x0.credit 1))))
 else (
  some x0)
def Zt4 (x0:Z6) (x1:Zh) (x2:Int):Option Z6:=
 (Zqk x0 x1).bind λr1=>
 if r1=true then (
  Zlc x0 x1 x2 (decide (x0.at_=x2)))
 else (
  Zlc x0 x1 x2 false)
def Zka (x0:Za) (x1:Zf):Option Za:=
 (idx x0.m x1.who).bind λa0=>
 (Zui a0).bind λr0=>
 (Qn x0.m x1.who r0.1).bind λy0=>
 if decide (x1.by_=1)=true then (
  (idx x0.buckets x1.who).bind λa1=>
  (idx x0.conf.masters x1.who).bind λa2=>
  (Zns a1 a2).bind λr1=>
  (Qn x0.buckets x1.who r1).bind λy1=>
  some {x0 with m:=y0,buckets:=y1})
 else (
  if decide (x1.by_=2)=true then (
   (Zt4 x0.arb x0.conf x1.who).bind λr2=>
   some {x0 with m:=y0,arb:=r2})
  else (
   some {x0 with m:=y0}))
def Zx7 (x0:List Int) (x1:Int)  (v0:Bool):Option Int:=
 if v0=true then (
  some 0)
 else (
  (nzI (x0.length:Int)).bind λn0=>
  (idx x0 (Zdh x1 (x0.length:Int))).bind λa0=>
  some a0)
def Zzf (x0:List Int) (x1:Int):Option Int:=
 if decide ((x0.length:Int)=0)=true then (
  Zx7 x0 x1 true)
 else (
  Zx7 x0 x1 (decide (x1 < 0)))
def Zt3 (x0:Zh) (x1:Zg) (x2:Int):Option Int:=
 (Zzf x1.waits x2).bind λr0=>
 some (Zkh 1 (Zi4 x0.maxSplit (Zu (Zi4 r0 99) 1)))
def Zma (x0:Zb) (x1:Int):Option Int:=
 if (!x0.write)=true then (
  some 0)
 else (
  (idx x0.data_ x1).bind λa0=>
  some a0)
def Zr4 (x0:Int)  (v0:Bool):Option Int:=
 if v0=true then (
  some 0)
 else (
  if decide (x0 < 128)=true then (
   some 1)
  else (
   if decide (x0 < 192)=true then (
    some 2)
   else (
    some 3)))
def Zts (x0:Int):Option Int:=
 if decide (x0 < 0)=true then (
  Zr4 x0 true)
 else (
  Zr4 x0 (decide (x0≥224)))
def Zqu (x0:List Int) (x1:Int) (x2:Int):Option Bool:=
 (Zop x0).bind λr0=>
 if r0=true then (
  (Za0 x1 x2).bind λr1=>
  if r1=true then (
   (Jg x2).bind λr2=>
   some (decide (x1<=(Y9 (x0.length:Int) r2))))
  else (
   some false))
 else (
  some false)
def Zfr (x0:List Int) (x1:Int) (x2:Int) (x3:Int)  (k:Int->(List Int)->Int->Option (List Int×Bool)) (v0:Int) (v1:List Int) (v2:Int):Option (List Int×Bool):=
 (Jg x2).bind λr0=>
 if decide (v2 < r0)=true then (
  (idx v1 (Zu x1 v2)).bind λa0=>
  (Qn v1 (Zu x1 v2) (Zdh v0 256)).bind λy0=>
  k (Zq4 v0 256) y0 (Zu v2 1))
 else (
  some (v1,true))
def Zm7 (x0:List Int) (x1:Int) (x2:Int) (x3:Int)  : Nat->Int->(List Int)->Int->Option (List Int×Bool)
 | 0,_,_,_=>none
 | m+1,v0,v1,v2=>Zfr x0 x1 x2 x3  (Zm7 x0 x1 x2 x3  m) v0 v1 v2
def Zn1 (x0:List Int) (x1:Int) (x2:Int) (x3:Int)  (v1:List Int) (v3:Bool):Option (List Int×Bool):=
 if v3=true then (
  some (v1,false))
 else (
  Zm7 x0 x1 x2 x3 FU x3 v1 0)
def Zwd (x0:List Int) (x1:Int) (x2:Int) (x3:Int):Option (List Int×Bool):=
 (Xt 8 [] x0).bind λz0=>
 (Zqu x0 x1 x2).bind λr1=>
 if (!r1)=true then (
  Zn1 x0 x1 x2 x3 z0 true)
 else (
  (Qk x2).bind λr2=>
  (Z4 x3 0 (Y9 r2 1)).bind λr3=>
  Zn1 x0 x1 x2 x3 z0 (!r3))
def Zjz (x0:Zl) (x1:Bool) (x2:Int) (x3:Int)  (vb0:Zl) (v0:Bool):Option (Zl×Int×Bool):=
 if v0=true then (
  (idx vb0.fifo 0).bind λa0=>
  (J4 vb0.fifo 1 (vb0.fifo.length:Int)).bind λs0=>
  some ({vb0 with fifo:=s0},a0,true))
 else (
  some (vb0,0,false))
def Zj3 (x0:Zl) (x1:Bool) (x2:Int) (x3:Int)  (vb0:Zl) (v1:Bool):Option (Zl×Int×Bool):=
 if v1=true then (
  (Xt 8 vb0.fifo [x3]).bind λz0=>
  some ({vb0 with fifo:=z0},x3,true))
 else (
  if decide (x2=20)=true then (
   if (!x1)=true then (
    Zjz x0 x1 x2 x3 vb0 (decide ((vb0.fifo.length:Int) > 0)))
   else (
    Zjz x0 x1 x2 x3 vb0 false))
  else (
   Zjz x0 x1 x2 x3 vb0 false))
def Zpl (x0:Zl) (x1:Bool) (x2:Int) (x3:Int)  (vb0:Zl) (v2:Bool):Option (Zl×Int×Bool):=
 if v2=true then (
  some ({vb0 with timer:=x3},x3,true))
 else (
  if decide (x2=16)=true then (
   (Qk 2).bind λr0=>
   (nzI r0).bind λn0=>
   some ({vb0 with timer:=(Zdh (Zu vb0.timer 1) r0)},vb0.timer,true))
  else (
   if decide (x2=20)=true then (
    if x1=true then (
     Zj3 x0 x1 x2 x3 vb0 (decide ((vb0.fifo.length:Int) < 4)))
    else (
     Zj3 x0 x1 x2 x3 vb0 false))
   else (
    Zj3 x0 x1 x2 x3 vb0 false)))
def Zpq (x0:Zl) (x1:Bool) (x2:Int) (x3:Int)  (vb0:Zl) (v3:Bool):Option (Zl×Int×Bool):=
 if v3=true then (
  (idx vb0.regs (Zq4 x2 4)).bind λa1=>
  (Qn vb0.regs (Zq4 x2 4) x3).bind λy0=>
  some ({vb0 with regs:=y0},x3,true))
 else (
  (Z4 x2 0 12).bind λr1=>
  if r1=true then (
   (idx vb0.regs (Zq4 x2 4)).bind λa2=>
   some (vb0,a2,true))
  else (
   if decide (x2=16)=true then (
    Zpl x0 x1 x2 x3 vb0 x1)
   else (
    Zpl x0 x1 x2 x3 vb0 false)))
def Zaa (x0:Zl) (x1:Bool) (x2:Int) (x3:Int)  (vb0:Zl) (v4:Bool):Option (Zl×Int×Bool):=
 if v4=true then (
  some (vb0,0,false))
 else (
  (Z4 x2 0 12).bind λr2=>
  if r2=true then (
   Zpq x0 x1 x2 x3 vb0 x1)
  else (
   Zpq x0 x1 x2 x3 vb0 false))
def Zz4 (x0:Zl) (x1:Bool) (x2:Int) (x3:Int):Option (Zl×Int×Bool):=
 (Zrw x0).bind λr3=>
 (Zvo x0).bind λr4=>
 if (!r4)=true then (
  Zaa x0 x1 x2 x3 r3 true)
 else (
  if decide ((Zdh x2 4)≠0)=true then (
   Zaa x0 x1 x2 x3 r3 true)
  else (
   if x1=true then (
    (Qk 2).bind λr5=>
    (Z4 x3 0 (Y9 r5 1)).bind λr6=>
    Zaa x0 x1 x2 x3 r3 (!r6))
   else (
    Zaa x0 x1 x2 x3 r3 false)))
def Zgd (x0:List Int) (x1:Int) (x2:Int)  (k:Int->Int->Option (Int×Bool)) (v0:Int) (v1:Int):Option (Int×Bool):=
 if decide (v1≥0)=true then (
  (idx x0 (Zu x1 v1)).bind λa0=>
  k (Zu (Jm v0 256) a0) (Y9 v1 1))
 else (
  some (v0,true))
def Zod (x0:List Int) (x1:Int) (x2:Int)  : Nat->Int->Int->Option (Int×Bool)
 | 0,_,_=>none
 | m+1,v0,v1=>Zgd x0 x1 x2  (Zod x0 x1 x2  m) v0 v1
def Zwm (x0:List Int) (x1:Int) (x2:Int):Option (Int×Bool):=
 (Zqu x0 x1 x2).bind λr0=>
 if (!r0)=true then (
  some (0,false))
 else (
  (Jg x2).bind λr1=>
  Zod x0 x1 x2 FU 0 (Y9 r1 1))
def Zlp (x0:Zj) (x1:Bool) (x2:Int) (x3:Int) (x4:Int)  (vb0:Zj) (vb1:Zl) (v0:Int) (v1:Bool):Option (Zj×Int×Int):=
 if v1=true then (
  some ((Zj.mk vb0.mem vb1),v0,0))
 else (
  some (vb0,0,1))
def Zlb (x0:Zj) (x1:Bool) (x2:Int) (x3:Int) (x4:Int)  (vb2:Zj) (v2:Int) (v3:Bool):Option (Zj×Int×Int):=
 if v3=true then (
  if x1=true then (
   (Zwd x0.mem x2 x3 x4).bind λr0=>
   some ((Zj.mk r0.1 vb2.dev),x4,0))
  else (
   (Zwm x0.mem x2 x3).bind λr1=>
   some (vb2,r1.1,0)))
 else (
  if decide (v2=3)=true then (
   (Zz4 x0.dev x1 (Y9 x2 192) x4).bind λr2=>
   if decide (x3=2)=true then (
    Zlp x0 x1 x2 x3 x4 vb2 r2.1 r2.2.1 r2.2.2)
   else (
    Zlp x0 x1 x2 x3 x4 vb2 r2.1 r2.2.1 false))
  else (
   some (vb2,0,1)))
def Kt (x0:Zj) (x1:Bool) (x2:Int) (x3:Int) (x4:Int)  (vb2:Zj) (v4:Bool):Option (Zj×Int×Int):=
 if v4=true then (
  some (vb2,0,1))
 else (
  (Zts x2).bind λr3=>
  if decide (r3=1)=true then (
   Zlb x0 x1 x2 x3 x4 vb2 r3 (decide (r3=1)))
  else (
   Zlb x0 x1 x2 x3 x4 vb2 r3 (decide (r3=2))))
def Zom (x0:Zj) (x1:Bool) (x2:Int) (x3:Int) (x4:Int):Option (Zj×Int×Int):=
 (Zrk x0).bind λr4=>
 (Zoz x0).bind λr5=>
 if (!r5)=true then (
  Kt x0 x1 x2 x3 x4 r4 true)
 else (
  (Za0 x2 x3).bind λr6=>
  if (!r6)=true then (
   Kt x0 x1 x2 x3 x4 r4 true)
  else (
   if x1=true then (
    (Qk x3).bind λr7=>
    (Z4 x4 0 (Y9 r7 1)).bind λr8=>
    Kt x0 x1 x2 x3 x4 r4 (!r8))
   else (
    Kt x0 x1 x2 x3 x4 r4 false)))
def Zoc (x0:Zd)  (vb0:Zd) (v0:Bool):Option (Zd×Bool):=
 if v0=true then (
  some (vb0,false))
 else (
  (Zc0 x0).bind λr0=>
  if decide ((Zu vb0.done 1)=r0)=true then (
   (J4 vb0.queue 1 (vb0.queue.length:Int)).bind λs0=>
   some ((Zd.mk s0 0 0 0 false false),true))
  else (
   some ((Zd.mk vb0.queue vb0.beat (Zu vb0.done 1) 0 false vb0.broken),true)))
def Zw4 (x0:Zd):Option (Zd×Bool):=
 (Zdw x0).bind λr1=>
 (Za9 x0).bind λr2=>
 if (!r2)=true then (
  Zoc x0 r1 true)
 else (
  Zoc x0 r1 (decide (x0.beat=x0.done)))
def Zdl (x0:Za) (x1:Zg)  (vb0:Za) (vb1:Zd) (vb2:Zm):Option Za:=
 (Xt 56 vb0.log [vb2]).bind λz0=>
 (Zw4 vb1).bind λr0=>
 (idx vb0.m x0.data_.who).bind λa0=>
 (Qn vb0.m x0.data_.who r0.1).bind λy0=>
 if decide (vb0.holder=x0.data_.who)=true then (
  if decide (r0.1.done=0)=true then (
   some {vb0 with m:=y0,holder:=(-1),held:=0,log:=z0})
  else (
   some {vb0 with m:=y0,log:=z0}))
 else (
  some {vb0 with m:=y0,log:=z0})
def Zpg (x0:Za) (x1:Zg):Option Za:=
 (idx x0.m x0.data_.who).bind λa1=>
 if decide (x0.data_.resp=2)=true then (
  (Qn x0.m x0.data_.who {a1 with tries:=(Zu a1.tries 1)}).bind λy1=>
  (Zka {x0 with m:=y1,data_:=Zf.z0} x0.data_).bind λr1=>
  some r1)
 else (
  if decide (x0.data_.resp=3)=true then (
   (Qn x0.m x0.data_.who {a1 with parted:=true}).bind λy2=>
   (Zt3 x0.conf x1 x0.picks).bind λr2=>
   (idx x0.splits x0.data_.who).bind λa2=>
   (Qn x0.splits x0.data_.who r2).bind λy3=>
   (Zka {x0 with m:=y2,splits:=y3,data_:=Zf.z0} x0.data_).bind λr3=>
   some r3)
  else (
   (idx a1.queue 0).bind λa3=>
   (Zgz a1 x0.data_.beat).bind λr4=>
   if decide (x0.data_.resp=0)=true then (
    (Zma a3 x0.data_.beat).bind λr5=>
    (Zom x0.model a3.write r4 a3.size r5).bind λr6=>
    Zdl x0 x1 {x0 with data_:=Zf.z0,model:=r6.1} a1 (Zm.mk x0.now x0.data_.who a3.write r4 a3.size r6.2.1 x0.data_.resp))
   else (
    Zdl x0 x1 {x0 with data_:=Zf.z0} a1 (Zm.mk x0.now x0.data_.who a3.write r4 a3.size 0 x0.data_.resp))))
def Zwk (x0:Zg) (x1:Int):Option Int:=
 (Zzf x0.says x1).bind λr0=>
 if decide (r0=2)=true then (
  some r0)
 else (
  if decide (r0=3)=true then (
   some r0)
  else (
   some 0))
def Zwi (x0:Zh) (x1:Zg) (x2:Int):Option Int:=
 (Zzf x1.waits x2).bind λr0=>
 some (Zkh 0 (Zi4 x0.maxWait r0))
def Zev (x0:Za) (x1:Zg)  (vb0:Zf):Option Za:=
 some {x0 with addr:=Zf.z0,data_:=vb0,picks:=(Zu x0.picks 1)}
def Ke (x0:Za) (x1:Zg)  (vb0:Zf) (v0:Bool):Option Za:=
 if v0=true then (
  Zev x0 x1 {vb0 with resp:=3})
 else (
  Zev x0 x1 vb0)
def Zca (x0:Za) (x1:Zg)  (vb0:Zf) (vb1:Zd) (v1:Int) (v2:Int):Option Za:=
 if (!vb1.broken)=true then (
  if decide (v2=3)=true then (
   if decide (v1=2)=true then (
    if (!vb1.parted)=true then (
     Ke x0 x1 vb0 (decide (x0.holder≠vb0.who)))
    else (
     Ke x0 x1 vb0 false))
   else (
    Ke x0 x1 vb0 false))
  else (
   Ke x0 x1 vb0 false))
 else (
  Ke x0 x1 vb0 false)
def Kd (x0:Za) (x1:Zg)  (vb0:Zf) (vb1:Zd) (v1:Int) (v2:Int) (v3:Bool):Option Za:=
 if v3=true then (
  Zca x0 x1 {vb0 with resp:=2} vb1 v1 v2)
 else (
  Zca x0 x1 vb0 vb1 v1 v2)
def Zb4 (x0:Za) (x1:Zg)  (vb0:Zf) (vb1:Zd) (v1:Int) (v2:Int):Option Za:=
 if (!vb1.broken)=true then (
  if decide (v2=2)=true then (
   if decide (v1=1)=true then (
    Kd x0 x1 vb0 vb1 v1 v2 (decide (vb1.tries < x0.conf.maxRetry)))
   else (
    if decide (v1=2)=true then (
     Kd x0 x1 vb0 vb1 v1 v2 (decide (vb1.tries < x0.conf.maxRetry)))
    else (
     Kd x0 x1 vb0 vb1 v1 v2 false)))
  else (
   Kd x0 x1 vb0 vb1 v1 v2 false))
 else (
  Kd x0 x1 vb0 vb1 v1 v2 false)
def Zb7 (x0:Za) (x1:Zg)  (vb0:Zf) (vb1:Zd) (v1:Int) (v2:Int) (v4:Bool):Option Za:=
 if v4=true then (
  Zb4 x0 x1 {vb0 with left:=(Zu vb0.left 2)} vb1 v1 v2)
 else (
  Zb4 x0 x1 vb0 vb1 v1 v2)
def Zb1 (x0:Za) (x1:Zg)  (vb0:Zf) (vb1:Zd) (v1:Int) (v2:Int):Option Za:=
 if decide (v1=3)=true then (
  Zb7 x0 x1 vb0 vb1 v1 v2 (!vb1.broken))
 else (
  Zb7 x0 x1 vb0 vb1 v1 v2 false)
def Zb5 (x0:Za) (x1:Zg)  (vb2:Zd) (vb3:Zb) (v5:Int) (v1:Int) (v2:Int) (v6:Bool):Option Za:=
 if v6=true then (
  Zb1 x0 x1 {x0.addr with resp:=1} vb2 v1 v2)
 else (
  (Zwi x0.conf x1 x0.picks).bind λr0=>
  (Zma vb3 x0.addr.beat).bind λr1=>
  (Zom x0.model vb3.write v5 vb3.size r1).bind λr2=>
  Zb1 x0 x1 {x0.addr with left:=r0,resp:=r2.2.2} vb2 v1 v2)
def Zsi (x0:Za) (x1:Zg):Option Za:=
 if (!x0.addr.live)=true then (
  some {x0 with addr:=Zf.z0})
 else (
  (idx x0.m x0.addr.who).bind λa0=>
  (idx a0.queue 0).bind λa1=>
  (Zgz a0 x0.addr.beat).bind λr3=>
  (Zts r3).bind λr4=>
  (Zwk x1 x0.picks).bind λr5=>
  if a0.broken=true then (
   Zb5 x0 x1 a0 a1 r3 r4 r5 true)
  else (
   Zb5 x0 x1 a0 a1 r3 r4 r5 (decide (r4=0))))
def Zm1 (x0:Zd):Option Bool:=
 (Za9 x0).bind λr0=>
 if r0=true then (
  (Zc0 x0).bind λr1=>
  some (decide (x0.beat < r1)))
 else (
  some false)
def Zcu (x0:Zk) (x1:Zc)  (v0:Bool):Option (Zk×Bool):=
 if v0=true then (
  some (x0,false))
 else (
  some ((Zk.mk (Y9 x0.tokens 1) x0.count),true))
def Zny (x0:Zk) (x1:Zc):Option (Zk×Bool):=
 if (!x1.prio)=true then (
  Zcu x0 x1 true)
 else (
  (Zer x0 x1).bind λr0=>
  if (!r0)=true then (
   Zcu x0 x1 true)
  else (
   Zcu x0 x1 (decide (x0.tokens=0))))
def Zim (x0:Zd)  (vb0:Zd) (v0:Bool):Option (Zd×Bool):=
 if v0=true then (
  some (vb0,false))
 else (
  some ({vb0 with beat:=(Zu vb0.beat 1)},true))
def Zq5 (x0:Zd):Option (Zd×Bool):=
 (Zdw x0).bind λr0=>
 (Zm1 x0).bind λr1=>
 if (!r1)=true then (
  Zim x0 r0 true)
 else (
  Zim x0 r0 (decide (x0.beat=(Zu x0.done 2))))
def Zp4 (x0:Z6) (x1:Zh) (x2:List Bool)  (k:Int->Option (Z6×Int)) (v0:Int):Option (Z6×Int):=
 if decide (v0<=(x2.length:Int))=true then (
  (nzI (x2.length:Int)).bind λn0=>
  (idx x2 (Zdh (Zu x0.at_ v0) (x2.length:Int))).bind λa0=>
  if a0=true then (
   (Zi1 x1 (Zdh (Zu x0.at_ v0) (x2.length:Int))).bind λr0=>
   some ((Z6.mk (Zdh (Zu x0.at_ v0) (x2.length:Int)) (Y9 r0 1)),(Zdh (Zu x0.at_ v0) (x2.length:Int))))
  else (
   k (Zu v0 1)))
 else (
  some ((Z6.mk x0.at_ 0),(-1)))
def Zkj (x0:Z6) (x1:Zh) (x2:List Bool)  : Nat->Int->Option (Z6×Int)
 | 0,_=>none
 | m+1,v0=>Zp4 x0 x1 x2  (Zkj x0 x1 x2  m) v0
def Zll (x0:Z6) (x1:Zh) (x2:List Bool)  (v1:Bool):Option (Z6×Int):=
 if v1=true then (
  some ((Z6.mk x0.at_ (Y9 x0.credit 1)),x0.at_))
 else (
  Zkj x0 x1 x2 FU 1)
def Zko (x0:Z6) (x1:Zh) (x2:List Bool)  (v2:Bool):Option (Z6×Int):=
 if v2=true then (
  some (x0,(-1)))
 else (
  if decide (x0.credit > 0)=true then (
   (idx x2 x0.at_).bind λa1=>
   Zll x0 x1 x2 a1)
  else (
   Zll x0 x1 x2 false))
def Ztp (x0:Z6) (x1:Zh) (x2:List Bool):Option (Z6×Int):=
 (Zqk x0 x1).bind λr1=>
 if (!r1)=true then (
  Zko x0 x1 x2 true)
 else (
  Zko x0 x1 x2 (decide ((x2.length:Int)≠(x1.masters.length:Int))))
def Zje (x0:Za) (k_L2:Za->Zf->(List Bool)->Int->Option Za) (vb0:Za) (vb1:Zf) (v0:List Bool) (v1:Int) (v2:Bool):Option Za:=
 if v2=true then (
  (idx vb0.buckets v1).bind λa0=>
  (idx vb0.conf.masters v1).bind λa1=>
  (Zny a0 a1).bind λr0=>
  (Qn vb0.buckets v1 r0.1).bind λy0=>
  k_L2 {vb0 with buckets:=y0} (Zf.mk false v1 0 false 1 0 0 false) v0 (Zu v1 1))
 else (
  k_L2 vb0 vb1 v0 (Zu v1 1))
def Zg8 (x0:Za)  (vb0:Za) (vb1:Zf) (vb2:Zd):Option Za:=
 (Zq5 vb2).bind λr1=>
 (idx vb0.m vb1.who).bind λa2=>
 (Qn vb0.m vb1.who r1.1).bind λy1=>
 some {vb0 with m:=y1,last:=vb1.who,addr:=vb1}
def Zdi (x0:Za)  (vb0:Za) (vb1:Zf) (vb2:Zd) (v3:Bool):Option Za:=
 if v3=true then (
  Zg8 x0 {vb0 with holder:=vb1.who,held:=0} vb1 vb2)
 else (
  Zg8 x0 vb0 vb1 vb2)
def Zei (x0:Za)  (vb0:Za) (vb1:Zf) (vb2:Zd):Option Za:=
 (idx vb2.queue 0).bind λa3=>
 if a3.lock=true then (
  if (!vb2.broken)=true then (
   Zdi x0 vb0 vb1 vb2 (decide (vb0.holder < 0)))
  else (
   Zdi x0 vb0 vb1 vb2 false))
 else (
  Zdi x0 vb0 vb1 vb2 false)
def K9 (x0:Za)  (vb0:Za) (vb1:Zf):Option Za:=
 if decide (vb1.who < 0)=true then (
  some vb0)
 else (
  (idx vb0.m vb1.who).bind λa4=>
  if decide (a4.beat=0)=true then (
   Zei x0 vb0 {vb1 with live:=true,beat:=a4.beat,first:=true} a4)
  else (
   Zei x0 vb0 {vb1 with live:=true,beat:=a4.beat,first:=(decide (vb0.last≠vb1.who))} a4))
def Zeq (x0:Za)  (vb0:Za) (vb1:Zf) (v0:List Bool) (v4:Bool):Option Za:=
 if v4=true then (
  (Ztp vb0.arb vb0.conf v0).bind λr2=>
  K9 x0 {vb0 with arb:=r2.1} {vb1 with who:=r2.2,by_:=2})
 else (
  K9 x0 vb0 vb1)
def Zb6 (x0:Za) (k_L2:Za->Zf->(List Bool)->Int->Option Za) (vb0:Za) (vb1:Zf) (v0:List Bool) (v1:Int) (v5:Bool):Option Za:=
 if v5=true then (
  (idx v0 v1).bind λa5=>
  if a5=true then (
   (idx vb0.buckets v1).bind λa6=>
   Zje x0 k_L2 vb0 vb1 v0 v1 (decide (a6.tokens > 0)))
  else (
   Zje x0 k_L2 vb0 vb1 v0 v1 false))
 else (
  if decide (vb1.who < 0)=true then (
   Zeq x0 vb0 vb1 v0 (decide (vb0.holder < 0)))
  else (
   Zeq x0 vb0 vb1 v0 false))
def Jp (x0:Za)  (k:Za->Zf->(List Bool)->Int->Option Za) (vb0:Za) (vb1:Zf) (v0:List Bool) (v1:Int):Option Za:=
 if decide (v1 < (vb0.m.length:Int))=true then (
  Zb6 x0 k vb0 vb1 v0 v1 (decide (vb1.who < 0)))
 else (
  Zb6 x0 k vb0 vb1 v0 v1 false)
def Zag (x0:Za)  : Nat->Za->Zf->(List Bool)->Int->Option Za
 | 0,_,_,_,_=>none
 | m+1,vb0,vb1,v0,v1=>Jp x0  (Zag x0  m) vb0 vb1 v0 v1
def Ziz (x0:Za)  (vb1:Zf) (v0:List Bool):Option Za:=
 Zag x0 FU x0 vb1 v0 0
def Zi6 (x0:Za)  (v0:List Bool) (v6:Bool):Option Za:=
 if v6=true then (
  Ziz x0 (Zf.mk false x0.holder 0 false 3 0 0 false) v0)
 else (
  Ziz x0 (Zf.mk false (-1) 0 false 0 0 0 false) v0)
def Zhb (x0:Za)  (k:(List Bool)->Int->Option Za) (v0:List Bool) (v7:Int):Option Za:=
 if decide (v7 < (x0.m.length:Int))=true then (
  (idx x0.m v7).bind λa7=>
  (Zm1 a7).bind λr3=>
  if r3=true then (
   (idx x0.splits v7).bind λa8=>
   if decide (a8=0)=true then (
    if decide (x0.holder < 0)=true then (
     (Xt 1 v0 [true]).bind λz0=>
     k z0 (Zu v7 1))
    else (
     (Xt 1 v0 [decide (x0.holder=v7)]).bind λz0=>
     k z0 (Zu v7 1)))
   else (
    (Xt 1 v0 [false]).bind λz0=>
    k z0 (Zu v7 1)))
  else (
   (Xt 1 v0 [false]).bind λz0=>
   k z0 (Zu v7 1)))
 else (
  if decide (x0.holder≥0)=true then (
   (idx v0 x0.holder).bind λa9=>
   Zi6 x0 v0 a9)
  else (
   Zi6 x0 v0 false))
def Zip (x0:Za)  : Nat->(List Bool)->Int->Option Za
 | 0,_,_=>none
 | m+1,v0,v7=>Zhb x0  (Zip x0  m) v0 v7
def Zrh (x0:Za):Option Za:=
 Zip x0 FU [] 0
def Zc9 (x0:Za) (x1:Zg)  (vb0:Za) (vb1:Zq):Option (Za×Zq):=
 some ({vb0 with now:=(Zu vb0.now 1)},vb1)
def Zc6 (x0:Za) (x1:Zg)  (vb0:Za) (vb2:Zq):Option (Za×Zq):=
 (Zsi vb0 x1).bind λr0=>
 (Zrh r0).bind λr1=>
 if r1.addr.live=true then (
  Zc9 x0 x1 r1 {vb2 with got:=r1.addr.who})
 else (
  Zc9 x0 x1 r1 vb2)
def Jw (x0:Za) (x1:Zg)  (vb0:Za) (vb2:Zq) (v0:Bool):Option (Za×Zq):=
 if v0=true then (
  (idx vb0.m vb0.holder).bind λa0=>
  (Qn vb0.m vb0.holder {a0 with broken:=true}).bind λy0=>
  Zc6 x0 x1 {vb0 with m:=y0,holder:=(-1),held:=0} vb2)
 else (
  Zc6 x0 x1 vb0 vb2)
def Q1 (x0:Za) (x1:Zg)  (vb0:Za) (vb2:Zq):Option (Za×Zq):=
 if vb2.ready=true then (
  if decide (vb0.holder≥0)=true then (
   Jw x0 x1 vb0 vb2 (decide (vb0.held≥vb0.conf.lockMost)))
  else (
   Jw x0 x1 vb0 vb2 false))
 else (
  Zc9 x0 x1 vb0 vb2)
def Js (x0:Za) (x1:Zg)  (vb0:Za) (vb2:Zq) (v1:Bool):Option (Za×Zq):=
 if v1=true then (
  if vb0.addr.live=true then (
   (Zka {vb0 with addr:=Zf.z0,data_:={vb0.data_ with second:=true}} vb0.addr).bind λr2=>
   Q1 x0 x1 r2 {vb2 with ready:=false,resp:=vb0.data_.resp})
  else (
   Q1 x0 x1 {vb0 with data_:={vb0.data_ with second:=true}} {vb2 with ready:=false,resp:=vb0.data_.resp}))
 else (
  if vb0.data_.live=true then (
   (Zpg vb0 x1).bind λr3=>
   Q1 x0 x1 r3 {vb2 with resp:=vb0.data_.resp})
  else (
   Q1 x0 x1 vb0 vb2))
def Zki (x0:Za) (x1:Zg)  (vb0:Za) (vb2:Zq) (v2:Bool):Option (Za×Zq):=
 if v2=true then (
  Q1 x0 x1 {vb0 with data_:={vb0.data_ with left:=(Y9 vb0.data_.left 1)}} {vb2 with ready:=false})
 else (
  if vb0.data_.live=true then (
   if decide (vb0.data_.resp≠0)=true then (
    Js x0 x1 vb0 vb2 (!vb0.data_.second))
   else (
    Js x0 x1 vb0 vb2 false))
  else (
   Js x0 x1 vb0 vb2 false))
def Jv (x0:Za) (x1:Zg)  (vb0:Za) (vb2:Zq):Option (Za×Zq):=
 if vb0.data_.live=true then (
  Zki x0 x1 vb0 vb2 (decide (vb0.data_.left > 0)))
 else (
  Zki x0 x1 vb0 vb2 false)
def Zjo (x0:Za) (x1:Zg)  (k:Za->Zq->Int->Option (Za×Zq)) (vb0:Za) (vb2:Zq) (v3:Int):Option (Za×Zq):=
 if decide (v3 < (vb0.m.length:Int))=true then (
  (idx vb0.splits v3).bind λa1=>
  (Qn vb0.splits v3 (Zkh 0 (Y9 a1 1))).bind λy1=>
  (idx vb0.buckets v3).bind λa2=>
  (idx vb0.conf.masters v3).bind λa3=>
  (Znp a2 a3).bind λr4=>
  (Qn vb0.buckets v3 r4).bind λy2=>
  k {vb0 with buckets:=y2,splits:=y1} vb2 (Zu v3 1))
 else (
  if decide (vb0.holder≥0)=true then (
   Jv x0 x1 {vb0 with held:=(Zi4 vb0.conf.lockMost (Zu vb0.held 1))} vb2)
  else (
   Jv x0 x1 vb0 vb2))
def Za5 (x0:Za) (x1:Zg)  : Nat->Za->Zq->Int->Option (Za×Zq)
 | 0,_,_,_=>none
 | m+1,vb0,vb2,v3=>Zjo x0 x1  (Za5 x0 x1  m) vb0 vb2 v3
def Zjf (x0:Za) (x1:Zg)  (k:Za->Zq->(List Zv)->Int->Option (Za×Zq)) (vb0:Za) (vb2:Zq) (v4:List Zv) (v5:Int):Option (Za×Zq):=
 if decide (v5 < (v4.length:Int))=true then (
  (idx v4 v5).bind λa4=>
  (Z4 a4.who 0 (Y9 (vb0.m.length:Int) 1)).bind λr5=>
  if r5=true then (
   (idx vb0.m a4.who).bind λa5=>
   (Zt8 a5 a4.req).bind λr6=>
   (Qn vb0.m a4.who r6.1).bind λy3=>
   k {vb0 with m:=y3} vb2 v4 (Zu v5 1))
  else (
   k vb0 vb2 v4 (Zu v5 1)))
 else (
  Za5 x0 x1 FU vb0 vb2 0)
def Zfp (x0:Za) (x1:Zg)  : Nat->Za->Zq->(List Zv)->Int->Option (Za×Zq)
 | 0,_,_,_,_=>none
 | m+1,vb0,vb2,v4,v5=>Zjf x0 x1  (Zfp x0 x1  m) vb0 vb2 v4 v5
def Zuo (x0:Za) (x1:Zg):Option (Za×Zq):=
 (Zor x0).bind λr7=>
 (Zt0 r7).bind λr8=>
 (Zuc x1 r7.now).bind λr9=>
 Zfp x0 x1 FU r7 r8 r9 0
def Z9k (x0:Zg)  (k:Int->Int->Option Int) (v0:Int) (v1:Int):Option Int:=
 if decide (v1 < (x0.posts.length:Int))=true then (
  (idx x0.posts v1).bind λa0=>
  k (Zkh v0 a0.at_) (Zu v1 1))
 else (
  some v0)
def Zjg (x0:Zg)  : Nat->Int->Int->Option Int
 | 0,_,_=>none
 | m+1,v0,v1=>Z9k x0  (Zjg x0  m) v0 v1
def Zrv (x0:Zg):Option Int:=
 Zjg x0 FU (-1) 0
def Zd5 (x0:Za) (x1:Zg) (k_L1:Za->Int->Option (Za×Int)) (vb0:Za) (v0:Int) (v1:Bool):Option (Za×Int):=
 if v1=true then (
  (Zuo vb0 x1).bind λr0=>
  k_L1 r0.1 (Zu v0 1))
 else (
  some (vb0,v0))
def Zge (x0:Za) (x1:Zg)  (k:Za->Int->Option (Za×Int)) (vb0:Za) (v0:Int):Option (Za×Int):=
 if decide (vb0.now < 4000)=true then (
  (Zt2 vb0).bind λr1=>
  if (!r1)=true then (
   Zd5 x0 x1 k vb0 v0 true)
  else (
   (Zrv x1).bind λr2=>
   Zd5 x0 x1 k vb0 v0 (decide (vb0.now<=r2))))
 else (
  Zd5 x0 x1 k vb0 v0 false)
def Zb3 (x0:Za) (x1:Zg)  : Nat->Za->Int->Option (Za×Int)
 | 0,_,_=>none
 | m+1,vb0,v0=>Zge x0 x1  (Zb3 x0 x1  m) vb0 v0
def Zw2 (x0:Za) (x1:Zg):Option (Za×Int):=
 (Zor x0).bind λr3=>
 (Zmv x0).bind λr4=>
 if (!r4)=true then (
  some (r3,0))
 else (
  Zb3 x0 x1 FU r3 0)
def Zv3 (x0:Zh) (x1:List Zb)  (k:Zg->Int->Option (List Zm×Bool)) (vb0:Zg) (v0:Int):Option (List Zm×Bool):=
 if decide (v0 < (x1.length:Int))=true then (
  (idx x1 v0).bind λa0=>
  (Zqm a0).bind λr0=>
  if (!r0)=true then (
   some ([],false))
  else (
   (Xt 80 vb0.posts [(Zv.mk 0 0 a0)]).bind λz0=>
   k {vb0 with posts:=z0} (Zu v0 1)))
 else (
  (Zwz x0).bind λr1=>
  (Zw2 r1.1 vb0).bind λr2=>
  some (r2.1.log,true))
def Zm5 (x0:Zh) (x1:List Zb)  : Nat->Zg->Int->Option (List Zm×Bool)
 | 0,_,_=>none
 | m+1,vb0,v0=>Zv3 x0 x1  (Zm5 x0 x1  m) vb0 v0
def Zl1 (x0:Zh) (x1:List Zb)  (v1:Bool):Option (List Zm×Bool):=
 if v1=true then (
  some ([],false))
 else (
  Zm5 x0 x1 FU Zg.z0 0)
def Z4r (x0:Zh) (x1:List Zb):Option (List Zm×Bool):=
 (Zdq x0).bind λr3=>
 if (!r3)=true then (
  Zl1 x0 x1 true)
 else (
  Zl1 x0 x1 (decide ((x1.length:Int) > 4)))
def Ys (x0:Int) (x1:Int) (x2:Int):Option Bool:=
 if decide (x1<=x0)=true then (
  some (decide (x0<=x2)))
 else (
  some false)
def Zte (x0:Zh)  (v0:Bool):Option Int:=
 if v0=true then (
  some 0)
 else (
  some (Jm (Zu x0.maxRetry 2) (Zu x0.maxWait 6)))
def Zr5 (x0:Zh):Option Int:=
 (Ys x0.maxRetry 0 3).bind λr0=>
 if (!r0)=true then (
  Zte x0 true)
 else (
  (Ys x0.maxWait 0 3).bind λr1=>
  Zte x0 (!r1))
def Zq8 (x0:Zh):Option Int:=
 (Zr5 x0).bind λr0=>
 if decide (r0=0)=true then (
  some 0)
 else (
  (Ys x0.lockMost 1 40).bind λr1=>
  if (!r1)=true then (
   some 0)
  else (
   (Zr5 x0).bind λr2=>
   some (Zu (Jm 2 r2) x0.lockMost)))
def Zs7 (x0:Zh)  (k:Int->Int->Option Int) (v0:Int) (v1:Int):Option Int:=
 if decide (v1 < (x0.masters.length:Int))=true then (
  (idx x0.masters v1).bind λa0=>
  if a0.prio=true then (
   k (Zu v0 1) (Zu v1 1))
  else (
   k v0 (Zu v1 1)))
 else (
  some v0)
def Zpn (x0:Zh)  : Nat->Int->Int->Option Int
 | 0,_,_=>none
 | m+1,v0,v1=>Zs7 x0  (Zpn x0  m) v0 v1
def Z0x (x0:Zh):Option Int:=
 Zpn x0 FU 0 0
def Zoa (x0:Zh):Option Int:=
 (Zq8 x0).bind λr0=>
 (Z0x x0).bind λr1=>
 some (Jm (Jm 2 r0) r1)
def Zrm (x0:Zc) (x1:Zh):Option Bool:=
 (Ys x0.weight 1 4).bind λr0=>
 if (!r0)=true then (
  some true)
 else (
  if x0.prio=true then (
   (Zoa x1).bind λr1=>
   (Ys x0.every r1 1000).bind λr2=>
   if (!r2)=true then (
    some true)
   else (
    (Ys x0.cap 1 8).bind λr3=>
    some (!r3)))
  else (
   if decide (x0.every≠0)=true then (
    some true)
   else (
    some (decide (x0.cap≠0)))))
def W4 (x0:List Zc) (x1c0:Zh)  (k:Int->Option Int) (v0:Int):Option Int:=
 if decide (v0 < (x0.length:Int))=true then (
  (idx x0 v0).bind λa0=>
  (Zrm a0 x1c0).bind λr0=>
  if r0=true then (
   some v0)
  else (
   k (Zu v0 1)))
 else (
  some (-1))
def Yy (x0:List Zc) (x1c0:Zh)  : Nat->Int->Option Int
 | 0,_=>none
 | m+1,v0=>W4 x0 x1c0  (Yy x0 x1c0  m) v0
def Qx (x0:List Zc) (x1c0:Zh):Option Int:=
 Yy x0 x1c0 FU 0
def X1 (x0:List Zc) (x1c0:Zh):Option Bool:=
 (Qx x0 x1c0).bind λr0=>
 some (decide (r0≥0))
def Ziu (x0:Zh):Option Bool:=
 (Ys (x0.masters.length:Int) 1 4).bind λr0=>
 if (!r0)=true then (
  some false)
 else (
  (Ys x0.quantum 1 4).bind λr1=>
  if (!r1)=true then (
   some false)
  else (
   (Ys x0.maxSplit 1 12).bind λr2=>
   if (!r2)=true then (
    some false)
   else (
    (Zq8 x0).bind λr3=>
    if decide (r3=0)=true then (
     some false)
    else (
     (X1 x0.masters x0).bind λr4=>
     some (!r4)))))
def J9 (x0:List Zc):Option (List Zc):=Xt 32 [] x0
def Zo0 (x0:Zh):Option Zh:=
 (J9 x0.masters).bind λr0=>
 some {x0 with masters:=r0}
def Yee  : Option Zl:=
 (mkI 8 4 0).bind λm0=>
 some (Zl.mk m0 0 [])
def Zqy  : Option Zj:=
 (mkI 8 192 0).bind λm0=>
 (Yee).bind λr0=>
 some (Zj.mk m0 r0)
def Zpi (x0:Zc):Option Zk:=
 if (!x0.prio)=true then (
  some Zk.z0)
 else (
  some (Zk.mk (Zkh x0.cap 0) 0))
def Zkv (x0:Zh)  (k:Za->Int->Option (Za×Bool)) (vb0:Za) (v0:Int):Option (Za×Bool):=
 if decide (v0 < (x0.masters.length:Int))=true then (
  (idx x0.masters v0).bind λa0=>
  (Xt 56 vb0.m [Zd.z0]).bind λz0=>
  (Zpi a0).bind λr0=>
  (Xt 16 vb0.buckets [r0]).bind λz1=>
  (Xt 8 vb0.splits [0]).bind λz2=>
  k {vb0 with m:=z0,buckets:=z1,splits:=z2} (Zu v0 1))
 else (
  some (vb0,true))
def Znj (x0:Zh)  : Nat->Za->Int->Option (Za×Bool)
 | 0,_,_=>none
 | m+1,vb0,v0=>Zkv x0  (Znj x0  m) vb0 v0
def Zwg (x0:Zh):Option (Za×Bool):=
 (Ziu x0).bind λr1=>
 if (!r1)=true then (
  some (Za.z0,false))
 else (
  (Zo0 x0).bind λr2=>
  (Zqy).bind λr3=>
  Znj x0 FU (Za.mk r2 0 [] Z6.z0 [] [] (-1) 0 (-1) Zf.z0 Zf.z0 r3 0 []) 0)
def Zgx (x0:Int):Option Int:=
 (Ys x0 0 3).bind λr0=>
 if (!r0)=true then (
  some 0)
 else (
  (idx [1,4,4,8] x0).bind λa0=>
  some a0)
def J0 (x0:Int):Option Int:=
 (Ys x0 0 2).bind λr0=>
 if (!r0)=true then (
  some 0)
 else (
  (nnI x0).bind λn0=>
  some (Ybx 1 x0))
def Zgo (x0:Int) (x1:Int):Option Bool:=
 (Ys x1 0 2).bind λr0=>
 if r0=true then (
  if decide (x0≥0)=true then (
   (J0 x1).bind λr1=>
   (nzI r1).bind λn0=>
   some (decide ((Zdh x0 r1)=0)))
  else (
   some false))
 else (
  some false)
def Zem (x0:Int) (x1:Int) (x2:Int)  (v0:Bool):Option Int:=
 if v0=true then (
  some (-1))
 else (
  (J0 x1).bind λr0=>
  (J0 x1).bind λr1=>
  if decide (x2=2)=true then (
   (nzI (Jm 4 r1)).bind λn0=>
   if decide ((Zdh (Zu x0 r0) (Jm 4 r1))=0)=true then (
    some (Y9 (Zu x0 r0) (Jm 4 r1)))
   else (
    some (Zu x0 r0)))
  else (
   some (Zu x0 r0)))
def Zsa (x0:Int) (x1:Int) (x2:Int):Option Int:=
 (Zgo x0 x1).bind λr2=>
 if (!r2)=true then (
  Zem x0 x1 x2 true)
 else (
  if decide (x0≥512)=true then (
   Zem x0 x1 x2 true)
  else (
   (Zgx x2).bind λr3=>
   Zem x0 x1 x2 (decide (r3=0))))
def Zbx (x0:Int) (x1:Int) (x2:Int)  (k:Int->(List Int)->Int->Int->Option (List Int)) (v0:Int) (v1:List Int) (v2:Int) (v3:Int):Option (List Int):=
 if decide (v3 < v2)=true then (
  (Zsa v0 x1 x2).bind λr0=>
  if decide (r0 < 0)=true then (
   some [])
  else (
   (Xt 8 v1 [v0]).bind λz0=>
   k r0 z0 v2 (Zu v3 1)))
 else (
  some v1)
def Zgi (x0:Int) (x1:Int) (x2:Int)  : Nat->Int->(List Int)->Int->Int->Option (List Int)
 | 0,_,_,_,_=>none
 | m+1,v0,v1,v2,v3=>Zbx x0 x1 x2  (Zgi x0 x1 x2  m) v0 v1 v2 v3
def Zhv (x0:Int) (x1:Int) (x2:Int):Option (List Int):=
 (Zgx x2).bind λr1=>
 Zgi x0 x1 x2 FU x0 [] r1 0
def Zpy (x0:Int) (x1:Int) (x2:Int)  (k:(List Int)->Int->Int->Option Bool) (v0:List Int) (v1:Int) (v2:Int):Option Bool:=
 if decide (v2 < v1)=true then (
  (idx v0 v2).bind λa0=>
  (idx v0 0).bind λa1=>
  if decide ((Zq4 a0 64)≠(Zq4 a1 64))=true then (
   some false)
  else (
   k v0 v1 (Zu v2 1)))
 else (
  some (decide ((v0.length:Int) > 0)))
def Zlj (x0:Int) (x1:Int) (x2:Int)  : Nat->(List Int)->Int->Int->Option Bool
 | 0,_,_,_=>none
 | m+1,v0,v1,v2=>Zpy x0 x1 x2  (Zlj x0 x1 x2  m) v0 v1 v2
def Ztw (x0:Int) (x1:Int) (x2:Int):Option Bool:=
 (Zhv x0 x1 x2).bind λr0=>
 Zlj x0 x1 x2 FU r0 (r0.length:Int) 0
def Zoy (x0:Int):Option Int:=
 (J0 x0).bind λr0=>
 if decide (r0=0)=true then (
  some 0)
 else (
  (J0 x0).bind λr1=>
  (nnI (Jm 8 r1)).bind λn0=>
  some (Ybx 1 (Jm 8 r1)))
def Zdz (x0:Int) (x1:Int):Option Bool:=
 (Zoy x1).bind λr0=>
 (Ys x0 0 (Y9 r0 1)).bind λr1=>
 some r1
def Zua (x0:Int) (x1:Zb):Option Bool:=
 (Zdz x0 x1.size).bind λr0=>
 some (!r0)
def Zh2 (x0:List Int) (x1c0:Zb)  (k:Int->Option Int) (v0:Int):Option Int:=
 if decide (v0 < (x0.length:Int))=true then (
  (idx x0 v0).bind λa0=>
  (Zua a0 x1c0).bind λr0=>
  if r0=true then (
   some v0)
  else (
   k (Zu v0 1)))
 else (
  some (-1))
def Q3 (x0:List Int) (x1c0:Zb)  : Nat->Int->Option Int
 | 0,_=>none
 | m+1,v0=>Zh2 x0 x1c0  (Q3 x0 x1c0  m) v0
def Kw (x0:List Int) (x1c0:Zb):Option Int:=
 Q3 x0 x1c0 FU 0
def Wo (x0:List Int) (x1c0:Zb):Option Bool:=
 (Kw x0 x1c0).bind λr0=>
 some (decide (r0≥0))
def Zpj (x0:Zb)  (v0:Int):Option Bool:=
 (Ztw x0.addr x0.size x0.burst).bind λr0=>
 if r0=true then (
  if decide ((x0.data_.length:Int)=v0)=true then (
   (Wo x0.data_ x0).bind λr1=>
   some (!r1))
  else (
   some false))
 else (
  some false)
def Zqi (x0:Zb):Option Bool:=
 if x0.write=true then (
  (Zgx x0.burst).bind λr2=>
  Zpj x0 r2)
 else (
  Zpj x0 0)
def Zwv (x0:Zb):Option Bool:=
 (Zqi x0).bind λr0=>
 some (!r0)
def Zia (x0:List Zb)  (k:Int->Option Int) (v0:Int):Option Int:=
 if decide (v0 < (x0.length:Int))=true then (
  (idx x0 v0).bind λa0=>
  (Zwv a0).bind λr0=>
  if r0=true then (
   some v0)
  else (
   k (Zu v0 1)))
 else (
  some (-1))
def Wp (x0:List Zb)  : Nat->Int->Option Int
 | 0,_=>none
 | m+1,v0=>Zia x0  (Wp x0  m) v0
def Jb (x0:List Zb):Option Int:=
 Wp x0 FU 0
def Kk (x0:List Zb):Option Bool:=
 (Jb x0).bind λr0=>
 some (decide (r0≥0))
def Y5 (x0:List Int):Option (List Int):=Xt 8 [] x0
def Zir (x0:Zb):Option Zb:=
 (Y5 x0.data_).bind λr0=>
 some {x0 with data_:=r0}
def Ye3 (x0:Zd)  (k:(List Zb)->Int->Option Zd) (v0:List Zb) (v1:Int):Option Zd:=
 if decide (v1 < (x0.queue.length:Int))=true then (
  (idx x0.queue v1).bind λa0=>
  (Zir a0).bind λr0=>
  (Xt 64 v0 [r0]).bind λz0=>
  k z0 (Zu v1 1))
 else (
  some {x0 with queue:=v0})
def Zn7 (x0:Zd)  : Nat->(List Zb)->Int->Option Zd
 | 0,_,_=>none
 | m+1,v0,v1=>Ye3 x0  (Zn7 x0  m) v0 v1
def Zf3 (x0:Zd):Option Zd:=
 Zn7 x0 FU [] 0
def Jj (x0:List Zk):Option (List Zk):=Xt 16 [] x0
def Zrf (x0:Zl):Option Zl:=
 (Y5 x0.regs).bind λr0=>
 (Y5 x0.fifo).bind λr1=>
 some (Zl.mk r0 x0.timer r1)
def Zhq (x0:Zj):Option Zj:=
 (Y5 x0.mem).bind λr0=>
 (Zrf x0.dev).bind λr1=>
 some (Zj.mk r0 r1)
def Za4 (x0:List Zm):Option (List Zm):=Xt 56 [] x0
def Zkm (x0:Za)  (k:Za->(List Zd)->Int->Option Za) (vb0:Za) (v0:List Zd) (v1:Int):Option Za:=
 if decide (v1 < (x0.m.length:Int))=true then (
  (idx x0.m v1).bind λa0=>
  (Zf3 a0).bind λr0=>
  (Xt 56 v0 [r0]).bind λz0=>
  k vb0 z0 (Zu v1 1))
 else (
  (Jj vb0.buckets).bind λr1=>
  (Y5 vb0.splits).bind λr2=>
  (Zhq vb0.model).bind λr3=>
  (Za4 vb0.log).bind λr4=>
  some {vb0 with m:=v0,buckets:=r1,splits:=r2,model:=r3,log:=r4})
def Zhp (x0:Za)  : Nat->Za->(List Zd)->Int->Option Za
 | 0,_,_,_=>none
 | m+1,vb0,v0,v1=>Zkm x0  (Zhp x0  m) vb0 v0 v1
def Zr9 (x0:Za):Option Za:=
 (Zo0 x0.conf).bind λr5=>
 Zhp x0 FU {x0 with conf:=r5} [] 0
def Zft (x0:Zb):Option Bool:=
 (Zqi x0).bind λr0=>
 some (!r0)
def Zd7 (x0:List Zb)  (k:Int->Option Int) (v0:Int):Option Int:=
 if decide (v0 < (x0.length:Int))=true then (
  (idx x0 v0).bind λa0=>
  (Zft a0).bind λr0=>
  if r0=true then (
   some v0)
  else (
   k (Zu v0 1)))
 else (
  some (-1))
def Ww (x0:List Zb)  : Nat->Int->Option Int
 | 0,_=>none
 | m+1,v0=>Zd7 x0  (Ww x0  m) v0
def Qj (x0:List Zb):Option Int:=
 Ww x0 FU 0
def Xv (x0:List Zb):Option Bool:=
 (Qj x0).bind λr0=>
 some (decide (r0≥0))
def Zbo (x0:Zd):Option Int:=
 if decide ((x0.queue.length:Int)=0)=true then (
  some 0)
 else (
  (idx x0.queue 0).bind λa0=>
  (Zgx a0.burst).bind λr0=>
  some r0)
def Wn (x0:Zd)  (v0:Bool):Option Bool:=
 if v0=true then (
  some false)
 else (
  if decide ((x0.queue.length:Int)=0)=true then (
   if decide (x0.beat=0)=true then (
    if decide (x0.done=0)=true then (
     if decide (x0.tries=0)=true then (
      if (!x0.parted)=true then (
       some (!x0.broken))
      else (
       some false))
     else (
      some false))
    else (
     some false))
   else (
    some false))
  else (
   (Zbo x0).bind λr0=>
   (Ys x0.done 0 (Y9 r0 1)).bind λr1=>
   if r1=true then (
    (Zbo x0).bind λr2=>
    (Ys x0.beat x0.done (Zi4 (Zu x0.done 2) r2)).bind λr3=>
    some r3)
   else (
    some false)))
def Kg (x0:Zd):Option Bool:=
 if decide ((x0.queue.length:Int) > 4)=true then (
  Wn x0 true)
 else (
  if decide (x0.tries < 0)=true then (
   Wn x0 true)
  else (
   (Xv x0.queue).bind λr4=>
   Wn x0 r4))
def Zl6 (x0:Zk) (x1:Zc):Option Bool:=
 if (!x1.prio)=true then (
  some (decide (x0.tokens=0)&&(decide (x0.count=0)&&true)))
 else (
  (Ys x0.tokens 0 x1.cap).bind λr0=>
  if r0=true then (
   if decide (x0.count≥0)=true then (
    some (decide (x0.count < x1.every)))
   else (
    some false))
  else (
   some false))
def Zbt (x0:Za)  (k:Int->Option Bool) (v0:Int):Option Bool:=
 if decide (v0 < (x0.m.length:Int))=true then (
  (idx x0.m v0).bind λa0=>
  (Kg a0).bind λr0=>
  if (!r0)=true then (
   some false)
  else (
   if decide (a0.tries > x0.conf.maxRetry)=true then (
    some false)
   else (
    (idx x0.buckets v0).bind λa1=>
    (idx x0.conf.masters v0).bind λa2=>
    (Zl6 a1 a2).bind λr1=>
    if (!r1)=true then (
     some false)
    else (
     (idx x0.splits v0).bind λa3=>
     (Ys a3 0 x0.conf.maxSplit).bind λr2=>
     if (!r2)=true then (
      some false)
     else (
      k (Zu v0 1))))))
 else (
  some true)
def Zgq (x0:Za)  : Nat->Int->Option Bool
 | 0,_=>none
 | m+1,v0=>Zbt x0  (Zgq x0  m) v0
def Qm (x0:Za)  (v1:Bool):Option Bool:=
 if v1=true then (
  some false)
 else (
  Zgq x0 FU 0)
def Zfz (x0:Za):Option Bool:=
 if decide ((x0.m.length:Int)≠(x0.conf.masters.length:Int))=true then (
  Qm x0 true)
 else (
  if decide ((x0.buckets.length:Int)≠(x0.conf.masters.length:Int))=true then (
   Qm x0 true)
  else (
   Qm x0 (decide ((x0.splits.length:Int)≠(x0.conf.masters.length:Int)))))
def K0 (x0:Zh) (x1:Int):Option Bool:=
 (Ys x1 0 (Y9 (x0.masters.length:Int) 1)).bind λr0=>
 some r0
def Zs9 (x0:Zh) (x1:Int)  (v0:Bool):Option Int:=
 if v0=true then (
  some 0)
 else (
  (idx x0.masters x1).bind λa0=>
  some (Jm a0.weight x0.quantum))
def Zni (x0:Zh) (x1:Int):Option Int:=
 (Ziu x0).bind λr0=>
 if (!r0)=true then (
  Zs9 x0 x1 true)
 else (
  (K0 x0 x1).bind λr1=>
  Zs9 x0 x1 (!r1))
def Zl3 (x0:Z6) (x1:Zh):Option Bool:=
 (Ziu x1).bind λr0=>
 if r0=true then (
  (K0 x1 x0.at_).bind λr1=>
  if r1=true then (
   (Zni x1 x0.at_).bind λr2=>
   (Ys x0.credit 0 r2).bind λr3=>
   some r3)
  else (
   some false))
 else (
  some false)
def Zwp (x0:Int):Option Bool:=
 (Ys x0 0 255).bind λr0=>
 some (!r0)
def Zh8 (x0:List Int)  (k:Int->Option Int) (v0:Int):Option Int:=
 if decide (v0 < (x0.length:Int))=true then (
  (idx x0 v0).bind λa0=>
  (Zwp a0).bind λr0=>
  if r0=true then (
   some v0)
  else (
   k (Zu v0 1)))
 else (
  some (-1))
def Ki (x0:List Int)  : Nat->Int->Option Int
 | 0,_=>none
 | m+1,v0=>Zh8 x0  (Ki x0  m) v0
def K6 (x0:List Int):Option Int:=
 Ki x0 FU 0
def Wv (x0:List Int):Option Bool:=
 (K6 x0).bind λr0=>
 some (decide (r0≥0))
def Ztj (x0:List Int) (x1:Int) (x2:Int):Option Bool:=
 if decide ((x0.length:Int)<=512)=true then (
  (Wv x0).bind λr0=>
  if (!r0)=true then (
   (Zgo x1 x2).bind λr1=>
   if r1=true then (
    (J0 x2).bind λr2=>
    some (decide (x1<=(Y9 (x0.length:Int) r2))))
   else (
    some false))
  else (
   some false))
 else (
  some false)
def Ztz (x0:Int):Option Bool:=
 (Zdz x0 2).bind λr0=>
 some (!r0)
def Zhg (x0:List Int)  (k:Int->Option Int) (v0:Int):Option Int:=
 if decide (v0 < (x0.length:Int))=true then (
  (idx x0 v0).bind λa0=>
  (Ztz a0).bind λr0=>
  if r0=true then (
   some v0)
  else (
   k (Zu v0 1)))
 else (
  some (-1))
def Q4 (x0:List Int)  : Nat->Int->Option Int
 | 0,_=>none
 | m+1,v0=>Zhg x0  (Q4 x0  m) v0
def Ky (x0:List Int):Option Int:=
 Q4 x0 FU 0
def Xr (x0:List Int):Option Bool:=
 (Ky x0).bind λr0=>
 some (decide (r0≥0))
def Zu5 (x0:Zl):Option Bool:=
 if decide ((x0.regs.length:Int)=4)=true then (
  if decide ((x0.fifo.length:Int)<=4)=true then (
   (Xr x0.regs).bind λr0=>
   if (!r0)=true then (
    (Xr x0.fifo).bind λr1=>
    if (!r1)=true then (
     (Zdz x0.timer 2).bind λr2=>
     some r2)
    else (
     some false))
   else (
    some false))
  else (
   some false))
 else (
  some false)
def Zgy (x0:Zj):Option Bool:=
 if decide ((x0.mem.length:Int)=192)=true then (
  (Ztj x0.mem 0 0).bind λr0=>
  if r0=true then (
   (Zu5 x0.dev).bind λr1=>
   some r1)
  else (
   some false))
 else (
  some false)
def Zn5 (x0:Zf):Option Bool:=
 some (!x0.live)
def Ze6 (x0:List Zf)  (k:Int->Option Int) (v0:Int):Option Int:=
 if decide (v0 < (x0.length:Int))=true then (
  (idx x0 v0).bind λa0=>
  (Zn5 a0).bind λr0=>
  if r0=true then (
   some v0)
  else (
   k (Zu v0 1)))
 else (
  some (-1))
def W8 (x0:List Zf)  : Nat->Int->Option Int
 | 0,_=>none
 | m+1,v0=>Ze6 x0  (W8 x0  m) v0
def Qu (x0:List Zf):Option Int:=
 W8 x0 FU 0
def Zel (x0:List Zf)  (k:(List Zf)->Int->Int->Option (List Zf)) (v0:List Zf) (v1:Int) (v2:Int):Option (List Zf):=
 if decide (v2 < (v0.length:Int))=true then (
  (idx v0 v2).bind λa0=>
  (Zn5 a0).bind λr0=>
  if (!r0)=true then (
   (idx v0 v1).bind λa1=>
   (Qn v0 v1 a0).bind λy0=>
   k y0 (Zu v1 1) (Zu v2 1))
  else (
   k v0 v1 (Zu v2 1)))
 else (
  (J4 v0 v1 (v0.length:Int)).bind λs0=>
  (Z1m Zf.z0 v0 v1 (v0.length:Int)).bind λy1=>
  (J4 y1 0 v1).bind λs1=>
  some s1)
def W3 (x0:List Zf)  : Nat->(List Zf)->Int->Int->Option (List Zf)
 | 0,_,_,_=>none
 | m+1,v0,v1,v2=>Zel x0  (W3 x0  m) v0 v1 v2
def We (x0:List Zf):Option (List Zf):=
 (Qu x0).bind λr1=>
 if decide (r1=(-1))=true then (
  some x0)
 else (
  W3 x0 FU x0 r1 (Zu r1 1))
def Zst (x0:Za):Option (List Zf):=
 (We [x0.addr,x0.data_]).bind λr0=>
 some r0
def Kc (x0:Za) (k_L1:(List Int)->(List Zf)->Int->Int->Option Bool) (vb0:Zf) (v0:List Int) (v1:List Zf) (v2:Int) (v3:Int) (v4:Bool):Option Bool:=
 if v4=true then (
  some false)
 else (
  (idx v0 vb0.who).bind λa0=>
  (Qn v0 vb0.who (Zu a0 1)).bind λy0=>
  k_L1 y0 v1 v2 (Zu v3 1))
def Qh (x0:Za)  (v5:Bool):Option Bool:=
 if v5=true then (
  some false)
 else (
  if (!x0.data_.second)=true then (
   some true)
  else (
   if decide (x0.data_.left=0)=true then (
    if decide (x0.data_.resp≠0)=true then (
     some (!x0.addr.live))
    else (
     some false))
   else (
    some false)))
def Zbd (x0:Za)  (vb1:Zd) (v6:Bool):Option Bool:=
 if v6=true then (
  some false)
 else (
  if decide (x0.data_.resp=3)=true then (
   if vb1.parted=true then (
    Qh x0 true)
   else (
    Qh x0 (decide (x0.data_.who=x0.holder))))
  else (
   Qh x0 false))
def Jn (x0:Za)  (vb1:Zd) (v7:Bool):Option Bool:=
 if v7=true then (
  some false)
 else (
  if decide (x0.data_.resp=2)=true then (
   Zbd x0 vb1 (decide (vb1.tries≥x0.conf.maxRetry)))
  else (
   Zbd x0 vb1 false))
def Y8 (x0:Za)  (v8:Bool):Option Bool:=
 if v8=true then (
  some false)
 else (
  if (!x0.data_.live)=true then (
   some ((x0.data_.live == false)&&(decide (x0.data_.who=0)&&(decide (x0.data_.beat=0)&&((x0.data_.first == false)&&(decide (x0.data_.by_=0)&&(decide (x0.data_.left=0)&&(decide (x0.data_.resp=0)&&((x0.data_.second == false)&&true)))))))))
  else (
   (idx x0.m x0.data_.who).bind λa1=>
   if decide (x0.data_.beat≠a1.done)=true then (
    Jn x0 a1 true)
   else (
    (Ys x0.data_.left 0 (Zu x0.conf.maxWait 2)).bind λr0=>
    if (!r0)=true then (
     Jn x0 a1 true)
    else (
     (Ys x0.data_.resp 0 3).bind λr1=>
     Jn x0 a1 (!r1)))))
def Wh (x0:Za)  (k:(List Int)->Int->Option Bool) (v0:List Int) (v9:Int):Option Bool:=
 if decide (v9 < (x0.m.length:Int))=true then (
  (idx x0.m v9).bind λa2=>
  (idx v0 v9).bind λa3=>
  if decide ((Y9 a2.beat a2.done)≠a3)=true then (
   some false)
  else (
   k v0 (Zu v9 1)))
 else (
  if x0.addr.live=true then (
   (idx x0.m x0.addr.who).bind λa4=>
   if decide (x0.addr.beat≠(Y9 a4.beat 1))=true then (
    Y8 x0 true)
   else (
    if decide (x0.addr.left≠0)=true then (
     Y8 x0 true)
    else (
     if decide (x0.addr.resp≠0)=true then (
      Y8 x0 true)
     else (
      if x0.addr.second=true then (
       Y8 x0 true)
      else (
       if (!x0.addr.live)=true then (
        Y8 x0 (!((x0.addr.live == false)&&(decide (x0.addr.who=0)&&(decide (x0.addr.beat=0)&&((x0.addr.first == false)&&(decide (x0.addr.by_=0)&&(decide (x0.addr.left=0)&&(decide (x0.addr.resp=0)&&((x0.addr.second == false)&&true))))))))))
       else (
        Y8 x0 false))))))
  else (
   if (!x0.addr.live)=true then (
    Y8 x0 (!((x0.addr.live == false)&&(decide (x0.addr.who=0)&&(decide (x0.addr.beat=0)&&((x0.addr.first == false)&&(decide (x0.addr.by_=0)&&(decide (x0.addr.left=0)&&(decide (x0.addr.resp=0)&&((x0.addr.second == false)&&true))))))))))
   else (
    Y8 x0 false)))
def Zbf (x0:Za)  : Nat->(List Int)->Int->Option Bool
 | 0,_,_=>none
 | m+1,v0,v9=>Wh x0  (Zbf x0  m) v0 v9
def Wi (x0:Za)  (k:(List Int)->(List Zf)->Int->Int->Option Bool) (v0:List Int) (v1:List Zf) (v2:Int) (v3:Int):Option Bool:=
 if decide (v3 < v2)=true then (
  (idx v1 v3).bind λa5=>
  (K0 x0.conf a5.who).bind λr2=>
  if (!r2)=true then (
   Kc x0 k a5 v0 v1 v2 v3 true)
  else (
   (Ys a5.by_ 1 3).bind λr3=>
   if (!r3)=true then (
    Kc x0 k a5 v0 v1 v2 v3 true)
   else (
    (idx x0.splits a5.who).bind λa6=>
    Kc x0 k a5 v0 v1 v2 v3 (decide (a6≠0)))))
 else (
  Zbf x0 FU v0 0)
def Zdv (x0:Za)  : Nat->(List Int)->(List Zf)->Int->Int->Option Bool
 | 0,_,_,_,_=>none
 | m+1,v0,v1,v2,v3=>Wi x0  (Zdv x0  m) v0 v1 v2 v3
def Zcc (x0:Za):Option Bool:=
 (mkI 8 (x0.m.length:Int) 0).bind λm0=>
 (Zst x0).bind λr4=>
 Zdv x0 FU m0 r4 (r4.length:Int) 0
def Zqc (x0:Zd):Option Bool:=
 if decide ((x0.queue.length:Int) > 0)=true then (
  (idx x0.queue 0).bind λa0=>
  if a0.lock=true then (
   some (!x0.broken))
  else (
   some false))
 else (
  some false)
def Ze0 (x0:Za)  (k:Int->Option Bool) (v0:Int):Option Bool:=
 if decide (v0 < (x0.m.length:Int))=true then (
  (idx x0.m v0).bind λa0=>
  if decide (a0.beat > 0)=true then (
   (Zqc a0).bind λr0=>
   if r0=true then (
    if decide (x0.holder≠v0)=true then (
     some false)
    else (
     k (Zu v0 1)))
   else (
    k (Zu v0 1)))
  else (
   k (Zu v0 1)))
 else (
  if decide (x0.holder=(-1))=true then (
   some (decide (x0.held=0)))
  else (
   (K0 x0.conf x0.holder).bind λr1=>
   if r1=true then (
    (idx x0.m x0.holder).bind λa1=>
    (Zqc a1).bind λr2=>
    if r2=true then (
     (idx x0.splits x0.holder).bind λa2=>
     if decide (a2=0)=true then (
      (Ys x0.held 0 x0.conf.lockMost).bind λr3=>
      some r3)
     else (
      some false))
    else (
     some false))
   else (
    some false)))
def Zm2 (x0:Za)  : Nat->Int->Option Bool
 | 0,_=>none
 | m+1,v0=>Ze0 x0  (Zm2 x0  m) v0
def Zd8 (x0:Za):Option Bool:=
 Zm2 x0 FU 0
def Zc7 (x0:Za)  (k:Int->Int->Option Bool) (v0:Int) (v1:Int):Option Bool:=
 if decide (v1 < (x0.log.length:Int))=true then (
  (idx x0.log v1).bind λa0=>
  if decide (a0.cycle<=v0)=true then (
   some false)
  else (
   if decide (a0.cycle≥x0.now)=true then (
    some false)
   else (
    (K0 x0.conf a0.who).bind λr0=>
    if (!r0)=true then (
     some false)
    else (
     (Zgo a0.addr a0.size).bind λr1=>
     if (!r1)=true then (
      some false)
     else (
      if decide (a0.addr≥512)=true then (
       some false)
      else (
       (Zdz a0.value a0.size).bind λr2=>
       if (!r2)=true then (
        some false)
       else (
        if decide (a0.resp≠0)=true then (
         if decide (a0.resp≠1)=true then (
          some false)
         else (
          k a0.cycle (Zu v1 1)))
        else (
         k a0.cycle (Zu v1 1)))))))))
 else (
  some true)
def Zdr (x0:Za)  : Nat->Int->Int->Option Bool
 | 0,_,_=>none
 | m+1,v0,v1=>Zc7 x0  (Zdr x0  m) v0 v1
def Zch (x0:Za):Option Bool:=
 Zdr x0 FU (-1) 0
def Zqf (x0:Za):Option Bool:=
 (Ziu x0.conf).bind λr0=>
 if r0=true then (
  (Ys x0.now 0 4000).bind λr1=>
  if r1=true then (
   (Zfz x0).bind λr2=>
   if r2=true then (
    (Zl3 x0.arb x0.conf).bind λr3=>
    if r3=true then (
     if decide (x0.last=(-1))=true then (
      (Zgy x0.model).bind λr4=>
      if r4=true then (
       (Ys x0.picks 0 x0.now).bind λr5=>
       if r5=true then (
        (Zcc x0).bind λr6=>
        if r6=true then (
         (Zd8 x0).bind λr7=>
         if r7=true then (
          (Zch x0).bind λr8=>
          some r8)
         else (
          some false))
        else (
         some false))
       else (
        some false))
      else (
       some false))
     else (
      (K0 x0.conf x0.last).bind λr9=>
      if r9=true then (
       (Zgy x0.model).bind λr4=>
       if r4=true then (
        (Ys x0.picks 0 x0.now).bind λr5=>
        if r5=true then (
         (Zcc x0).bind λr6=>
         if r6=true then (
          (Zd8 x0).bind λr7=>
          if r7=true then (
           (Zch x0).bind λr8=>
           some r8)
          else (
           some false))
         else (
          some false))
        else (
         some false))
       else (
        some false))
      else (
       some false)))
    else (
     some false))
   else (
    some false))
  else (
   some false))
 else (
  some false)
def Z9f (x0:Zg)  (k:Int->Int->Option Int) (v0:Int) (v1:Int):Option Int:=
 if decide (v1 < (x0.posts.length:Int))=true then (
  (idx x0.posts v1).bind λa0=>
  k (Zkh v0 a0.at_) (Zu v1 1))
 else (
  some v0)
def Zjh (x0:Zg)  : Nat->Int->Int->Option Int
 | 0,_,_=>none
 | m+1,v0,v1=>Z9f x0  (Zjh x0  m) v0 v1
def Zq9 (x0:Zg):Option Int:=
 Zjh x0 FU (-1) 0
def Zeu (x0:Zd):Option Bool:=
 some (decide ((x0.queue.length:Int) > 0))
def Ze5 (x0:List Zd)  (k:Int->Option Int) (v0:Int):Option Int:=
 if decide (v0 < (x0.length:Int))=true then (
  (idx x0 v0).bind λa0=>
  (Zeu a0).bind λr0=>
  if r0=true then (
   some v0)
  else (
   k (Zu v0 1)))
 else (
  some (-1))
def Xy (x0:List Zd)  : Nat->Int->Option Int
 | 0,_=>none
 | m+1,v0=>Ze5 x0  (Xy x0  m) v0
def Qv (x0:List Zd):Option Int:=
 Xy x0 FU 0
def Qd (x0:List Zd):Option Bool:=
 (Qv x0).bind λr0=>
 some (decide (r0≥0))
def Znm (x0:Za):Option Bool:=
 (Qd x0.m).bind λr0=>
 some (!r0)
def Zli (x0:Zd) (x1:Int)  (v0:Bool):Option Int:=
 if v0=true then (
  some (-1))
 else (
  (idx x0.queue 0).bind λa0=>
  (Zhv a0.addr a0.size a0.burst).bind λr0=>
  (idx r0 x1).bind λa1=>
  some a1)
def Zd3 (x0:Zd) (x1:Int):Option Int:=
 (Kg x0).bind λr1=>
 if (!r1)=true then (
  Zli x0 x1 true)
 else (
  (Zbo x0).bind λr2=>
  (Ys x1 0 (Y9 r2 1)).bind λr3=>
  Zli x0 x1 (!r3))
def Zi0 (x0:Zg) (x1:Int)  (k:(List Zv)->Int->Option (List Zv)) (v0:List Zv) (v1:Int):Option (List Zv):=
 if decide (v1 < (x0.posts.length:Int))=true then (
  (idx x0.posts v1).bind λa0=>
  if decide (a0.at_=x1)=true then (
   (Zir a0.req).bind λr0=>
   (Xt 80 v0 [{a0 with req:=r0}]).bind λz0=>
   k z0 (Zu v1 1))
  else (
   k v0 (Zu v1 1)))
 else (
  some v0)
def Zla (x0:Zg) (x1:Int)  : Nat->(List Zv)->Int->Option (List Zv)
 | 0,_,_=>none
 | m+1,v0,v1=>Zi0 x0 x1  (Zla x0 x1  m) v0 v1
def Ztt (x0:Zg) (x1:Int):Option (List Zv):=
 Zla x0 x1 FU [] 0
def Zgg (x0:Zd) (x1:Zb)  (vb0:Zd) (v0:Bool):Option (Zd×Bool):=
 if v0=true then (
  some (vb0,false))
 else (
  (Zir x1).bind λr0=>
  (Xt 64 vb0.queue [r0]).bind λz0=>
  some ({vb0 with queue:=z0},true))
def Zut (x0:Zd) (x1:Zb):Option (Zd×Bool):=
 (Zf3 x0).bind λr1=>
 (Kg x0).bind λr2=>
 if (!r2)=true then (
  Zgg x0 x1 r1 true)
 else (
  (Zqi x1).bind λr3=>
  if (!r3)=true then (
   Zgg x0 x1 r1 true)
  else (
   Zgg x0 x1 r1 (decide ((x0.queue.length:Int)=4))))
def Zoe (x0:Zk) (x1:Zc):Option Bool:=
 if x1.prio=true then (
  (Zl6 x0 x1).bind λr0=>
  some r0)
 else (
  some false)
def Zno (x0:Zk) (x1:Zc):Option Zk:=
 (Zoe x0 x1).bind λr0=>
 if (!r0)=true then (
  some x0)
 else (
  if decide ((Zu x0.count 1)=x1.every)=true then (
   some (Zk.mk (Zi4 (Zu x0.tokens 1) x1.cap) 0))
  else (
   some (Zk.mk x0.tokens (Zu x0.count 1))))
def Zlo (x0:Zd)  (vb0:Zd) (v0:Bool):Option (Zd×Bool):=
 if v0=true then (
  some (vb0,false))
 else (
  some ({vb0 with beat:=(Y9 vb0.beat 1)},true))
def Zt7 (x0:Zd):Option (Zd×Bool):=
 (Zf3 x0).bind λr0=>
 (Kg x0).bind λr1=>
 if (!r1)=true then (
  Zlo x0 r0 true)
 else (
  Zlo x0 r0 (decide (x0.beat=x0.done)))
def Zne (x0:Zk) (x1:Zc):Option Zk:=
 (Zoe x0 x1).bind λr0=>
 if r0=true then (
  if decide (x0.tokens < x1.cap)=true then (
   some (Zk.mk (Zu x0.tokens 1) x0.count))
  else (
   some x0))
 else (
  some x0)
def Zk0 (x0:Z6) (x1:Zh) (x2:Int)  (v0:Bool):Option Z6:=
 if v0=true then (
  (Zni x1 x2).bind λr0=>
  some (Z6.mk x0.at_ (Zi4 (Zu x0.credit 1) r0)))
 else (
  some x0)
def Zuh (x0:Z6) (x1:Zh) (x2:Int):Option Z6:=
 (Zl3 x0 x1).bind λr1=>
 if r1=true then (
  Zk0 x0 x1 x2 (decide (x2=x0.at_)))
 else (
  Zk0 x0 x1 x2 false)
def Zd6 (x0:Za) (x1:Zf):Option Za:=
 (idx x0.m x1.who).bind λa0=>
 (Zt7 a0).bind λr0=>
 (Qn x0.m x1.who r0.1).bind λy0=>
 if decide (x1.by_=1)=true then (
  (idx x0.buckets x1.who).bind λa1=>
  (idx x0.conf.masters x1.who).bind λa2=>
  (Zne a1 a2).bind λr1=>
  (Qn x0.buckets x1.who r1).bind λy1=>
  some {x0 with m:=y0,buckets:=y1})
 else (
  if decide (x1.by_=2)=true then (
   (Zuh x0.arb x0.conf x1.who).bind λr2=>
   some {x0 with m:=y0,arb:=r2})
  else (
   some {x0 with m:=y0}))
def Zls (x0:List Int) (x1:Int)  (v0:Bool):Option Int:=
 if v0=true then (
  some 0)
 else (
  (nzI (x0.length:Int)).bind λn0=>
  (idx x0 (Zdh x1 (x0.length:Int))).bind λa0=>
  some a0)
def Zkb (x0:List Int) (x1:Int):Option Int:=
 if decide ((x0.length:Int)=0)=true then (
  Zls x0 x1 true)
 else (
  Zls x0 x1 (decide (x1 < 0)))
def Ztu (x0:Zh) (x1:Zg) (x2:Int):Option Int:=
 (Zkb x1.waits x2).bind λr0=>
 some (Zkh 1 (Zi4 (Zu (Zkh 0 (Zi4 r0 99)) 1) x0.maxSplit))
def Zof (x0:Zd) (x1:Int):Option Int:=
 (idx x0.queue 0).bind λa0=>
 if a0.write=true then (
  (idx a0.data_ x1).bind λa1=>
  some a1)
 else (
  some 0)
def Zk6 (x0:Int)  (v0:Bool):Option Int:=
 if v0=true then (
  some 0)
 else (
  if decide (x0 < 128)=true then (
   some 1)
  else (
   if decide (x0 < 192)=true then (
    some 2)
   else (
    some 3)))
def Zov (x0:Int):Option Int:=
 if decide (x0 < 0)=true then (
  Zk6 x0 true)
 else (
  Zk6 x0 (decide (x0≥224)))
def Zjy (x0:Zl) (x1:Bool) (x2:Int) (x3:Int)  (vb0:Zl) (v0:Bool):Option (Zl×Int×Bool):=
 if v0=true then (
  some (vb0,0,false))
 else (
  if x1=true then (
   (idx vb0.regs (Zq4 x2 4)).bind λa0=>
   (Qn vb0.regs (Zq4 x2 4) x3).bind λy0=>
   some ({vb0 with regs:=y0},x3,true))
  else (
   (idx x0.regs (Zq4 x2 4)).bind λa1=>
   some (vb0,a1,true)))
def Zjv (x0:Zl) (x1:Bool) (x2:Int) (x3:Int)  (vb0:Zl) (v1:Bool):Option (Zl×Int×Bool):=
 if v1=true then (
  (idx x0.fifo 0).bind λa2=>
  (J4 x0.fifo 1 (x0.fifo.length:Int)).bind λs0=>
  (Y5 s0).bind λr0=>
  some ({vb0 with fifo:=r0},a2,true))
 else (
  if decide (x2≥16)=true then (
   Zjy x0 x1 x2 x3 vb0 true)
  else (
   if decide (x2 < 0)=true then (
    Zjy x0 x1 x2 x3 vb0 true)
   else (
    Zjy x0 x1 x2 x3 vb0 (decide ((Zdh x2 4)≠0)))))
def Zj5 (x0:Zl) (x1:Bool) (x2:Int) (x3:Int)  (vb0:Zl) (v2:Bool):Option (Zl×Int×Bool):=
 if v2=true then (
  (Xt 8 vb0.fifo [x3]).bind λz0=>
  some ({vb0 with fifo:=z0},x3,true))
 else (
  if decide (x2=20)=true then (
   if (!x1)=true then (
    Zjv x0 x1 x2 x3 vb0 (decide ((x0.fifo.length:Int) > 0)))
   else (
    Zjv x0 x1 x2 x3 vb0 false))
  else (
   Zjv x0 x1 x2 x3 vb0 false))
def Zpr (x0:Zl) (x1:Bool) (x2:Int) (x3:Int)  (vb0:Zl) (v3:Bool):Option (Zl×Int×Bool):=
 if v3=true then (
  some ({vb0 with timer:=x3},x3,true))
 else (
  if decide (x2=16)=true then (
   (Zoy 2).bind λr1=>
   (nzI r1).bind λn0=>
   some ({vb0 with timer:=(Zdh (Zu x0.timer 1) r1)},x0.timer,true))
  else (
   if decide (x2=20)=true then (
    if x1=true then (
     Zj5 x0 x1 x2 x3 vb0 (decide ((x0.fifo.length:Int) < 4)))
    else (
     Zj5 x0 x1 x2 x3 vb0 false))
   else (
    Zj5 x0 x1 x2 x3 vb0 false)))
def Zdf (x0:Zl) (x1:Bool) (x2:Int) (x3:Int)  (vb0:Zl) (v4:Bool):Option (Zl×Int×Bool):=
 if v4=true then (
  some (vb0,0,false))
 else (
  if decide (x2=16)=true then (
   Zpr x0 x1 x2 x3 vb0 x1)
  else (
   Zpr x0 x1 x2 x3 vb0 false))
def Z00 (x0:Zl) (x1:Bool) (x2:Int) (x3:Int):Option (Zl×Int×Bool):=
 (Zrf x0).bind λr2=>
 (Zu5 x0).bind λr3=>
 if (!r3)=true then (
  Zdf x0 x1 x2 x3 r2 true)
 else (
  if x1=true then (
   (Zdz x3 2).bind λr4=>
   Zdf x0 x1 x2 x3 r2 (!r4))
  else (
   Zdf x0 x1 x2 x3 r2 false))
def Zf8 (x0:List Int) (x1:Int) (x2:Int) (x3:Int)  (k:(List Int)->Int->Int->Option (List Int×Bool)) (v0:List Int) (v1:Int) (v2:Int):Option (List Int×Bool):=
 if decide (v2 < v1)=true then (
  (nnI (Jm 8 v2)).bind λn0=>
  (idx v0 (Zu x1 v2)).bind λa0=>
  (Qn v0 (Zu x1 v2) (andW (shrW x3 (Jm 8 v2)) 255)).bind λy0=>
  k y0 v1 (Zu v2 1))
 else (
  some (v0,true))
def Znh (x0:List Int) (x1:Int) (x2:Int) (x3:Int)  : Nat->(List Int)->Int->Int->Option (List Int×Bool)
 | 0,_,_,_=>none
 | m+1,v0,v1,v2=>Zf8 x0 x1 x2 x3  (Znh x0 x1 x2 x3  m) v0 v1 v2
def Zn9 (x0:List Int) (x1:Int) (x2:Int) (x3:Int)  (v0:List Int) (v3:Bool):Option (List Int×Bool):=
 if v3=true then (
  some (v0,false))
 else (
  (J0 x2).bind λr0=>
  Znh x0 x1 x2 x3 FU v0 r0 0)
def Zwy (x0:List Int) (x1:Int) (x2:Int) (x3:Int):Option (List Int×Bool):=
 (Y5 x0).bind λr1=>
 (Ztj x0 x1 x2).bind λr2=>
 if (!r2)=true then (
  Zn9 x0 x1 x2 x3 r1 true)
 else (
  (Zdz x3 x2).bind λr3=>
  Zn9 x0 x1 x2 x3 r1 (!r3))
def Zfm (x0:List Int) (x1:Int) (x2:Int)  (k:Int->Int->Int->Option (Int×Bool)) (v0:Int) (v1:Int) (v2:Int):Option (Int×Bool):=
 if decide (v2 < v1)=true then (
  (idx x0 (Zu x1 v2)).bind λa0=>
  (nnI (Jm 8 v2)).bind λn0=>
  k (orW v0 (Ybx a0 (Jm 8 v2))) v1 (Zu v2 1))
 else (
  some (v0,true))
def Znq (x0:List Int) (x1:Int) (x2:Int)  : Nat->Int->Int->Int->Option (Int×Bool)
 | 0,_,_,_=>none
 | m+1,v0,v1,v2=>Zfm x0 x1 x2  (Znq x0 x1 x2  m) v0 v1 v2
def Zxb (x0:List Int) (x1:Int) (x2:Int):Option (Int×Bool):=
 (Ztj x0 x1 x2).bind λr0=>
 if (!r0)=true then (
  some (0,false))
 else (
  (J0 x2).bind λr1=>
  Znq x0 x1 x2 FU 0 r1 0)
def Zc5 (x0:Zj) (x1:Bool) (x2:Int) (x3:Int) (x4:Int)  (vb0:Zj) (v0:Int) (v1:Bool):Option (Zj×Int×Int):=
 if (!v1)=true then (
  (Zhq x0).bind λr0=>
  some (r0,0,1))
 else (
  some (vb0,v0,0))
def Zln (x0:Zj) (x1:Bool) (x2:Int) (x3:Int) (x4:Int)  (vb0:Zj) (v2:Bool):Option (Zj×Int×Int):=
 if v2=true then (
  if x1=true then (
   (Zwy x0.mem x2 x3 x4).bind λr1=>
   Zc5 x0 x1 x2 x3 x4 (Zj.mk r1.1 vb0.dev) x4 r1.2)
  else (
   (Zxb x0.mem x2 x3).bind λr2=>
   Zc5 x0 x1 x2 x3 x4 vb0 r2.1 r2.2))
 else (
  Zc5 x0 x1 x2 x3 x4 vb0 x4 false)
def Zky (x0:Zj) (x1:Bool) (x2:Int) (x3:Int) (x4:Int)  (vb0:Zj) (v3:Int) (v4:Bool):Option (Zj×Int×Int):=
 if v4=true then (
  (Z00 x0.dev x1 (Y9 x2 192) x4).bind λr3=>
  Zc5 x0 x1 x2 x3 x4 (Zj.mk vb0.mem r3.1) r3.2.1 r3.2.2)
 else (
  if decide (v3=1)=true then (
   Zln x0 x1 x2 x3 x4 vb0 true)
  else (
   Zln x0 x1 x2 x3 x4 vb0 (decide (v3=2))))
def Kq (x0:Zj) (x1:Bool) (x2:Int) (x3:Int) (x4:Int)  (vb0:Zj) (v5:Bool):Option (Zj×Int×Int):=
 if v5=true then (
  some (vb0,0,1))
 else (
  (Zov x2).bind λr4=>
  if decide (r4=3)=true then (
   Zky x0 x1 x2 x3 x4 vb0 r4 (decide (x3=2)))
  else (
   Zky x0 x1 x2 x3 x4 vb0 r4 false))
def Zun (x0:Zj) (x1:Bool) (x2:Int) (x3:Int) (x4:Int):Option (Zj×Int×Int):=
 (Zhq x0).bind λr5=>
 (Zgy x0).bind λr6=>
 if (!r6)=true then (
  Kq x0 x1 x2 x3 x4 r5 true)
 else (
  (Zgo x2 x3).bind λr7=>
  if (!r7)=true then (
   Kq x0 x1 x2 x3 x4 r5 true)
  else (
   if x1=true then (
    (Zdz x4 x3).bind λr8=>
    Kq x0 x1 x2 x3 x4 r5 (!r8))
   else (
    Kq x0 x1 x2 x3 x4 r5 false)))
def Zsg (x0:Za) (x1:Zf):Option (Zj×Int×Int):=
 (idx x0.m x1.who).bind λa0=>
 (idx a0.queue 0).bind λa1=>
 (Zd3 a0 x1.beat).bind λr0=>
 (Zof a0 x1.beat).bind λr1=>
 (Zun x0.model a1.write r0 a1.size r1).bind λr2=>
 some (r2.1,r2.2.1,r2.2.2)
def Znd (x0:Zd)  (vb0:Zd) (v0:Bool):Option (Zd×Bool):=
 if v0=true then (
  some (vb0,false))
 else (
  (Zbo {vb0 with done:=(Zu vb0.done 1)}).bind λr0=>
  if decide ((Zu vb0.done 1)=r0)=true then (
   (J4 vb0.queue 1 (vb0.queue.length:Int)).bind λs0=>
   some ((Zd.mk s0 0 0 0 false false),true))
  else (
   some ((Zd.mk vb0.queue vb0.beat (Zu vb0.done 1) 0 false vb0.broken),true)))
def Zw8 (x0:Zd):Option (Zd×Bool):=
 (Zf3 x0).bind λr1=>
 (Kg x0).bind λr2=>
 if (!r2)=true then (
  Znd x0 r1 true)
 else (
  Znd x0 r1 (decide (x0.beat=x0.done)))
def Zl7 (x0:Za):Option Za:=
 some {x0 with holder:=(-1),held:=0}
def Zdp (x0:Za) (x1:Zf)  (vb0:Za) (vb1:Zd):Option Za:=
 (idx vb0.m x1.who).bind λa0=>
 (Qn vb0.m x1.who vb1).bind λy0=>
 some {vb0 with m:=y0}
def Zdu (x0:Za) (x1:Zf)  (vb0:Za) (vb1:Zd) (v0:Bool):Option Za:=
 if v0=true then (
  (Zl7 vb0).bind λr0=>
  Zdp x0 x1 r0 vb1)
 else (
  Zdp x0 x1 vb0 vb1)
def Za2 (x0:Za) (x1:Zf)  (vb0:Za) (vb1:Zd) (vb2:Zm):Option Za:=
 (Xt 56 vb0.log [vb2]).bind λz0=>
 (Zw8 vb1).bind λr1=>
 if decide (vb0.holder=x1.who)=true then (
  Zdu x0 x1 {vb0 with log:=z0} r1.1 (decide ((r1.1.queue.length:Int) < (vb1.queue.length:Int))))
 else (
  Zdu x0 x1 {vb0 with log:=z0} r1.1 false)
def Zjk (x0:Za) (x1:Zf):Option Za:=
 (idx x0.m x1.who).bind λa1=>
 (idx a1.queue 0).bind λa2=>
 (Zd3 a1 x1.beat).bind λr2=>
 if decide (x1.resp=0)=true then (
  (Zsg x0 x1).bind λr3=>
  Za2 x0 x1 {x0 with model:=r3.1} a1 (Zm.mk x0.now x1.who a2.write r2 a2.size r3.2.1 x1.resp))
 else (
  Za2 x0 x1 x0 a1 (Zm.mk x0.now x1.who a2.write r2 a2.size 0 x1.resp))
def Zfw (x0:Za) (x1:Zg) (x2:Zq)  (vb0:Za):Option (Bool×Za×Zq):=
 some (false,vb0,{x2 with resp:=x0.data_.resp})
def Zap (x0:Za) (x1:Zg) (x2:Zq)  (v0:Bool):Option (Bool×Za×Zq):=
 if v0=true then (
  if x0.addr.live=true then (
   (Zd6 {x0 with data_:={x0.data_ with second:=true}} x0.addr).bind λr0=>
   Zfw x0 x1 x2 {r0 with addr:=Zf.z0})
  else (
   Zfw x0 x1 x2 {x0 with data_:={x0.data_ with second:=true}}))
 else (
  if decide (x0.data_.resp=2)=true then (
   (idx x0.m x0.data_.who).bind λa0=>
   (Qn x0.m x0.data_.who {a0 with tries:=(Zu a0.tries 1)}).bind λy0=>
   (Zd6 {x0 with m:=y0,data_:=Zf.z0} x0.data_).bind λr1=>
   some (true,r1,{x2 with resp:=x0.data_.resp}))
  else (
   if decide (x0.data_.resp=3)=true then (
    (idx x0.m x0.data_.who).bind λa1=>
    (Qn x0.m x0.data_.who {a1 with parted:=true}).bind λy1=>
    (Ztu x0.conf x1 x0.picks).bind λr2=>
    (idx x0.splits x0.data_.who).bind λa2=>
    (Qn x0.splits x0.data_.who r2).bind λy2=>
    (Zd6 {x0 with m:=y1,splits:=y2,data_:=Zf.z0} x0.data_).bind λr3=>
    some (true,r3,{x2 with resp:=x0.data_.resp}))
   else (
    (Zjk {x0 with data_:=Zf.z0} x0.data_).bind λr4=>
    some (true,r4,{x2 with resp:=x0.data_.resp}))))
def Znw (x0:Za) (x1:Zg) (x2:Zq):Option (Bool×Za×Zq):=
 if (!x0.data_.live)=true then (
  some (true,x0,x2))
 else (
  if decide (x0.data_.left > 0)=true then (
   some (false,{x0 with data_:={x0.data_ with left:=(Y9 x0.data_.left 1)}},x2))
  else (
   if decide (x0.data_.resp≠0)=true then (
    Zap x0 x1 x2 (!x0.data_.second))
   else (
    Zap x0 x1 x2 false)))
def Zw3 (x0:Zh) (x1:Zg) (x2:Int):Option Int:=
 (Zkb x1.waits x2).bind λr0=>
 some (Zkh 0 (Zi4 r0 x0.maxWait))
def Zwl (x0:Zg) (x1:Int):Option Int:=
 (Zkb x0.says x1).bind λr0=>
 if decide (r0=2)=true then (
  some r0)
 else (
  if decide (r0=3)=true then (
   some r0)
  else (
   some 0))
def Q6 (x0:Za) (x1:Zg) (x2:Zf)  (vb0:Zd) (v0:Int) (v1:Int) (v2:Int) (v3:Int) (v4:Bool):Option (Int×Int):=
 if v4=true then (
  some (2,v2))
 else (
  if decide (v3=3)=true then (
   if decide (v0=2)=true then (
    if (!vb0.parted)=true then (
     if decide (x2.who≠x0.holder)=true then (
      some (3,v2))
     else (
      some (v1,v2)))
    else (
     some (v1,v2)))
   else (
    some (v1,v2)))
  else (
   some (v1,v2)))
def Zcs (x0:Za) (x1:Zg) (x2:Zf)  (vb1:Zd) (v0:Int) (v1:Int) (v2:Int):Option (Int×Int):=
 (Zwl x1 x0.picks).bind λr0=>
 if decide (r0=2)=true then (
  if decide (v0≠3)=true then (
   Q6 x0 x1 x2 vb1 v0 v1 v2 r0 (decide (vb1.tries < x0.conf.maxRetry)))
  else (
   Q6 x0 x1 x2 vb1 v0 v1 v2 r0 false))
 else (
  Q6 x0 x1 x2 vb1 v0 v1 v2 r0 false)
def Kz (x0:Za) (x1:Zg) (x2:Zf)  (vb1:Zd) (v0:Int) (v5:Bool):Option (Int×Int):=
 if v5=true then (
  some (1,0))
 else (
  (Zsg x0 x2).bind λr1=>
  (Zw3 x0.conf x1 x0.picks).bind λr2=>
  if decide (v0=3)=true then (
   Zcs x0 x1 x2 vb1 v0 r1.2.2 (Zu r2 2))
  else (
   Zcs x0 x1 x2 vb1 v0 r1.2.2 r2))
def Zm9 (x0:Za) (x1:Zg) (x2:Zf):Option (Int×Int):=
 (idx x0.m x2.who).bind λa0=>
 (Zd3 a0 x2.beat).bind λr3=>
 (Zov r3).bind λr4=>
 if a0.broken=true then (
  Kz x0 x1 x2 a0 r4 true)
 else (
  Kz x0 x1 x2 a0 r4 (decide (r4=0)))
def Zm0 (x0:Zd):Option Bool:=
 (Kg x0).bind λr0=>
 if r0=true then (
  (Zbo x0).bind λr1=>
  some (decide (x0.beat < r1)))
 else (
  some false)
def Zf1 (x0:Zk) (x1:Zc)  (v0:Bool):Option (Zk×Bool):=
 if v0=true then (
  some (x0,false))
 else (
  some ((Zk.mk (Y9 x0.tokens 1) x0.count),true))
def Znb (x0:Zk) (x1:Zc):Option (Zk×Bool):=
 (Zoe x0 x1).bind λr0=>
 if (!r0)=true then (
  Zf1 x0 x1 true)
 else (
  Zf1 x0 x1 (decide (x0.tokens=0)))
def Zp7 (x0:Z6) (x1:Zh) (x2:List Bool)  (k:Int->Option (Z6×Int)) (v0:Int):Option (Z6×Int):=
 if decide (v0<=(x1.masters.length:Int))=true then (
  (nzI (x1.masters.length:Int)).bind λn0=>
  (idx x2 (Zdh (Zu x0.at_ v0) (x1.masters.length:Int))).bind λa0=>
  if a0=true then (
   (Zni x1 (Zdh (Zu x0.at_ v0) (x1.masters.length:Int))).bind λr0=>
   some ((Z6.mk (Zdh (Zu x0.at_ v0) (x1.masters.length:Int)) (Y9 r0 1)),(Zdh (Zu x0.at_ v0) (x1.masters.length:Int))))
  else (
   k (Zu v0 1)))
 else (
  some ((Z6.mk x0.at_ 0),(-1)))
def Zkk (x0:Z6) (x1:Zh) (x2:List Bool)  : Nat->Int->Option (Z6×Int)
 | 0,_=>none
 | m+1,v0=>Zp7 x0 x1 x2  (Zkk x0 x1 x2  m) v0
def Zks (x0:Z6) (x1:Zh) (x2:List Bool)  (v1:Bool):Option (Z6×Int):=
 if v1=true then (
  some ((Z6.mk x0.at_ (Y9 x0.credit 1)),x0.at_))
 else (
  Zkk x0 x1 x2 FU 1)
def Zkr (x0:Z6) (x1:Zh) (x2:List Bool)  (v2:Bool):Option (Z6×Int):=
 if v2=true then (
  some (x0,(-1)))
 else (
  if decide (x0.credit > 0)=true then (
   (idx x2 x0.at_).bind λa1=>
   Zks x0 x1 x2 a1)
  else (
   Zks x0 x1 x2 false))
def Zt9 (x0:Z6) (x1:Zh) (x2:List Bool):Option (Z6×Int):=
 (Zl3 x0 x1).bind λr1=>
 if (!r1)=true then (
  Zkr x0 x1 x2 true)
 else (
  Zkr x0 x1 x2 (decide ((x2.length:Int)≠(x1.masters.length:Int))))
def Zdm (x0:Za)  (k:(List Bool)->Int->Int->Option (Int×Int×Za)) (v0:List Bool) (v1:Int) (v2:Int):Option (Int×Int×Za):=
 if decide (v2 < v1)=true then (
  (idx v0 v2).bind λa0=>
  if (!a0)=true then (
   k v0 v1 (Zu v2 1))
  else (
   (idx x0.buckets v2).bind λa1=>
   (idx x0.conf.masters v2).bind λa2=>
   (Znb a1 a2).bind λr0=>
   if r0.2=true then (
    (Qn x0.buckets v2 r0.1).bind λy0=>
    some (v2,1,{x0 with buckets:=y0}))
   else (
    k v0 v1 (Zu v2 1))))
 else (
  if decide (x0.holder≠(-1))=true then (
   some ((-1),0,x0))
  else (
   (Zt9 x0.arb x0.conf v0).bind λr1=>
   some (r1.2,2,{x0 with arb:=r1.1})))
def Zea (x0:Za)  : Nat->(List Bool)->Int->Int->Option (Int×Int×Za)
 | 0,_,_,_=>none
 | m+1,v0,v1,v2=>Zdm x0  (Zea x0  m) v0 v1 v2
def Zjj (x0:Za)  (v0:List Bool) (v3:Bool):Option (Int×Int×Za):=
 if v3=true then (
  some (x0.holder,3,x0))
 else (
  Zea x0 FU v0 (v0.length:Int) 0)
def Zha (x0:Za)  (k:(List Bool)->Int->Option (Int×Int×Za)) (v0:List Bool) (v4:Int):Option (Int×Int×Za):=
 if decide (v4 < (x0.m.length:Int))=true then (
  (idx x0.m v4).bind λa3=>
  (Zm0 a3).bind λr2=>
  if r2=true then (
   (idx x0.splits v4).bind λa4=>
   if decide (a4=0)=true then (
    if decide (x0.holder=(-1))=true then (
     (Xt 1 v0 [true]).bind λz0=>
     k z0 (Zu v4 1))
    else (
     (Xt 1 v0 [decide (x0.holder=v4)]).bind λz0=>
     k z0 (Zu v4 1)))
   else (
    (Xt 1 v0 [false]).bind λz0=>
    k z0 (Zu v4 1)))
  else (
   (Xt 1 v0 [false]).bind λz0=>
   k z0 (Zu v4 1)))
 else (
  if decide (x0.holder≠(-1))=true then (
   (idx v0 x0.holder).bind λa5=>
   Zjj x0 v0 a5)
  else (
   Zjj x0 v0 false))
def Zji (x0:Za)  : Nat->(List Bool)->Int->Option (Int×Int×Za)
 | 0,_,_=>none
 | m+1,v0,v4=>Zha x0  (Zji x0  m) v0 v4
def Zro (x0:Za):Option (Int×Int×Za):=
 Zji x0 FU [] 0
def Zi7 (x0:Zd)  (vb0:Zd) (v0:Bool):Option (Zd×Bool):=
 if v0=true then (
  some (vb0,false))
 else (
  some ({vb0 with beat:=(Zu vb0.beat 1)},true))
def Zra (x0:Zd):Option (Zd×Bool):=
 (Zf3 x0).bind λr0=>
 (Zm0 x0).bind λr1=>
 if (!r1)=true then (
  Zi7 x0 r0 true)
 else (
  Zi7 x0 r0 (decide (x0.beat=(Zu x0.done 2))))
def Zg7 (x0:Za)  (vb0:Za) (vb1:Zd) (v0:Int):Option (Int×Za):=
 (Zra vb1).bind λr0=>
 (idx vb0.m v0).bind λa0=>
 (Qn vb0.m v0 r0.1).bind λy0=>
 some (v0,{vb0 with m:=y0,last:=v0})
def Zg5 (x0:Za)  (vb0:Za) (vb1:Zd) (v0:Int) (v1:Bool):Option (Int×Za):=
 if v1=true then (
  Zg7 x0 {vb0 with holder:=v0,held:=0} vb1 v0)
 else (
  Zg7 x0 vb0 vb1 v0)
def Jq (x0:Za)  (vb0:Za) (vb1:Zd) (v0:Int):Option (Int×Za):=
 (Zqc vb1).bind λr1=>
 if r1=true then (
  Zg5 x0 vb0 vb1 v0 (decide (vb0.holder=(-1))))
 else (
  Zg5 x0 vb0 vb1 v0 false)
def Zpc (x0:Za):Option (Int×Za):=
 (Zro x0).bind λr2=>
 if decide (r2.1 < 0)=true then (
  some ((-1),r2.2.2))
 else (
  (idx r2.2.2.m r2.1).bind λa1=>
  if decide (a1.beat=0)=true then (
   Jq x0 {r2.2.2 with addr:=(Zf.mk true r2.1 a1.beat true r2.2.1 0 0 false)} a1 r2.1)
  else (
   Jq x0 {r2.2.2 with addr:=(Zf.mk true r2.1 a1.beat (decide (r2.2.2.last≠r2.1)) r2.2.1 0 0 false)} a1 r2.1))
def Zew (x0:Za) (x1:Zg)  (vb0:Za) (vb1:Zq):Option (Zq×Za):=
 some (vb1,{vb0 with now:=(Zu vb0.now 1)})
def Zeb (x0:Za) (x1:Zg)  (vb0:Za) (vb1:Zq):Option (Zq×Za):=
 (Zpc vb0).bind λr0=>
 Zew x0 x1 r0.2 {vb1 with got:=r0.1}
def Zce (x0:Za) (x1:Zg)  (vb0:Za) (vb2:Zq):Option (Zq×Za):=
 if vb0.addr.live=true then (
  (Zm9 vb0 x1 vb0.addr).bind λr1=>
  Zeb x0 x1 {vb0 with addr:=Zf.z0,data_:={vb0.addr with left:=r1.2,resp:=r1.1},picks:=(Zu vb0.picks 1)} vb2)
 else (
  Zeb x0 x1 vb0 vb2)
def K8 (x0:Za) (x1:Zg)  (vb0:Za) (vb2:Zq) (v0:Bool):Option (Zq×Za):=
 if v0=true then (
  (idx vb0.m vb0.holder).bind λa0=>
  (Qn vb0.m vb0.holder {a0 with broken:=true}).bind λy0=>
  (Zl7 {vb0 with m:=y0}).bind λr2=>
  Zce x0 x1 r2 vb2)
 else (
  Zce x0 x1 vb0 vb2)
def K3 (x0:Za) (x1:Zg)  (vb0:Za) (vb2:Zq):Option (Zq×Za):=
 (Znw vb0 x1 vb2).bind λr3=>
 if r3.1=true then (
  if decide (r3.2.1.holder≠(-1))=true then (
   K8 x0 x1 r3.2.1 {r3.2.2 with ready:=r3.1} (decide (r3.2.1.held=r3.2.1.conf.lockMost)))
  else (
   K8 x0 x1 r3.2.1 {r3.2.2 with ready:=r3.1} false))
 else (
  Zew x0 x1 r3.2.1 {r3.2.2 with ready:=r3.1})
def Zg9 (x0:Za) (x1:Zg)  (k:Za->Zq->Int->Int->Option (Zq×Za)) (vb0:Za) (vb2:Zq) (v1:Int) (v2:Int):Option (Zq×Za):=
 if decide (v2 < v1)=true then (
  (idx vb0.splits v2).bind λa1=>
  (Qn vb0.splits v2 (Zkh (Y9 a1 1) 0)).bind λy1=>
  (idx vb0.buckets v2).bind λa2=>
  (idx vb0.conf.masters v2).bind λa3=>
  (Zno a2 a3).bind λr4=>
  (Qn vb0.buckets v2 r4).bind λy2=>
  k {vb0 with buckets:=y2,splits:=y1} vb2 v1 (Zu v2 1))
 else (
  if decide (vb0.holder≠(-1))=true then (
   K3 x0 x1 {vb0 with held:=(Zi4 (Zu vb0.held 1) vb0.conf.lockMost)} vb2)
  else (
   K3 x0 x1 vb0 vb2))
def Zaj (x0:Za) (x1:Zg)  : Nat->Za->Zq->Int->Int->Option (Zq×Za)
 | 0,_,_,_,_=>none
 | m+1,vb0,vb2,v1,v2=>Zg9 x0 x1  (Zaj x0 x1  m) vb0 vb2 v1 v2
def Zg4 (x0:Za) (x1:Zg)  (k:Za->Zq->(List Zv)->Int->Int->Option (Zq×Za)) (vb0:Za) (vb2:Zq) (v3:List Zv) (v4:Int) (v5:Int):Option (Zq×Za):=
 if decide (v5 < v4)=true then (
  (idx v3 v5).bind λa4=>
  (K0 vb0.conf a4.who).bind λr5=>
  if r5=true then (
   (idx vb0.m a4.who).bind λa5=>
   (Zut a5 a4.req).bind λr6=>
   (Qn vb0.m a4.who r6.1).bind λy3=>
   k {vb0 with m:=y3} vb2 v3 v4 (Zu v5 1))
  else (
   k vb0 vb2 v3 v4 (Zu v5 1)))
 else (
  Zaj x0 x1 FU vb0 vb2 (vb0.splits.length:Int) 0)
def Zee (x0:Za) (x1:Zg)  : Nat->Za->Zq->(List Zv)->Int->Int->Option (Zq×Za)
 | 0,_,_,_,_,_=>none
 | m+1,vb0,vb2,v3,v4,v5=>Zg4 x0 x1  (Zee x0 x1  m) vb0 vb2 v3 v4 v5
def Zet (x0:Za) (x1:Zg)  (vb2:Zq):Option (Zq×Za):=
 (Ztt x1 x0.now).bind λr7=>
 Zee x0 x1 FU x0 vb2 r7 (r7.length:Int) 0
def Zej (x0:Za) (x1:Zg)  (vb2:Zq):Option (Zq×Za):=
 if x0.data_.live=true then (
  (idx x0.m x0.data_.who).bind λa6=>
  (Zd3 a6 x0.data_.beat).bind λr8=>
  Zet x0 x1 {vb2 with data_:=r8,from_:=x0.data_.who})
 else (
  Zet x0 x1 vb2)
def Zhu (x0:Za) (x1:Zg):Option (Zq×Za):=
 if x0.addr.live=true then (
  (idx x0.m x0.addr.who).bind λa7=>
  (Zd3 a7 x0.addr.beat).bind λr9=>
  if x0.addr.first=true then (
   Zej x0 x1 (Zq.mk x0.now r9 2 x0.addr.who (-1) (-1) true 0 (-1)))
  else (
   Zej x0 x1 (Zq.mk x0.now r9 3 x0.addr.who (-1) (-1) true 0 (-1))))
 else (
  Zej x0 x1 (Zq.mk x0.now (-1) 0 (-1) (-1) (-1) true 0 (-1)))
def Zhx (x0:Za) (x1:Zg)  (vb0:Za):Option (Za×Int):=
 (Zr9 vb0).bind λr0=>
 some (r0,(Y9 vb0.now x0.now))
def Zfy (x0:Za) (x1:Zg)  (k:Za->Int->Option (Za×Int)) (vb1:Za) (v0:Int):Option (Za×Int):=
 if decide (vb1.now < 4000)=true then (
  (Znm vb1).bind λr1=>
  if (!r1)=true then (
   (Zhu vb1 x1).bind λr2=>
   k r2.2 v0)
  else (
   if decide (vb1.now<=v0)=true then (
    (Zhu vb1 x1).bind λr2=>
    k r2.2 v0)
   else (
    Zhx x0 x1 vb1)))
 else (
  Zhx x0 x1 vb1)
def Zb8 (x0:Za) (x1:Zg)  : Nat->Za->Int->Option (Za×Int)
 | 0,_,_=>none
 | m+1,vb1,v0=>Zfy x0 x1  (Zb8 x0 x1  m) vb1 v0
def Zwr (x0:Za) (x1:Zg):Option (Za×Int):=
 (Zr9 x0).bind λr3=>
 (Zqf x0).bind λr4=>
 if (!r4)=true then (
  some (r3,0))
 else (
  (Zq9 x1).bind λr5=>
  Zb8 x0 x1 FU r3 r5)
def Zpf (x0:Zh) (x1:List Zb)  (k:Za->Zg->Int->Option (List Zm×Bool)) (vb0:Za) (vb1:Zg) (v0:Int):Option (List Zm×Bool):=
 if decide (v0 < (x1.length:Int))=true then (
  (idx x1 v0).bind λa0=>
  (Xt 80 vb1.posts [(Zv.mk 0 0 a0)]).bind λz0=>
  k vb0 {vb1 with posts:=z0} (Zu v0 1))
 else (
  (Zwr vb0 vb1).bind λr0=>
  some (r0.1.log,true))
def Zsh (x0:Zh) (x1:List Zb)  : Nat->Za->Zg->Int->Option (List Zm×Bool)
 | 0,_,_,_=>none
 | m+1,vb0,vb1,v0=>Zpf x0 x1  (Zsh x0 x1  m) vb0 vb1 v0
def Zmo (x0:Zh) (x1:List Zb)  (vb0:Za) (v1:Bool):Option (List Zm×Bool):=
 if v1=true then (
  some ([],false))
 else (
  Zsh x0 x1 FU vb0 Zg.z0 0)
def Z4u (x0:Zh) (x1:List Zb):Option (List Zm×Bool):=
 (Zwg x0).bind λr1=>
 if (!r1.2)=true then (
  Zmo x0 x1 r1.1 true)
 else (
  if decide ((x1.length:Int) > 4)=true then (
   Zmo x0 x1 r1.1 true)
  else (
   (Kk x1).bind λr2=>
   Zmo x0 x1 r1.1 r2))
def Zss (x0:Zm) (x1:Zm):Option Bool:=
 if decide (x0.cycle≠x1.cycle)=true then (
  some false)
 else (
  if decide (x0.who≠x1.who)=true then (
   some false)
  else (
   if (x0.write != x1.write)=true then (
    some false)
   else (
    if decide (x0.addr≠x1.addr)=true then (
     some false)
    else (
     if decide (x0.size≠x1.size)=true then (
      some false)
     else (
      if decide (x0.value≠x1.value)=true then (
       some false)
      else (
       if decide (x0.resp≠x1.resp)=true then (
        some false)
       else (
        some true)))))))
def Ych (x0:List Zm) (x1:List Zm)  (k:Int->Option Bool) (v0:Int):Option Bool:=
 if decide (v0 < (x0.length:Int))=true then (
  (idx x0 v0).bind λa0=>
  (idx x1 v0).bind λa1=>
  (Zss a0 a1).bind λr0=>
  if (!r0)=true then (
   some false)
  else (
   k (Zu v0 1)))
 else (
  some true)
def Zku (x0:List Zm) (x1:List Zm)  : Nat->Int->Option Bool
 | 0,_=>none
 | m+1,v0=>Ych x0 x1  (Zku x0 x1  m) v0
def Zuf (x0:List Zm) (x1:List Zm):Option Bool:=
 if decide ((x0.length:Int)≠(x1.length:Int))=true then (
  some false)
 else (
  Zku x0 x1 FU 0)
def Zo8 (x0:Zc) (x1:Zc):Option Bool:=
 if decide (x0.weight≠x1.weight)=true then (
  some false)
 else (
  if (x0.prio != x1.prio)=true then (
   some false)
  else (
   if decide (x0.every≠x1.every)=true then (
    some false)
   else (
    if decide (x0.cap≠x1.cap)=true then (
     some false)
    else (
     some true))))
def Z9j (x0:List Zc) (x1:List Zc)  (k:Int->Option Bool) (v0:Int):Option Bool:=
 if decide (v0 < (x0.length:Int))=true then (
  (idx x0 v0).bind λa0=>
  (idx x1 v0).bind λa1=>
  (Zo8 a0 a1).bind λr0=>
  if (!r0)=true then (
   some false)
  else (
   k (Zu v0 1)))
 else (
  some true)
def Ziq (x0:List Zc) (x1:List Zc)  : Nat->Int->Option Bool
 | 0,_=>none
 | m+1,v0=>Z9j x0 x1  (Ziq x0 x1  m) v0
def Zqv (x0:List Zc) (x1:List Zc):Option Bool:=
 if decide ((x0.length:Int)≠(x1.length:Int))=true then (
  some false)
 else (
  Ziq x0 x1 FU 0)
def Zws (x0:Zh) (x1:Zh):Option Bool:=
 (Zqv x0.masters x1.masters).bind λr0=>
 if (!r0)=true then (
  some false)
 else (
  if decide (x0.quantum≠x1.quantum)=true then (
   some false)
  else (
   if decide (x0.maxWait≠x1.maxWait)=true then (
    some false)
   else (
    if decide (x0.maxRetry≠x1.maxRetry)=true then (
     some false)
    else (
     if decide (x0.maxSplit≠x1.maxSplit)=true then (
      some false)
     else (
      if decide (x0.lockMost≠x1.lockMost)=true then (
       some false)
      else (
       some true))))))
def Zkl (x0:List Int) (x1:List Int)  (k:Int->Option Bool) (v0:Int):Option Bool:=
 if decide (v0 < (x0.length:Int))=true then (
  (idx x0 v0).bind λa0=>
  (idx x1 v0).bind λa1=>
  if decide (a0≠a1)=true then (
   some false)
  else (
   k (Zu v0 1)))
 else (
  some true)
def Znx (x0:List Int) (x1:List Int)  : Nat->Int->Option Bool
 | 0,_=>none
 | m+1,v0=>Zkl x0 x1  (Znx x0 x1  m) v0
def Zxa (x0:List Int) (x1:List Int):Option Bool:=
 if decide ((x0.length:Int)≠(x1.length:Int))=true then (
  some false)
 else (
  Znx x0 x1 FU 0)
def Zu8 (x0:Zb) (x1:Zb):Option Bool:=
 if (x0.write != x1.write)=true then (
  some false)
 else (
  if decide (x0.addr≠x1.addr)=true then (
   some false)
  else (
   if decide (x0.size≠x1.size)=true then (
    some false)
   else (
    if decide (x0.burst≠x1.burst)=true then (
     some false)
    else (
     if (x0.lock != x1.lock)=true then (
      some false)
     else (
      (Zxa x0.data_ x1.data_).bind λr0=>
      if (!r0)=true then (
       some false)
      else (
       some true))))))
def Ye2 (x0:List Zb) (x1:List Zb)  (k:Int->Option Bool) (v0:Int):Option Bool:=
 if decide (v0 < (x0.length:Int))=true then (
  (idx x0 v0).bind λa0=>
  (idx x1 v0).bind λa1=>
  (Zu8 a0 a1).bind λr0=>
  if (!r0)=true then (
   some false)
  else (
   k (Zu v0 1)))
 else (
  some true)
def Zn4 (x0:List Zb) (x1:List Zb)  : Nat->Int->Option Bool
 | 0,_=>none
 | m+1,v0=>Ye2 x0 x1  (Zn4 x0 x1  m) v0
def Zw1 (x0:List Zb) (x1:List Zb):Option Bool:=
 if decide ((x0.length:Int)≠(x1.length:Int))=true then (
  some false)
 else (
  Zn4 x0 x1 FU 0)
def Zfo (x0:List Zm) (x1:Int)  (k:Int->Int->Option Int) (v0:Int) (v1:Int):Option Int:=
 if decide (v1 < (x0.length:Int))=true then (
  (idx x0 v1).bind λa0=>
  if decide (a0.cycle≠v0)=true then (
   some (-1))
  else (
   if decide (a0.who≠(Zu v0 1))=true then (
    some (-1))
   else (
    if (a0.write != decide ((Zdh (Zu (Zu v0 1) 1) 3)=0))=true then (
     some (-1))
    else (
     if decide (a0.addr≠(Zu (Zu (Zu v0 1) 1) 1))=true then (
      some (-1))
     else (
      if decide (a0.size≠(Zu (Zu (Zu (Zu v0 1) 1) 1) 1))=true then (
       some (-1))
      else (
       if decide (a0.value≠(Zu (Zu (Zu (Zu (Zu v0 1) 1) 1) 1) 1))=true then (
        some (-1))
       else (
        if decide (a0.resp≠(Zu (Zu (Zu (Zu (Zu (Zu v0 1) 1) 1) 1) 1) 1))=true then (
         some (-1))
        else (
         k (Zu (Zu (Zu (Zu (Zu (Zu (Zu v0 1) 1) 1) 1) 1) 1) 1) (Zu v1 1)))))))))
 else (
  some v0)
def Zok (x0:List Zm) (x1:Int)  : Nat->Int->Int->Option Int
 | 0,_,_=>none
 | m+1,v0,v1=>Zfo x0 x1  (Zok x0 x1  m) v0 v1
def Zpo (x0:List Zm) (x1:Int):Option Int:=
 Zok x0 x1 FU x1 0
end Go.Proofs.YtagdmghmblplbaaGreat.Ev
namespace Go.Proofs.YtagdmghmblplbaaGreat.Ev
open Go Go.Proofs Go.RowKit
def Zc.enc (x:Zc):List V:=[.lit (.int .i64 x.weight),.lit (.bool x.prio),.lit (.int .i64 x.every),.lit (.int .i64 x.cap)]
theorem Zc.enc_len (x:Zc):(Zc.enc x).length=4:=rfl
theorem Zc.enc_lit (x:Zc):(Zc.enc x).all Zwq=true:=rfl
def Zh.enc (x:Zh):List V:=[.tr (x.masters.map Zc.enc),.lit (.int .i64 x.quantum),.lit (.int .i64 x.maxWait),.lit (.int .i64 x.maxRetry),.lit (.int .i64 x.maxSplit),.lit (.int .i64 x.lockMost)]
def Zb.enc (x:Zb):List V:=[.lit (.bool x.write),.lit (.int .i64 x.addr),.lit (.int .i64 x.size),.lit (.int .i64 x.burst),.lit (.bool x.lock),.tr (x.data_.map Ze)]
theorem Zb.enc_len (x:Zb):(Zb.enc x).length=6:=rfl
def Zv.enc (x:Zv):List V:=[.lit (.int .i64 x.at_),.lit (.int .i64 x.who),.lit (.bool x.req.write),.lit (.int .i64 x.req.addr),.lit (.int .i64 x.req.size),.lit (.int .i64 x.req.burst),.lit (.bool x.req.lock),.tr (x.req.data_.map Ze)]
theorem Zv.enc_len (x:Zv):(Zv.enc x).length=8:=rfl
def Zg.enc (x:Zg):List V:=[.tr (x.posts.map Zv.enc),.tr (x.waits.map Ze),.tr (x.says.map Ze)]
def Zd.enc (x:Zd):List V:=[.tr (x.queue.map Zb.enc),.lit (.int .i64 x.beat),.lit (.int .i64 x.done),.lit (.int .i64 x.tries),.lit (.bool x.parted),.lit (.bool x.broken)]
theorem Zd.enc_len (x:Zd):(Zd.enc x).length=6:=rfl
def Z6.enc (x:Z6):List V:=[.lit (.int .i64 x.at_),.lit (.int .i64 x.credit)]
def Zk.enc (x:Zk):List V:=[.lit (.int .i64 x.tokens),.lit (.int .i64 x.count)]
theorem Zk.enc_len (x:Zk):(Zk.enc x).length=2:=rfl
theorem Zk.enc_lit (x:Zk):(Zk.enc x).all Zwq=true:=rfl
def Zf.enc (x:Zf):List V:=[.lit (.bool x.live),.lit (.int .i64 x.who),.lit (.int .i64 x.beat),.lit (.bool x.first),.lit (.int .i64 x.by_),.lit (.int .i64 x.left),.lit (.int .i64 x.resp),.lit (.bool x.second)]
theorem Zf.enc_len (x:Zf):(Zf.enc x).length=8:=rfl
def Zl.enc (x:Zl):List V:=[.tr (x.regs.map Ze),.lit (.int .i64 x.timer),.tr (x.fifo.map Ze)]
def Zj.enc (x:Zj):List V:=[.tr (x.mem.map Ze),.tr (x.dev.regs.map Ze),.lit (.int .i64 x.dev.timer),.tr (x.dev.fifo.map Ze)]
def Zm.enc (x:Zm):List V:=[.lit (.int .i64 x.cycle),.lit (.int .i64 x.who),.lit (.bool x.write),.lit (.int .i64 x.addr),.lit (.int .i64 x.size),.lit (.int .i64 x.value),.lit (.int .i64 x.resp)]
theorem Zm.enc_len (x:Zm):(Zm.enc x).length=7:=rfl
theorem Zm.enc_lit (x:Zm):(Zm.enc x).all Zwq=true:=rfl
def Za.enc (x:Za):List V:=[.tr (x.conf.masters.map Zc.enc),.lit (.int .i64 x.conf.quantum),.lit (.int .i64 x.conf.maxWait),.lit (.int .i64 x.conf.maxRetry),.lit (.int .i64 x.conf.maxSplit),.lit (.int .i64 x.conf.lockMost),.lit (.int .i64 x.now),.tr (x.m.map Zd.enc),.lit (.int .i64 x.arb.at_),.lit (.int .i64 x.arb.credit),.tr (x.buckets.map Zk.enc),.tr (x.splits.map Ze),.lit (.int .i64 x.holder),.lit (.int .i64 x.held),.lit (.int .i64 x.last),.lit (.bool x.addr.live),.lit (.int .i64 x.addr.who),.lit (.int .i64 x.addr.beat),.lit (.bool x.addr.first),.lit (.int .i64 x.addr.by_),.lit (.int .i64 x.addr.left),.lit (.int .i64 x.addr.resp),.lit (.bool x.addr.second),.lit (.bool x.data_.live),.lit (.int .i64 x.data_.who),.lit (.int .i64 x.data_.beat),.lit (.bool x.data_.first),.lit (.int .i64 x.data_.by_),.lit (.int .i64 x.data_.left),.lit (.int .i64 x.data_.resp),.lit (.bool x.data_.second),.tr (x.model.mem.map Ze),.tr (x.model.dev.regs.map Ze),.lit (.int .i64 x.model.dev.timer),.tr (x.model.dev.fifo.map Ze),.lit (.int .i64 x.picks),.tr (x.log.map Zm.enc)]
def Zq.enc (x:Zq):List V:=[.lit (.int .i64 x.cycle),.lit (.int .i64 x.addr),.lit (.int .i64 x.kind),.lit (.int .i64 x.who),.lit (.int .i64 x.data_),.lit (.int .i64 x.from_),.lit (.bool x.ready),.lit (.int .i64 x.resp),.lit (.int .i64 x.got)]
def Za.ow (x:Za):List V:=[.own 150 (x.conf.masters.map Zc.enc),il x.conf.quantum,il x.conf.maxWait,il x.conf.maxRetry,il x.conf.maxSplit,il x.conf.lockMost,il x.now,.own 156 (x.m.map Zd.enc),il x.arb.at_,il x.arb.credit,.own 158 (x.buckets.map Zk.enc),.own 3 (x.splits.map Ze),il x.holder,il x.held,il x.last,bl x.addr.live,il x.addr.who,il x.addr.beat,bl x.addr.first,il x.addr.by_,il x.addr.left,il x.addr.resp,bl x.addr.second,bl x.data_.live,il x.data_.who,il x.data_.beat,bl x.data_.first,il x.data_.by_,il x.data_.left,il x.data_.resp,bl x.data_.second,.own 3 (x.model.mem.map Ze),.own 3 (x.model.dev.regs.map Ze),il x.model.dev.timer,.own 3 (x.model.dev.fifo.map Ze),il x.picks,.own 113 (x.log.map Zm.enc)]
def Za.rl (x:Za) (n:Nat):List V:=[.sl (1,n) 0 (x.conf.masters.map Zc.enc).length,il x.conf.quantum,il x.conf.maxWait,il x.conf.maxRetry,il x.conf.maxSplit,il x.conf.lockMost,il x.now,.sl (1,n+1) 0 (x.m.map Zd.enc).length,il x.arb.at_,il x.arb.credit,.sl (1,n+2) 0 (x.buckets.map Zk.enc).length,.sl (1,n+3) 0 (x.splits.map Ze).length,il x.holder,il x.held,il x.last,bl x.addr.live,il x.addr.who,il x.addr.beat,bl x.addr.first,il x.addr.by_,il x.addr.left,il x.addr.resp,bl x.addr.second,bl x.data_.live,il x.data_.who,il x.data_.beat,bl x.data_.first,il x.data_.by_,il x.data_.left,il x.data_.resp,bl x.data_.second,.sl (1,n+4) 0 (x.model.mem.map Ze).length,.sl (1,n+5) 0 (x.model.dev.regs.map Ze).length,il x.model.dev.timer,.sl (1,n+6) 0 (x.model.dev.fifo.map Ze).length,il x.picks,.sl (1,n+7) 0 (x.log.map Zm.enc).length]
def Za.bk (x:Za) (n:Nat):List (Id×Blk):=[((1,n),⟨false,true,true,150,(x.conf.masters.map Zc.enc)⟩),((1,n+1),⟨false,true,true,156,(x.m.map Zd.enc)⟩),((1,n+2),⟨false,true,true,158,(x.buckets.map Zk.enc)⟩),((1,n+3),⟨false,true,true,3,(x.splits.map Ze)⟩),((1,n+4),⟨false,true,true,3,(x.model.mem.map Ze)⟩),((1,n+5),⟨false,true,true,3,(x.model.dev.regs.map Ze)⟩),((1,n+6),⟨false,true,true,3,(x.model.dev.fifo.map Ze)⟩),((1,n+7),⟨false,true,true,113,(x.log.map Zm.enc)⟩)]
def Za.ff (n e b:Nat):List (Id×Id):=[((1,n),(e,b)),((1,n+1),(e,b+7)),((1,n+2),(e,b+10)),((1,n+3),(e,b+11)),((1,n+4),(e,b+31)),((1,n+5),(e,b+32)),((1,n+6),(e,b+34)),((1,n+7),(e,b+36))]
def Za.nm (x:Za):List O:=[.num (x.conf.masters.map Zc.enc).length 0 0 [],.num (x.m.map Zd.enc).length 0 0 [],.num (x.buckets.map Zk.enc).length 0 0 [],.num (x.splits.map Ze).length 0 0 [],.num (x.model.mem.map Ze).length 0 0 [],.num (x.model.dev.regs.map Ze).length 0 0 [],.num (x.model.dev.fifo.map Ze).length 0 0 [],.num (x.log.map Zm.enc).length 0 0 []]
theorem Za.so (x:Za) {q:List O} {p:Prop} (h:Scr q p):Scr q ((x.conf.masters.map Zc.enc).length=(x.conf.masters.map Zc.enc).length/\(x.m.map Zd.enc).length=(x.m.map Zd.enc).length/\(x.buckets.map Zk.enc).length=(x.buckets.map Zk.enc).length/\(x.splits.map Ze).length=(x.splits.map Ze).length/\(x.model.mem.map Ze).length=(x.model.mem.map Ze).length/\(x.model.dev.regs.map Ze).length=(x.model.dev.regs.map Ze).length/\(x.model.dev.fifo.map Ze).length=(x.model.dev.fifo.map Ze).length/\(x.log.map Zm.enc).length=(x.log.map Zm.enc).length/\p):=⟨rfl,rfl,rfl,rfl,rfl,rfl,rfl,rfl,h⟩
theorem Za.sc (x:Za) {q:List O} {p:Prop} (h:Scr q p):Scr (Za.nm x++q) ((x.conf.masters.map Zc.enc).length=(x.conf.masters.map Zc.enc).length/\(x.m.map Zd.enc).length=(x.m.map Zd.enc).length/\(x.buckets.map Zk.enc).length=(x.buckets.map Zk.enc).length/\(x.splits.map Ze).length=(x.splits.map Ze).length/\(x.model.mem.map Ze).length=(x.model.mem.map Ze).length/\(x.model.dev.regs.map Ze).length=(x.model.dev.regs.map Ze).length/\(x.model.dev.fifo.map Ze).length=(x.model.dev.fifo.map Ze).length/\(x.log.map Zm.enc).length=(x.log.map Zm.enc).length/\p):=⟨rfl,rfl,rfl,rfl,rfl,rfl,rfl,rfl,h⟩
def Zl.ow (x:Zl):List V:=[.own 3 (x.regs.map Ze),il x.timer,.own 3 (x.fifo.map Ze)]
def Zl.rl (x:Zl) (n:Nat):List V:=[.sl (1,n) 0 (x.regs.map Ze).length,il x.timer,.sl (1,n+1) 0 (x.fifo.map Ze).length]
def Zl.bk (x:Zl) (n:Nat):List (Id×Blk):=[((1,n),⟨false,true,true,3,(x.regs.map Ze)⟩),((1,n+1),⟨false,true,true,3,(x.fifo.map Ze)⟩)]
def Zl.ff (n e b:Nat):List (Id×Id):=[((1,n),(e,b)),((1,n+1),(e,b+2))]
def Zl.nm (x:Zl):List O:=[.num (x.regs.map Ze).length 0 0 [],.num (x.fifo.map Ze).length 0 0 []]
theorem Zl.so (x:Zl) {q:List O} {p:Prop} (h:Scr q p):Scr q ((x.regs.map Ze).length=(x.regs.map Ze).length/\(x.fifo.map Ze).length=(x.fifo.map Ze).length/\p):=⟨rfl,rfl,h⟩
theorem Zl.sc (x:Zl) {q:List O} {p:Prop} (h:Scr q p):Scr (Zl.nm x++q) ((x.regs.map Ze).length=(x.regs.map Ze).length/\(x.fifo.map Ze).length=(x.fifo.map Ze).length/\p):=⟨rfl,rfl,h⟩
def Zj.ow (x:Zj):List V:=[.own 3 (x.mem.map Ze),.own 3 (x.dev.regs.map Ze),il x.dev.timer,.own 3 (x.dev.fifo.map Ze)]
def Zj.rl (x:Zj) (n:Nat):List V:=[.sl (1,n) 0 (x.mem.map Ze).length,.sl (1,n+1) 0 (x.dev.regs.map Ze).length,il x.dev.timer,.sl (1,n+2) 0 (x.dev.fifo.map Ze).length]
def Zj.bk (x:Zj) (n:Nat):List (Id×Blk):=[((1,n),⟨false,true,true,3,(x.mem.map Ze)⟩),((1,n+1),⟨false,true,true,3,(x.dev.regs.map Ze)⟩),((1,n+2),⟨false,true,true,3,(x.dev.fifo.map Ze)⟩)]
def Zj.ff (n e b:Nat):List (Id×Id):=[((1,n),(e,b)),((1,n+1),(e,b+1)),((1,n+2),(e,b+3))]
def Zj.nm (x:Zj):List O:=[.num (x.mem.map Ze).length 0 0 [],.num (x.dev.regs.map Ze).length 0 0 [],.num (x.dev.fifo.map Ze).length 0 0 []]
theorem Zj.so (x:Zj) {q:List O} {p:Prop} (h:Scr q p):Scr q ((x.mem.map Ze).length=(x.mem.map Ze).length/\(x.dev.regs.map Ze).length=(x.dev.regs.map Ze).length/\(x.dev.fifo.map Ze).length=(x.dev.fifo.map Ze).length/\p):=⟨rfl,rfl,rfl,h⟩
theorem Zj.sc (x:Zj) {q:List O} {p:Prop} (h:Scr q p):Scr (Zj.nm x++q) ((x.mem.map Ze).length=(x.mem.map Ze).length/\(x.dev.regs.map Ze).length=(x.dev.regs.map Ze).length/\(x.dev.fifo.map Ze).length=(x.dev.fifo.map Ze).length/\p):=⟨rfl,rfl,rfl,h⟩
def Zg.nm (x:Zg):List O:=[.num (x.posts.map Zv.enc).length 0 0 [],.num (x.waits.map Ze).length 0 0 [],.num (x.says.map Ze).length 0 0 []]
theorem Zg.so (x:Zg) {q:List O} {p:Prop} (h:Scr q p):Scr q ((x.posts.map Zv.enc).length=(x.posts.map Zv.enc).length/\(x.waits.map Ze).length=(x.waits.map Ze).length/\(x.says.map Ze).length=(x.says.map Ze).length/\p):=⟨rfl,rfl,rfl,h⟩
theorem Zg.sc (x:Zg) {q:List O} {p:Prop} (h:Scr q p):Scr (Zg.nm x++q) ((x.posts.map Zv.enc).length=(x.posts.map Zv.enc).length/\(x.waits.map Ze).length=(x.waits.map Ze).length/\(x.says.map Ze).length=(x.says.map Ze).length/\p):=⟨rfl,rfl,rfl,h⟩
def ffi (n:Nat):Nat->List (Id×Id)
 | 0=>[]
 | m+1=>((1,n),(1,n))::ffi (n+1) m
abbrev bx (n:Nat) (r:List V):Id×Blk:=((1,n),⟨true,true,true,0,[r]⟩)
abbrev rx (n t:Nat) (R:List (List V)):Id×Blk:=((1,n),⟨false,true,true,t,R⟩)
end Go.Proofs.YtagdmghmblplbaaGreat.Ev
