/- A part of the proof of FnExactBusRun: see the text YtagdmghmblplbaaGreatLawFnExactBusRun for what is proved and its conditions. Conditions here: those in each line. -/
import Derived.Test.YtagdmghmblplbaaGreatA3
import Derived.KernelRfl
set_option linter.unusedSimpArgs false
set_option linter.unusedVariables false
set_option linter.unusedSectionVars false
namespace Go.Proofs.YtagdmghmblplbaaGreat.Ev
open Go Go.Proofs
structure Zd where
 weight:Int
 prio:Bool
 every:Int
 cap:Int
 deriving DecidableEq
structure Zl where
 masters:List Zd
 quantum:Int
 maxWait:Int
 maxRetry:Int
 maxSplit:Int
 lockMost:Int
 deriving DecidableEq
structure Zf where
 write:Bool
 addr:Int
 size:Int
 burst:Int
 lock:Bool
 data_:List Int
 deriving DecidableEq
structure Zm where
 at_:Int
 who:Int
 req:Zf
 deriving DecidableEq
structure Zi where
 posts:List Zm
 waits:List Int
 says:List Int
 deriving DecidableEq
structure Zb where
 queue:List Zf
 beat:Int
 done:Int
 tries:Int
 parted:Bool
 broken:Bool
 deriving DecidableEq
structure Z2 where
 at_:Int
 credit:Int
 deriving DecidableEq
structure Zc where
 tokens:Int
 count:Int
 deriving DecidableEq
structure Zh where
 live:Bool
 who:Int
 beat:Int
 first:Bool
 by_:Int
 left:Int
 resp:Int
 second:Bool
 deriving DecidableEq
structure Zo where
 regs:List Int
 timer:Int
 fifo:List Int
 deriving DecidableEq
structure Zj where
 mem:List Int
 dev:Zo
 deriving DecidableEq
structure Zn where
 cycle:Int
 who:Int
 write:Bool
 addr:Int
 size:Int
 value:Int
 resp:Int
 deriving DecidableEq
structure Za where
 conf:Zl
 now:Int
 m:List Zb
 arb:Z2
 buckets:List Zc
 splits:List Int
 holder:Int
 held:Int
 last:Int
 addr:Zh
 data_:Zh
 model:Zj
 picks:Int
 log:List Zn
 deriving DecidableEq
structure Zg where
 cycle:Int
 addr:Int
 kind:Int
 who:Int
 data_:Int
 from_:Int
 ready:Bool
 resp:Int
 got:Int
 deriving DecidableEq
def Zd.ok (z:Zd):Prop:=(Lit.int .i64 z.weight).wf=true/\True/\(Lit.int .i64 z.every).wf=true/\(Lit.int .i64 z.cap).wf=true
def Zl.ok (z:Zl):Prop:=(z.masters.length<=maxLen/\∀x∈z.masters,Zd.ok x)/\(Lit.int .i64 z.quantum).wf=true/\(Lit.int .i64 z.maxWait).wf=true/\(Lit.int .i64 z.maxRetry).wf=true/\(Lit.int .i64 z.maxSplit).wf=true/\(Lit.int .i64 z.lockMost).wf=true
def Zf.ok (z:Zf):Prop:=True/\(Lit.int .i64 z.addr).wf=true/\(Lit.int .i64 z.size).wf=true/\(Lit.int .i64 z.burst).wf=true/\True/\(z.data_.length<=maxLen/\∀x∈z.data_,(Lit.int .i64 x).wf=true)
def Zm.ok (z:Zm):Prop:=(Lit.int .i64 z.at_).wf=true/\(Lit.int .i64 z.who).wf=true/\Zf.ok z.req
def Zi.ok (z:Zi):Prop:=(z.posts.length<=maxLen/\∀x∈z.posts,Zm.ok x)/\(z.waits.length<=maxLen/\∀x∈z.waits,(Lit.int .i64 x).wf=true)/\(z.says.length<=maxLen/\∀x∈z.says,(Lit.int .i64 x).wf=true)
def Zb.ok (z:Zb):Prop:=(z.queue.length<=maxLen/\∀x∈z.queue,Zf.ok x)/\(Lit.int .i64 z.beat).wf=true/\(Lit.int .i64 z.done).wf=true/\(Lit.int .i64 z.tries).wf=true/\True/\True
def Z2.ok (z:Z2):Prop:=(Lit.int .i64 z.at_).wf=true/\(Lit.int .i64 z.credit).wf=true
def Zc.ok (z:Zc):Prop:=(Lit.int .i64 z.tokens).wf=true/\(Lit.int .i64 z.count).wf=true
def Zh.ok (z:Zh):Prop:=True/\(Lit.int .i64 z.who).wf=true/\(Lit.int .i64 z.beat).wf=true/\True/\(Lit.int .i64 z.by_).wf=true/\(Lit.int .i64 z.left).wf=true/\(Lit.int .i64 z.resp).wf=true/\True
def Zo.ok (z:Zo):Prop:=(z.regs.length<=maxLen/\∀x∈z.regs,(Lit.int .i64 x).wf=true)/\(Lit.int .i64 z.timer).wf=true/\(z.fifo.length<=maxLen/\∀x∈z.fifo,(Lit.int .i64 x).wf=true)
def Zj.ok (z:Zj):Prop:=(z.mem.length<=maxLen/\∀x∈z.mem,(Lit.int .i64 x).wf=true)/\Zo.ok z.dev
def Zn.ok (z:Zn):Prop:=(Lit.int .i64 z.cycle).wf=true/\(Lit.int .i64 z.who).wf=true/\True/\(Lit.int .i64 z.addr).wf=true/\(Lit.int .i64 z.size).wf=true/\(Lit.int .i64 z.value).wf=true/\(Lit.int .i64 z.resp).wf=true
def Za.ok (z:Za):Prop:=Zl.ok z.conf/\(Lit.int .i64 z.now).wf=true/\(z.m.length<=maxLen/\∀x∈z.m,Zb.ok x)/\Z2.ok z.arb/\(z.buckets.length<=maxLen/\∀x∈z.buckets,Zc.ok x)/\(z.splits.length<=maxLen/\∀x∈z.splits,(Lit.int .i64 x).wf=true)/\(Lit.int .i64 z.holder).wf=true/\(Lit.int .i64 z.held).wf=true/\(Lit.int .i64 z.last).wf=true/\Zh.ok z.addr/\Zh.ok z.data_/\Zj.ok z.model/\(Lit.int .i64 z.picks).wf=true/\(z.log.length<=maxLen/\∀x∈z.log,Zn.ok x)
abbrev Zd.z0:Zd:=⟨0,false,0,0⟩
abbrev Zl.z0:Zl:=⟨[],0,0,0,0,0⟩
abbrev Zf.z0:Zf:=⟨false,0,0,0,false,[]⟩
abbrev Zm.z0:Zm:=⟨0,0,Zf.z0⟩
abbrev Zb.z0:Zb:=⟨[],0,0,0,false,false⟩
abbrev Z2.z0:Z2:=⟨0,0⟩
abbrev Zc.z0:Zc:=⟨0,0⟩
abbrev Zh.z0:Zh:=⟨false,0,0,false,0,0,0,false⟩
abbrev Zo.z0:Zo:=⟨[],0,[]⟩
abbrev Zj.z0:Zj:=⟨[],Zo.z0⟩
abbrev Zn.z0:Zn:=⟨0,0,false,0,0,0,0⟩
abbrev Za.z0:Za:=⟨Zl.z0,0,[],Z2.z0,[],[],0,0,0,Zh.z0,Zh.z0,Zj.z0,0,[]⟩
abbrev Zg.z0:Zg:=⟨0,0,0,0,0,0,false,0,0⟩
def Z8m (x0:List Zd) (x1:Int):Option Int:=
 if decide ((Y6 x1 (x0.length:Int)) < 0)=true then (
  some (-1))
 else (
  some (Y6 x1 (x0.length:Int)))
def Z5a (x0:Zl) (x1:Int):Option Int:=
 (Z8m x0.masters x1).bind λr0=>
 if decide (r0 < 0)=true then (
  some (-1))
 else (
  some r0)
def Zgc (x0:List Int) (x1:Int):Option Int:=
 if decide ((Y6 x1 (x0.length:Int)) < 0)=true then (
  some (-1))
 else (
  some (Y6 x1 (x0.length:Int)))
def Zw8 (x0:Zf) (x1:Int):Option Int:=
 (Zgc x0.data_ x1).bind λr0=>
 if decide (r0 < 0)=true then (
  some (-1))
 else (
  some r0)
def Yft (x0:List Zf) (x1:Int)  (k:Int->Int->Option Int) (v0:Int) (v1:Int):Option Int:=
 if decide (v1 < (x0.length:Int))=true then (
  (idx x0 v1).bind λa0=>
  (Zw8 a0 v0).bind λr0=>
  if decide (r0 < 0)=true then (
   some (-1))
  else (
   k r0 (Zq v1 1)))
 else (
  some v0)
def Zou (x0:List Zf) (x1:Int)  : Nat->Int->Int->Option Int
 | 0,_,_=>none
 | m+1,v0,v1=>Yft x0 x1  (Zou x0 x1  m) v0 v1
def Z6r (x0:List Zf) (x1:Int):Option Int:=
 if decide ((Y6 x1 (x0.length:Int)) < 0)=true then (
  some (-1))
 else (
  Zou x0 x1 FU (Y6 x1 (x0.length:Int)) 0)
def Zye (x0:Zm) (x1:Int):Option Int:=
 (Zw8 x0.req x1).bind λr0=>
 if decide (r0 < 0)=true then (
  some (-1))
 else (
  some r0)
def Yeh (x0:List Zm) (x1:Int)  (k:Int->Int->Option Int) (v0:Int) (v1:Int):Option Int:=
 if decide (v1 < (x0.length:Int))=true then (
  (idx x0 v1).bind λa0=>
  (Zye a0 v0).bind λr0=>
  if decide (r0 < 0)=true then (
   some (-1))
  else (
   k r0 (Zq v1 1)))
 else (
  some v0)
def Zla (x0:List Zm) (x1:Int)  : Nat->Int->Int->Option Int
 | 0,_,_=>none
 | m+1,v0,v1=>Yeh x0 x1  (Zla x0 x1  m) v0 v1
def Z28 (x0:List Zm) (x1:Int):Option Int:=
 if decide ((Y6 x1 (x0.length:Int)) < 0)=true then (
  some (-1))
 else (
  Zla x0 x1 FU (Y6 x1 (x0.length:Int)) 0)
def Zrv (x0:Zi) (x1:Int):Option Int:=
 (Z28 x0.posts x1).bind λr0=>
 if decide (r0 < 0)=true then (
  some (-1))
 else (
  (Zgc x0.waits r0).bind λr1=>
  if decide (r1 < 0)=true then (
   some (-1))
  else (
   (Zgc x0.says r1).bind λr2=>
   if decide (r2 < 0)=true then (
    some (-1))
   else (
    some r2)))
def Z2m (x0:Zb) (x1:Int):Option Int:=
 (Z6r x0.queue x1).bind λr0=>
 if decide (r0 < 0)=true then (
  some (-1))
 else (
  some r0)
def Yh4 (x0:List Zb) (x1:Int)  (k:Int->Int->Option Int) (v0:Int) (v1:Int):Option Int:=
 if decide (v1 < (x0.length:Int))=true then (
  (idx x0 v1).bind λa0=>
  (Z2m a0 v0).bind λr0=>
  if decide (r0 < 0)=true then (
   some (-1))
  else (
   k r0 (Zq v1 1)))
 else (
  some v0)
def Zoa (x0:List Zb) (x1:Int)  : Nat->Int->Int->Option Int
 | 0,_,_=>none
 | m+1,v0,v1=>Yh4 x0 x1  (Zoa x0 x1  m) v0 v1
def Z5e (x0:List Zb) (x1:Int):Option Int:=
 if decide ((Y6 x1 (x0.length:Int)) < 0)=true then (
  some (-1))
 else (
  Zoa x0 x1 FU (Y6 x1 (x0.length:Int)) 0)
def Z67 (x0:List Zc) (x1:Int):Option Int:=
 if decide ((Y6 x1 (x0.length:Int)) < 0)=true then (
  some (-1))
 else (
  some (Y6 x1 (x0.length:Int)))
def Yk9 (x0:Zo) (x1:Int):Option Int:=
 (Zgc x0.regs x1).bind λr0=>
 if decide (r0 < 0)=true then (
  some (-1))
 else (
  (Zgc x0.fifo r0).bind λr1=>
  if decide (r1 < 0)=true then (
   some (-1))
  else (
   some r1))
def Z22 (x0:Zj) (x1:Int):Option Int:=
 (Zgc x0.mem x1).bind λr0=>
 if decide (r0 < 0)=true then (
  some (-1))
 else (
  (Yk9 x0.dev r0).bind λr1=>
  if decide (r1 < 0)=true then (
   some (-1))
  else (
   some r1))
def Ycz (x0:List Zn) (x1:Int):Option Int:=
 if decide ((Y6 x1 (x0.length:Int)) < 0)=true then (
  some (-1))
 else (
  some (Y6 x1 (x0.length:Int)))
def Zwm (x0:Za) (x1:Int):Option Int:=
 (Z5a x0.conf x1).bind λr0=>
 if decide (r0 < 0)=true then (
  some (-1))
 else (
  (Z5e x0.m r0).bind λr1=>
  if decide (r1 < 0)=true then (
   some (-1))
  else (
   (Z67 x0.buckets r1).bind λr2=>
   if decide (r2 < 0)=true then (
    some (-1))
   else (
    (Zgc x0.splits r2).bind λr3=>
    if decide (r3 < 0)=true then (
     some (-1))
    else (
     (Z22 x0.model r3).bind λr4=>
     if decide (r4 < 0)=true then (
      some (-1))
     else (
      (Ycz x0.log r4).bind λr5=>
      if decide (r5 < 0)=true then (
       some (-1))
      else (
       some r5))))))
def Z25 (x0:Zd):Option Zd:=
 some x0
def Ybl (x0:List Zd)  (k:(List Zd)->Int->Option (List Zd)) (v0:List Zd) (v1:Int):Option (List Zd):=
 if decide (v1 < (x0.length:Int))=true then (
  (idx x0 v1).bind λa0=>
  (Z25 a0).bind λr0=>
  (idx v0 v1).bind λa1=>
  (W9 v0 v1 r0).bind λy0=>
  k y0 (Zq v1 1))
 else (
  some v0)
def Zjc (x0:List Zd)  : Nat->(List Zd)->Int->Option (List Zd)
 | 0,_,_=>none
 | m+1,v0,v1=>Ybl x0  (Zjc x0  m) v0 v1
def Zsd (x0:List Zd):Option (List Zd):=
 (mkI 32 (x0.length:Int) Zd.z0).bind λm0=>
 Zjc x0 FU m0 0
def Zyw (x0:Zl):Option Zl:=
 (Zsd x0.masters).bind λr0=>
 some {x0 with masters:=r0}
def Yhu (x0:List Int)  (k:(List Int)->Int->Option (List Int)) (v0:List Int) (v1:Int):Option (List Int):=
 if decide (v1 < (x0.length:Int))=true then (
  (idx x0 v1).bind λa0=>
  (idx v0 v1).bind λa1=>
  (W9 v0 v1 a0).bind λy0=>
  k y0 (Zq v1 1))
 else (
  some v0)
def Zox (x0:List Int)  : Nat->(List Int)->Int->Option (List Int)
 | 0,_,_=>none
 | m+1,v0,v1=>Yhu x0  (Zox x0  m) v0 v1
def Zcy (x0:List Int):Option (List Int):=
 (mkI 8 (x0.length:Int) 0).bind λm0=>
 Zox x0 FU m0 0
def Zrk (x0:Zf):Option Zf:=
 (Zcy x0.data_).bind λr0=>
 some {x0 with data_:=r0}
def Yh3 (x0:List Zf)  (k:(List Zf)->Int->Option (List Zf)) (v0:List Zf) (v1:Int):Option (List Zf):=
 if decide (v1 < (x0.length:Int))=true then (
  (idx x0 v1).bind λa0=>
  (Zrk a0).bind λr0=>
  (idx v0 v1).bind λa1=>
  (W9 v0 v1 r0).bind λy0=>
  k y0 (Zq v1 1))
 else (
  some v0)
def Zo0 (x0:List Zf)  : Nat->(List Zf)->Int->Option (List Zf)
 | 0,_,_=>none
 | m+1,v0,v1=>Yh3 x0  (Zo0 x0  m) v0 v1
def Zyy (x0:List Zf):Option (List Zf):=
 (mkI 64 (x0.length:Int) Zf.z0).bind λm0=>
 Zo0 x0 FU m0 0
def Ztz (x0:Zm):Option Zm:=
 (Zrk x0.req).bind λr0=>
 some {x0 with req:=r0}
def Ye5 (x0:List Zm)  (k:(List Zm)->Int->Option (List Zm)) (v0:List Zm) (v1:Int):Option (List Zm):=
 if decide (v1 < (x0.length:Int))=true then (
  (idx x0 v1).bind λa0=>
  (Ztz a0).bind λr0=>
  (idx v0 v1).bind λa1=>
  (W9 v0 v1 r0).bind λy0=>
  k y0 (Zq v1 1))
 else (
  some v0)
def Zk6 (x0:List Zm)  : Nat->(List Zm)->Int->Option (List Zm)
 | 0,_,_=>none
 | m+1,v0,v1=>Ye5 x0  (Zk6 x0  m) v0 v1
def Zvh (x0:List Zm):Option (List Zm):=
 (mkI 80 (x0.length:Int) Zm.z0).bind λm0=>
 Zk6 x0 FU m0 0
def Ztw (x0:Zi):Option Zi:=
 (Zvh x0.posts).bind λr0=>
 (Zcy x0.waits).bind λr1=>
 (Zcy x0.says).bind λr2=>
 some (Zi.mk r0 r1 r2)
def Z12 (x0:Zb):Option Zb:=
 (Zyy x0.queue).bind λr0=>
 some {x0 with queue:=r0}
def Yf6 (x0:List Zb)  (k:(List Zb)->Int->Option (List Zb)) (v0:List Zb) (v1:Int):Option (List Zb):=
 if decide (v1 < (x0.length:Int))=true then (
  (idx x0 v1).bind λa0=>
  (Z12 a0).bind λr0=>
  (idx v0 v1).bind λa1=>
  (W9 v0 v1 r0).bind λy0=>
  k y0 (Zq v1 1))
 else (
  some v0)
def Zot (x0:List Zb)  : Nat->(List Zb)->Int->Option (List Zb)
 | 0,_,_=>none
 | m+1,v0,v1=>Yf6 x0  (Zot x0  m) v0 v1
def Zyg (x0:List Zb):Option (List Zb):=
 (mkI 56 (x0.length:Int) Zb.z0).bind λm0=>
 Zot x0 FU m0 0
def Z8a (x0:Z2):Option Z2:=
 some x0
def Zz9 (x0:Zc):Option Zc:=
 some x0
def Z71 (x0:List Zc)  (k:(List Zc)->Int->Option (List Zc)) (v0:List Zc) (v1:Int):Option (List Zc):=
 if decide (v1 < (x0.length:Int))=true then (
  (idx x0 v1).bind λa0=>
  (Zz9 a0).bind λr0=>
  (idx v0 v1).bind λa1=>
  (W9 v0 v1 r0).bind λy0=>
  k y0 (Zq v1 1))
 else (
  some v0)
def Zhj (x0:List Zc)  : Nat->(List Zc)->Int->Option (List Zc)
 | 0,_,_=>none
 | m+1,v0,v1=>Z71 x0  (Zhj x0  m) v0 v1
def Zqh (x0:List Zc):Option (List Zc):=
 (mkI 16 (x0.length:Int) Zc.z0).bind λm0=>
 Zhj x0 FU m0 0
def Zsp (x0:Zh):Option Zh:=
 some x0
def Z8e (x0:Zo):Option Zo:=
 (Zcy x0.regs).bind λr0=>
 (Zcy x0.fifo).bind λr1=>
 some (Zo.mk r0 x0.timer r1)
def Zvq (x0:Zj):Option Zj:=
 (Zcy x0.mem).bind λr0=>
 (Z8e x0.dev).bind λr1=>
 some (Zj.mk r0 r1)
def Z5d (x0:Zn):Option Zn:=
 some x0
def Yeb (x0:List Zn)  (k:(List Zn)->Int->Option (List Zn)) (v0:List Zn) (v1:Int):Option (List Zn):=
 if decide (v1 < (x0.length:Int))=true then (
  (idx x0 v1).bind λa0=>
  (Z5d a0).bind λr0=>
  (idx v0 v1).bind λa1=>
  (W9 v0 v1 r0).bind λy0=>
  k y0 (Zq v1 1))
 else (
  some v0)
def Zk0 (x0:List Zn)  : Nat->(List Zn)->Int->Option (List Zn)
 | 0,_,_=>none
 | m+1,v0,v1=>Yeb x0  (Zk0 x0  m) v0 v1
def Zv9 (x0:List Zn):Option (List Zn):=
 (mkI 56 (x0.length:Int) Zn.z0).bind λm0=>
 Zk0 x0 FU m0 0
def Z19 (x0:Za):Option Za:=
 (Zyw x0.conf).bind λr0=>
 (Zyg x0.m).bind λr1=>
 (Z8a x0.arb).bind λr2=>
 (Zqh x0.buckets).bind λr3=>
 (Zcy x0.splits).bind λr4=>
 (Zsp x0.addr).bind λr5=>
 (Zsp x0.data_).bind λr6=>
 (Zvq x0.model).bind λr7=>
 (Zv9 x0.log).bind λr8=>
 some (Za.mk r0 x0.now r1 r2 r3 r4 x0.holder x0.held x0.last r5 r6 r7 x0.picks r8)
def Z5 (x0:Int) (x1:Int) (x2:Int):Option Bool:=
 if decide (x0≥x1)=true then (
  some (decide (x0<=x2)))
 else (
  some false)
def Zo9 (x0:Zl)  (v0:Bool):Option Int:=
 if v0=true then (
  some 0)
 else (
  some (Jr (Zq x0.maxRetry 2) (Zq x0.maxWait 6)))
def Ziz (x0:Zl):Option Int:=
 (Z5 x0.maxRetry 0 3).bind λr0=>
 if (!r0)=true then (
  Zo9 x0 true)
 else (
  (Z5 x0.maxWait 0 3).bind λr1=>
  Zo9 x0 (!r1))
def Zge (x0:Zl):Option Int:=
 (Ziz x0).bind λr0=>
 if decide (r0=0)=true then (
  some 0)
 else (
  (Z5 x0.lockMost 1 40).bind λr1=>
  if (!r1)=true then (
   some 0)
  else (
   (Ziz x0).bind λr2=>
   some (Zq (Jr 2 r2) x0.lockMost)))
def Ztp (x0:Zl):Option Bool:=
 (Z5 x0.quantum 1 4).bind λr0=>
 if r0=true then (
  (Ziz x0).bind λr1=>
  if decide (r1 > 0)=true then (
   (Z5 x0.maxSplit 1 12).bind λr2=>
   if r2=true then (
    (Z5 x0.lockMost 1 40).bind λr3=>
    some r3)
   else (
    some false))
  else (
   some false))
 else (
  some false)
def Zr2 (x0:Zl)  (k:Int->Int->Option Bool) (v0:Int) (v1:Int):Option Bool:=
 if decide (v1 < (x0.masters.length:Int))=true then (
  (idx x0.masters v1).bind λa0=>
  (Z5 a0.weight 1 4).bind λr0=>
  if (!r0)=true then (
   some false)
  else (
   if (!a0.prio)=true then (
    if decide (a0.every≠0)=true then (
     some false)
    else (
     if decide (a0.cap≠0)=true then (
      some false)
     else (
      if a0.prio=true then (
       (Zge x0).bind λr1=>
       (Z5 a0.every (Jr (Jr 2 v0) r1) 1000).bind λr2=>
       if (!r2)=true then (
        some false)
       else (
        (Z5 a0.cap 1 8).bind λr3=>
        if (!r3)=true then (
         some false)
        else (
         k v0 (Zq v1 1))))
      else (
       k v0 (Zq v1 1)))))
   else (
    if a0.prio=true then (
     (Zge x0).bind λr1=>
     (Z5 a0.every (Jr (Jr 2 v0) r1) 1000).bind λr2=>
     if (!r2)=true then (
      some false)
     else (
      (Z5 a0.cap 1 8).bind λr3=>
      if (!r3)=true then (
       some false)
      else (
       k v0 (Zq v1 1))))
    else (
     k v0 (Zq v1 1)))))
 else (
  (Z5 (x0.masters.length:Int) 1 4).bind λr4=>
  if r4=true then (
   (Ztp x0).bind λr5=>
   some r5)
  else (
   some false))
def Zas (x0:Zl)  : Nat->Int->Int->Option Bool
 | 0,_,_=>none
 | m+1,v0,v1=>Zr2 x0  (Zas x0  m) v0 v1
def Ztq (x0:Zl)  (k:Int->Int->Option Bool) (v0:Int) (v2:Int):Option Bool:=
 if decide (v2 < (x0.masters.length:Int))=true then (
  (idx x0.masters v2).bind λa1=>
  if a1.prio=true then (
   k (Zq v0 1) (Zq v2 1))
  else (
   k v0 (Zq v2 1)))
 else (
  Zas x0 FU v0 0)
def Zn0 (x0:Zl)  : Nat->Int->Int->Option Bool
 | 0,_,_=>none
 | m+1,v0,v2=>Ztq x0  (Zn0 x0  m) v0 v2
def Zjw (x0:Zl):Option Bool:=
 Zn0 x0 FU 0 0
def Za9 (x0:Int):Option Int:=
 (Z5 x0 0 3).bind λr0=>
 if (!r0)=true then (
  some 0)
 else (
  (idx [1,4,4,8] x0).bind λa0=>
  some a0)
def Jo (x0:Int):Option Int:=
 (Z5 x0 0 2).bind λr0=>
 if (!r0)=true then (
  some 0)
 else (
  (nnI x0).bind λn0=>
  some (Yev 1 x0))
def Zba (x0:Int) (x1:Int):Option Bool:=
 (Jo x1).bind λr0=>
 if decide (r0 > 0)=true then (
  if decide (x0≥0)=true then (
   (Jo x1).bind λr1=>
   (nzI r1).bind λn0=>
   some (decide ((Zam x0 r1)=0)))
  else (
   some false))
 else (
  some false)
def Zit (x0:Int) (x1:Int) (x2:Int)  (v0:Int) (v1:Bool):Option Int:=
 if v1=true then (
  some (Y6 (Zq x0 v0) (Jr 4 v0)))
 else (
  some (Zq x0 v0))
def Ze3 (x0:Int) (x1:Int) (x2:Int)  (v0:Int) (v2:Bool):Option Int:=
 if v2=true then (
  some (-1))
 else (
  if decide (x2=2)=true then (
   (nzI (Jr 4 v0)).bind λn0=>
   Zit x0 x1 x2 v0 (decide ((Zam (Zq x0 v0) (Jr 4 v0))=0)))
  else (
   Zit x0 x1 x2 v0 false))
def Zmj (x0:Int) (x1:Int) (x2:Int):Option Int:=
 (Jo x1).bind λr0=>
 (Zba x0 x1).bind λr1=>
 if (!r1)=true then (
  Ze3 x0 x1 x2 r0 true)
 else (
  (Z5 x0 0 511).bind λr2=>
  if (!r2)=true then (
   Ze3 x0 x1 x2 r0 true)
  else (
   (Za9 x2).bind λr3=>
   Ze3 x0 x1 x2 r0 (decide (r3=0))))
def Zdb (x0:Int) (x1:Int) (x2:Int) (k_L1:Int->(List Int)->Option (List Int)) (v0:Int) (v1:List Int) (v2:Bool):Option (List Int):=
 if v2=true then (
  (X8 8 v1 [v0]).bind λz0=>
  (Zmj v0 x1 x2).bind λr0=>
  k_L1 r0 z0)
 else (
  (Za9 x2).bind λr1=>
  if decide ((v1.length:Int) < r1)=true then (
   some [])
  else (
   some v1))
def Zb8 (x0:Int) (x1:Int) (x2:Int)  (k:Int->(List Int)->Option (List Int)) (v0:Int) (v1:List Int):Option (List Int):=
 (Za9 x2).bind λr2=>
 if decide ((v1.length:Int) < r2)=true then (
  (Zmj v0 x1 x2).bind λr3=>
  Zdb x0 x1 x2 k v0 v1 (decide (r3≥0)))
 else (
  Zdb x0 x1 x2 k v0 v1 false)
def Zf0 (x0:Int) (x1:Int) (x2:Int)  : Nat->Int->(List Int)->Option (List Int)
 | 0,_,_=>none
 | m+1,v0,v1=>Zb8 x0 x1 x2  (Zf0 x0 x1 x2  m) v0 v1
def Zh9 (x0:Int) (x1:Int) (x2:Int):Option (List Int):=
 Zf0 x0 x1 x2 FU x0 []
def Zq1 (x0:Int) (x1:Int) (x2:Int)  (k:(List Int)->Int->Option Bool) (v0:List Int) (v1:Int):Option Bool:=
 if decide (v1 < (v0.length:Int))=true then (
  (idx v0 v1).bind λa0=>
  (idx v0 0).bind λa1=>
  if decide ((Ztv a0 64)≠(Ztv a1 64))=true then (
   some false)
  else (
   k v0 (Zq v1 1)))
 else (
  some (decide ((v0.length:Int) > 0)))
def Zkx (x0:Int) (x1:Int) (x2:Int)  : Nat->(List Int)->Int->Option Bool
 | 0,_,_=>none
 | m+1,v0,v1=>Zq1 x0 x1 x2  (Zkx x0 x1 x2  m) v0 v1
def Zv1 (x0:Int) (x1:Int) (x2:Int):Option Bool:=
 (Zh9 x0 x1 x2).bind λr0=>
 Zkx x0 x1 x2 FU r0 0
def Qo (x0:Int):Option Int:=
 (Jo x0).bind λr0=>
 if decide (r0=0)=true then (
  some 0)
 else (
  (Jo x0).bind λr1=>
  (nnI (Jr 8 r1)).bind λn0=>
  some (Yev 1 (Jr 8 r1)))
def Zu4 (x0:Zf)  (k:Int->Option Bool) (v0:Int):Option Bool:=
 if decide (v0 < (x0.data_.length:Int))=true then (
  (idx x0.data_ v0).bind λa0=>
  (Qo x0.size).bind λr0=>
  (Z5 a0 0 (Y6 r0 1)).bind λr1=>
  if (!r1)=true then (
   some false)
  else (
   k (Zq v0 1)))
 else (
  if decide ((x0.data_.length:Int)=0)=true then (
   if (!x0.write)=true then (
    some true)
   else (
    (Za9 x0.burst).bind λr2=>
    if decide ((x0.data_.length:Int)=r2)=true then (
     some x0.write)
    else (
     some false)))
  else (
   (Za9 x0.burst).bind λr2=>
   if decide ((x0.data_.length:Int)=r2)=true then (
    some x0.write)
   else (
    some false)))
def Zqe (x0:Zf)  : Nat->Int->Option Bool
 | 0,_=>none
 | m+1,v0=>Zu4 x0  (Zqe x0  m) v0
def Zxb (x0:Zf):Option Bool:=
 (Zv1 x0.addr x0.size x0.burst).bind λr3=>
 if (!r3)=true then (
  some false)
 else (
  Zqe x0 FU 0)
def Zyj (x0:Zl):Option Zl:=
 (X8 32 [] x0.masters).bind λz0=>
 some {x0 with masters:=z0}
def Ymt (x0:Zd):Option Zc:=
 if (!x0.prio)=true then (
  some Zc.z0)
 else (
  some (Zc.mk (Z3h 0 x0.cap) 0))
def Yg1 (x0:Zl)  (k:Za->Int->Option (Za×Bool)) (vb0:Za) (v0:Int):Option (Za×Bool):=
 if decide (v0 < (x0.masters.length:Int))=true then (
  (X8 56 vb0.m [Zb.z0]).bind λz0=>
  (idx x0.masters v0).bind λa0=>
  (Ymt a0).bind λr0=>
  (X8 16 vb0.buckets [r0]).bind λz1=>
  (X8 8 vb0.splits [0]).bind λz2=>
  k {vb0 with m:=z0,buckets:=z1,splits:=z2} (Zq v0 1))
 else (
  some (vb0,true))
def Ykd (x0:Zl)  : Nat->Za->Int->Option (Za×Bool)
 | 0,_,_=>none
 | m+1,vb0,v0=>Yg1 x0  (Ykd x0  m) vb0 v0
def Zje (x0:Zf):Option Zf:=
 (X8 8 [] x0.data_).bind λz0=>
 some {x0 with data_:=z0}
def Yd7 (x0:Zb)  (k:(List Zf)->Int->Option Zb) (v0:List Zf) (v1:Int):Option Zb:=
 if decide (v1 < (x0.queue.length:Int))=true then (
  (idx x0.queue v1).bind λa0=>
  (Zje a0).bind λr0=>
  (X8 64 v0 [r0]).bind λz0=>
  k z0 (Zq v1 1))
 else (
  some {x0 with queue:=v0})
def Zl4 (x0:Zb)  : Nat->(List Zf)->Int->Option Zb
 | 0,_,_=>none
 | m+1,v0,v1=>Yd7 x0  (Zl4 x0  m) v0 v1
def Zd8 (x0:Zb):Option Zb:=
 Zl4 x0 FU [] 0
def Zsc (x0:Zo):Option Zo:=
 (X8 8 [] x0.regs).bind λz0=>
 (X8 8 [] x0.fifo).bind λz1=>
 some (Zo.mk z0 x0.timer z1)
def Zto (x0:Zj):Option Zj:=
 (X8 8 [] x0.mem).bind λz0=>
 (Zsc x0.dev).bind λr0=>
 some (Zj.mk z0 r0)
def Zjm (x0:Za)  (k:Za->Int->Option Za) (vb0:Za) (v0:Int):Option Za:=
 if decide (v0 < (x0.m.length:Int))=true then (
  (idx x0.m v0).bind λa0=>
  (Zd8 a0).bind λr0=>
  (X8 56 vb0.m [r0]).bind λz0=>
  k {vb0 with m:=z0} (Zq v0 1))
 else (
  (X8 16 [] x0.buckets).bind λz1=>
  (X8 8 [] x0.splits).bind λz2=>
  (Zto x0.model).bind λr1=>
  (X8 56 [] x0.log).bind λz3=>
  some {vb0 with buckets:=z1,splits:=z2,model:=r1,log:=z3})
def Zf1 (x0:Za)  : Nat->Za->Int->Option Za
 | 0,_,_=>none
 | m+1,vb0,v0=>Zjm x0  (Zf1 x0  m) vb0 v0
def Zp2 (x0:Za):Option Za:=
 (Zyj x0.conf).bind λr2=>
 Zf1 x0 FU {x0 with conf:=r2,m:=[]} 0
def Zoj (x0:Zl) (x1:Int)  (v0:Bool):Option Int:=
 if v0=true then (
  some 0)
 else (
  (idx x0.masters x1).bind λa0=>
  some (Jr a0.weight x0.quantum))
def Zi3 (x0:Zl) (x1:Int):Option Int:=
 (Zjw x0).bind λr0=>
 if (!r0)=true then (
  Zoj x0 x1 true)
 else (
  (Z5 x1 0 (Y6 (x0.masters.length:Int) 1)).bind λr1=>
  Zoj x0 x1 (!r1))
def Zrh (x0:Z2) (x1:Zl):Option Bool:=
 (Zjw x1).bind λr0=>
 if r0=true then (
  (Z5 x0.at_ 0 (Y6 (x1.masters.length:Int) 1)).bind λr1=>
  if r1=true then (
   (Zi3 x1 x0.at_).bind λr2=>
   (Z5 x0.credit 0 r2).bind λr3=>
   some r3)
  else (
   some false))
 else (
  some false)
def Zqw (x0:List Int)  (k:Int->Option Bool) (v0:Int):Option Bool:=
 if decide (v0 < (x0.length:Int))=true then (
  (idx x0 v0).bind λa0=>
  (Z5 a0 0 255).bind λr0=>
  if (!r0)=true then (
   some false)
  else (
   k (Zq v0 1)))
 else (
  some (decide ((x0.length:Int)<=512)))
def Zk7 (x0:List Int)  : Nat->Int->Option Bool
 | 0,_=>none
 | m+1,v0=>Zqw x0  (Zk7 x0  m) v0
def Zp8 (x0:List Int):Option Bool:=
 Zk7 x0 FU 0
def Zrc (x0:List Int)  (k:Int->Option Bool) (v0:Int):Option Bool:=
 if decide (v0 < (x0.length:Int))=true then (
  (idx x0 v0).bind λa0=>
  (Qo 2).bind λr0=>
  (Z5 a0 0 (Y6 r0 1)).bind λr1=>
  if (!r1)=true then (
   some false)
  else (
   k (Zq v0 1)))
 else (
  some true)
def Zlb (x0:List Int)  : Nat->Int->Option Bool
 | 0,_=>none
 | m+1,v0=>Zrc x0  (Zlb x0  m) v0
def Zps (x0:List Int):Option Bool:=
 Zlb x0 FU 0
def Zwk (x0:Zo):Option Bool:=
 if decide ((x0.regs.length:Int)=4)=true then (
  (Zps x0.regs).bind λr0=>
  if r0=true then (
   (Qo 2).bind λr1=>
   (Z5 x0.timer 0 (Y6 r1 1)).bind λr2=>
   if r2=true then (
    if decide ((x0.fifo.length:Int)<=4)=true then (
     (Zps x0.fifo).bind λr3=>
     some r3)
    else (
     some false))
   else (
    some false))
  else (
   some false))
 else (
  some false)
def Zpx (x0:Zj):Option Bool:=
 if decide ((x0.mem.length:Int)=192)=true then (
  (Zp8 x0.mem).bind λr0=>
  if r0=true then (
   (Zwk x0.dev).bind λr1=>
   some r1)
  else (
   some false))
 else (
  some false)
def Zc5 (x0:Zb):Option Int:=
 if decide ((x0.queue.length:Int)=0)=true then (
  some 0)
 else (
  (idx x0.queue 0).bind λa0=>
  (Za9 a0.burst).bind λr0=>
  some r0)
def Zan (x0:Zb)  (v0:Bool):Option Bool:=
 if v0=true then (
  some false)
 else (
  if decide ((x0.queue.length:Int)=0)=true then (
   if decide (x0.beat=0)=true then (
    if decide (x0.done=0)=true then (
     if decide (x0.tries=0)=true then (
      if (!x0.parted)=true then (
       some (!x0.broken))
      else (
       some false))
     else (
      some false))
    else (
     some false))
   else (
    some false))
  else (
   (Zc5 x0).bind λr0=>
   (Z5 x0.done 0 (Y6 r0 1)).bind λr1=>
   if r1=true then (
    (Zc5 x0).bind λr2=>
    (Z5 x0.beat x0.done (Zi8 (Zq x0.done 2) r2)).bind λr3=>
    some r3)
   else (
    some false)))
def Zpi (x0:Zb)  (k:Int->Option Bool) (v1:Int):Option Bool:=
 if decide (v1 < (x0.queue.length:Int))=true then (
  (idx x0.queue v1).bind λa0=>
  (Zxb a0).bind λr4=>
  if (!r4)=true then (
   some false)
  else (
   k (Zq v1 1)))
 else (
  if decide ((x0.queue.length:Int) > 4)=true then (
   Zan x0 true)
  else (
   Zan x0 (decide (x0.tries < 0))))
def Ziy (x0:Zb)  : Nat->Int->Option Bool
 | 0,_=>none
 | m+1,v1=>Zpi x0  (Ziy x0  m) v1
def Zbm (x0:Zb):Option Bool:=
 Ziy x0 FU 0
def Z81 (x0:Zb) (x1:Zl):Option Bool:=
 (Zjw x1).bind λr0=>
 if r0=true then (
  (Zbm x0).bind λr1=>
  if r1=true then (
   some (decide (x0.tries<=x1.maxRetry)))
  else (
   some false))
 else (
  some false)
def Zeu (x0:Zc) (x1:Zd):Option Bool:=
 if (!x1.prio)=true then (
  some (decide (x0.tokens=0)&&(decide (x0.count=0)&&true)))
 else (
  (Z5 x0.tokens 0 x1.cap).bind λr0=>
  if r0=true then (
   (Z5 x0.count 0 (Y6 x1.every 1)).bind λr1=>
   some r1)
  else (
   some false))
def Zls (x0:Za) (x1:Int)  (v0:Int):Option Int:=
 if x0.data_.live=true then (
  if decide (x0.data_.who=x1)=true then (
   some (Zq v0 1))
  else (
   some v0))
 else (
  some v0)
def Zl3 (x0:Za) (x1:Int)  (v1:Bool):Option Int:=
 if v1=true then (
  Zls x0 x1 (Zq 0 1))
 else (
  Zls x0 x1 0)
def Zvf (x0:Za) (x1:Int):Option Int:=
 if x0.addr.live=true then (
  Zl3 x0 x1 (decide (x0.addr.who=x1)))
 else (
  Zl3 x0 x1 false)
def Zst (x0:Int):Option ByteArray:=
 (Z5 x0 0 3).bind λr0=>
 if (!r0)=true then (
  some ByteArray.empty)
 else (
  (idx [(strL [111,107,97,121]),(strL [101,114,114,111,114]),(strL [114,101,116,114,121]),(strL [115,112,108,105,116])] x0).bind λa0=>
  some a0)
def Yj (x0:Za) (x1:Zh) (x2:Bool)  (vb0:Zb) (v0:Bool):Option Bool:=
 if v0=true then (
  some false)
 else (
  if decide (x1.beat=vb0.done)=true then (
   (Z5 x1.left 0 (Zq x0.conf.maxWait 2)).bind λr0=>
   if r0=true then (
    (Zst x1.resp).bind λr1=>
    if (!(r1.toList == ByteArray.empty.toList))=true then (
     if (!x1.second)=true then (
      some true)
     else (
      if decide (x1.resp≠0)=true then (
       some (decide (x1.left=0)))
      else (
       some false)))
    else (
     some false))
   else (
    some false))
  else (
   some false))
def Q5 (x0:Za) (x1:Zh) (x2:Bool)  (v1:Bool):Option Bool:=
 if v1=true then (
  some false)
 else (
  (idx x0.m x1.who).bind λa0=>
  if (!x2)=true then (
   if decide (x1.beat=(Y6 a0.beat 1))=true then (
    if decide (x1.left=0)=true then (
     if decide (x1.resp=0)=true then (
      some (!x1.second))
     else (
      some false))
    else (
     some false))
   else (
    some false))
  else (
   if decide (x1.resp=2)=true then (
    if decide (a0.tries≥x0.conf.maxRetry)=true then (
     Yj x0 x1 x2 a0 true)
    else (
     if decide (x1.resp=3)=true then (
      if a0.parted=true then (
       Yj x0 x1 x2 a0 true)
      else (
       if decide (x0.holder=x1.who)=true then (
        Yj x0 x1 x2 a0 true)
       else (
        if x1.second=true then (
         Yj x0 x1 x2 a0 x0.addr.live)
        else (
         Yj x0 x1 x2 a0 false))))
     else (
      if x1.second=true then (
       Yj x0 x1 x2 a0 x0.addr.live)
      else (
       Yj x0 x1 x2 a0 false))))
   else (
    if decide (x1.resp=3)=true then (
     if a0.parted=true then (
      Yj x0 x1 x2 a0 true)
     else (
      if decide (x0.holder=x1.who)=true then (
       Yj x0 x1 x2 a0 true)
      else (
       if x1.second=true then (
        Yj x0 x1 x2 a0 x0.addr.live)
       else (
        Yj x0 x1 x2 a0 false))))
    else (
     if x1.second=true then (
      Yj x0 x1 x2 a0 x0.addr.live)
     else (
      Yj x0 x1 x2 a0 false)))))
def Zcw (x0:Za) (x1:Zh) (x2:Bool):Option Bool:=
 if (!x1.live)=true then (
  some ((x1.live == false)&&(decide (x1.who=0)&&(decide (x1.beat=0)&&((x1.first == false)&&(decide (x1.by_=0)&&(decide (x1.left=0)&&(decide (x1.resp=0)&&((x1.second == false)&&true)))))))))
 else (
  (Z5 x1.who 0 (Y6 (x0.m.length:Int) 1)).bind λr2=>
  if (!r2)=true then (
   Q5 x0 x1 x2 true)
  else (
   (Z5 x1.by_ 1 3).bind λr3=>
   if (!r3)=true then (
    Q5 x0 x1 x2 true)
   else (
    (idx x0.splits x1.who).bind λa1=>
    Q5 x0 x1 x2 (decide (a1 > 0)))))
def Zbn (x0:Za)  (v0:Bool):Option Bool:=
 if v0=true then (
  some false)
 else (
  (idx x0.m x0.holder).bind λa0=>
  if decide ((a0.queue.length:Int) > 0)=true then (
   (idx a0.queue 0).bind λa1=>
   if a1.lock=true then (
    if (!a0.broken)=true then (
     (idx x0.splits x0.holder).bind λa2=>
     some (decide (a2=0)))
    else (
     some false))
   else (
    some false))
  else (
   some false))
def Zjb (x0:Za)  (k:Int->Option Bool) (v1:Int):Option Bool:=
 if decide (v1 < (x0.m.length:Int))=true then (
  (idx x0.m v1).bind λa3=>
  if decide (a3.beat > 0)=true then (
   (idx a3.queue 0).bind λa4=>
   if a4.lock=true then (
    if (!a3.broken)=true then (
     if decide (x0.holder≠v1)=true then (
      some false)
     else (
      k (Zq v1 1)))
    else (
     k (Zq v1 1)))
   else (
    k (Zq v1 1)))
  else (
   k (Zq v1 1)))
 else (
  if decide (x0.holder=(-1))=true then (
   some (decide (x0.held=0)))
  else (
   (Z5 x0.holder 0 (Y6 (x0.m.length:Int) 1)).bind λr0=>
   if (!r0)=true then (
    Zbn x0 true)
   else (
    (Z5 x0.held 0 x0.conf.lockMost).bind λr1=>
    Zbn x0 (!r1))))
def Zsj (x0:Za)  : Nat->Int->Option Bool
 | 0,_=>none
 | m+1,v1=>Zjb x0  (Zsj x0  m) v1
def Zpk (x0:Za):Option Bool:=
 Zsj x0 FU 0
def Zle (x0:Za)  (k:Int->Option Bool) (v0:Int):Option Bool:=
 if decide (v0 < (x0.log.length:Int))=true then (
  (idx x0.log v0).bind λa0=>
  (Z5 a0.cycle 0 (Y6 x0.now 1)).bind λr0=>
  if (!r0)=true then (
   some false)
  else (
   if decide (v0 > 0)=true then (
    (idx x0.log (Y6 v0 1)).bind λa1=>
    if decide (a0.cycle<=a1.cycle)=true then (
     some false)
    else (
     (Z5 a0.who 0 (Y6 (x0.m.length:Int) 1)).bind λr1=>
     if (!r1)=true then (
      some false)
     else (
      (Zba a0.addr a0.size).bind λr2=>
      if (!r2)=true then (
       some false)
      else (
       (Z5 a0.addr 0 511).bind λr3=>
       if (!r3)=true then (
        some false)
       else (
        (Qo a0.size).bind λr4=>
        (Z5 a0.value 0 (Y6 r4 1)).bind λr5=>
        if (!r5)=true then (
         some false)
        else (
         (Z5 a0.resp 0 1).bind λr6=>
         if (!r6)=true then (
          some false)
         else (
          k (Zq v0 1))))))))
   else (
    (Z5 a0.who 0 (Y6 (x0.m.length:Int) 1)).bind λr1=>
    if (!r1)=true then (
     some false)
    else (
     (Zba a0.addr a0.size).bind λr2=>
     if (!r2)=true then (
      some false)
     else (
      (Z5 a0.addr 0 511).bind λr3=>
      if (!r3)=true then (
       some false)
      else (
       (Qo a0.size).bind λr4=>
       (Z5 a0.value 0 (Y6 r4 1)).bind λr5=>
       if (!r5)=true then (
        some false)
       else (
        (Z5 a0.resp 0 1).bind λr6=>
        if (!r6)=true then (
         some false)
        else (
         k (Zq v0 1)))))))))
 else (
  some true)
def Zo1 (x0:Za)  : Nat->Int->Option Bool
 | 0,_=>none
 | m+1,v0=>Zle x0  (Zo1 x0  m) v0
def Zsk (x0:Za):Option Bool:=
 Zo1 x0 FU 0
def Zn6 (x0:Za)  (k:Int->Option Bool) (v0:Int):Option Bool:=
 if decide (v0 < (x0.conf.masters.length:Int))=true then (
  (idx x0.m v0).bind λa0=>
  (Z81 a0 x0.conf).bind λr0=>
  if (!r0)=true then (
   some false)
  else (
   (idx x0.buckets v0).bind λa1=>
   (idx x0.conf.masters v0).bind λa2=>
   (Zeu a1 a2).bind λr1=>
   if (!r1)=true then (
    some false)
   else (
    (idx x0.splits v0).bind λa3=>
    (Z5 a3 0 x0.conf.maxSplit).bind λr2=>
    if (!r2)=true then (
     some false)
    else (
     (Zvf x0 v0).bind λr3=>
     if decide ((Y6 a0.beat a0.done)≠r3)=true then (
      some false)
     else (
      k (Zq v0 1))))))
 else (
  (Zcw x0 x0.data_ true).bind λr4=>
  if r4=true then (
   (Zcw x0 x0.addr false).bind λr5=>
   if r5=true then (
    (Zpk x0).bind λr6=>
    if r6=true then (
     (Zsk x0).bind λr7=>
     some r7)
    else (
     some false))
   else (
    some false))
  else (
   some false))
def Zqi (x0:Za)  : Nat->Int->Option Bool
 | 0,_=>none
 | m+1,v0=>Zn6 x0  (Zqi x0  m) v0
def W3 (x0:Za)  (v1:Bool):Option Bool:=
 if v1=true then (
  some false)
 else (
  Zqi x0 FU 0)
def Zma (x0:Za):Option Bool:=
 (Zjw x0.conf).bind λr8=>
 if (!r8)=true then (
  W3 x0 true)
 else (
  (Z5 x0.now 0 4000).bind λr9=>
  if (!r9)=true then (
   W3 x0 true)
  else (
   if decide ((x0.m.length:Int)≠(x0.conf.masters.length:Int))=true then (
    W3 x0 true)
   else (
    if decide ((x0.buckets.length:Int)≠(x0.conf.masters.length:Int))=true then (
     W3 x0 true)
    else (
     if decide ((x0.splits.length:Int)≠(x0.conf.masters.length:Int))=true then (
      W3 x0 true)
     else (
      (Zrh x0.arb x0.conf).bind λr10=>
      if (!r10)=true then (
       W3 x0 true)
      else (
       (Z5 x0.last (-1) (Y6 (x0.conf.masters.length:Int) 1)).bind λr11=>
       if (!r11)=true then (
        W3 x0 true)
       else (
        (Zpx x0.model).bind λr12=>
        if (!r12)=true then (
         W3 x0 true)
        else (
         if decide (x0.picks < 0)=true then (
          W3 x0 true)
         else (
          W3 x0 (decide (x0.picks > x0.now)))))))))))
def Zlf (x0:Zb) (x1:Int)  (v0:Bool):Option Int:=
 if v0=true then (
  some (-1))
 else (
  (idx x0.queue 0).bind λa0=>
  (Zh9 a0.addr a0.size a0.burst).bind λr0=>
  (idx r0 x1).bind λa1=>
  some a1)
def Zha (x0:Zb) (x1:Int):Option Int:=
 (Zbm x0).bind λr1=>
 if (!r1)=true then (
  Zlf x0 x1 true)
 else (
  (Zc5 x0).bind λr2=>
  (Z5 x1 0 (Y6 r2 1)).bind λr3=>
  Zlf x0 x1 (!r3))
def Zf6 (x0:Za)  (vb0:Zg):Option Zg:=
 if x0.data_.live=true then (
  (idx x0.m x0.data_.who).bind λa0=>
  (Zha a0 x0.data_.beat).bind λr0=>
  some {vb0 with data_:=r0,from_:=x0.data_.who})
 else (
  some vb0)
def Zvp (x0:Za):Option Zg:=
 if x0.addr.live=true then (
  (idx x0.m x0.addr.who).bind λa1=>
  (Zha a1 x0.addr.beat).bind λr1=>
  if x0.addr.first=true then (
   Zf6 x0 (Zg.mk x0.now r1 2 x0.addr.who (-1) (-1) true 0 (-1)))
  else (
   Zf6 x0 (Zg.mk x0.now r1 3 x0.addr.who (-1) (-1) true 0 (-1))))
 else (
  Zf6 x0 (Zg.mk x0.now (-1) 0 (-1) (-1) (-1) true 0 (-1)))
def Zjr (x0:Zi) (x1:Int)  (k:(List Zm)->Int->Option (List Zm)) (v0:List Zm) (v1:Int):Option (List Zm):=
 if decide (v1 < (x0.posts.length:Int))=true then (
  (idx x0.posts v1).bind λa0=>
  if decide (a0.at_=x1)=true then (
   (Zje a0.req).bind λr0=>
   (X8 80 v0 [{a0 with req:=r0}]).bind λz0=>
   k z0 (Zq v1 1))
  else (
   k v0 (Zq v1 1)))
 else (
  some v0)
def Zk9 (x0:Zi) (x1:Int)  : Nat->(List Zm)->Int->Option (List Zm)
 | 0,_,_=>none
 | m+1,v0,v1=>Zjr x0 x1  (Zk9 x0 x1  m) v0 v1
def Zvc (x0:Zi) (x1:Int):Option (List Zm):=
 Zk9 x0 x1 FU [] 0
def Zf9 (x0:Zb) (x1:Zf)  (vb0:Zb) (v0:Bool):Option (Zb×Bool):=
 if v0=true then (
  some (vb0,false))
 else (
  (Zje x1).bind λr0=>
  (X8 64 vb0.queue [r0]).bind λz0=>
  some ({vb0 with queue:=z0},true))
def Zwe (x0:Zb) (x1:Zf):Option (Zb×Bool):=
 (Zd8 x0).bind λr1=>
 (Zbm x0).bind λr2=>
 if (!r2)=true then (
  Zf9 x0 x1 r1 true)
 else (
  (Zxb x1).bind λr3=>
  if (!r3)=true then (
   Zf9 x0 x1 r1 true)
  else (
   Zf9 x0 x1 r1 (decide ((x0.queue.length:Int)=4))))
def Zfw (x0:Zc) (x1:Zd)  (v0:Bool):Option Zc:=
 if v0=true then (
  some x0)
 else (
  if decide ((Zq x0.count 1)=x1.every)=true then (
   some (Zc.mk (Zi8 x1.cap (Zq x0.tokens 1)) 0))
  else (
   some (Zc.mk x0.tokens (Zq x0.count 1))))
def Zn1 (x0:Zc) (x1:Zd):Option Zc:=
 if (!x1.prio)=true then (
  Zfw x0 x1 true)
 else (
  (Zeu x0 x1).bind λr0=>
  Zfw x0 x1 (!r0))
def Zlw (x0:Zb)  (vb0:Zb) (v0:Bool):Option (Zb×Bool):=
 if v0=true then (
  some (vb0,false))
 else (
  some ({vb0 with beat:=(Y6 vb0.beat 1)},true))
def Zvl (x0:Zb):Option (Zb×Bool):=
 (Zd8 x0).bind λr0=>
 (Zbm x0).bind λr1=>
 if (!r1)=true then (
  Zlw x0 r0 true)
 else (
  Zlw x0 r0 (decide (x0.beat=x0.done)))
def Zga (x0:Zc) (x1:Zd)  (v0:Bool):Option Zc:=
 if v0=true then (
  some (Zc.mk (Zi8 x1.cap (Zq x0.tokens 1)) x0.count))
 else (
  some x0)
def Zpa (x0:Zc) (x1:Zd):Option Zc:=
 if x1.prio=true then (
  (Zeu x0 x1).bind λr0=>
  Zga x0 x1 r0)
 else (
  Zga x0 x1 false)
def Zlo (x0:Z2) (x1:Zl) (x2:Int)  (v0:Bool):Option Z2:=
 if v0=true then (
  (Zi3 x1 x2).bind λr0=>
  some (Z2.mk x0.at_ (Zi8 r0 (Zq x0.credit 1))))
 else (
  some x0)
def Zvo (x0:Z2) (x1:Zl) (x2:Int):Option Z2:=
 (Zrh x0 x1).bind λr1=>
 if r1=true then (
  Zlo x0 x1 x2 (decide (x0.at_=x2)))
 else (
  Zlo x0 x1 x2 false)
def Zki (x0:Za) (x1:Zh):Option Za:=
 (idx x0.m x1.who).bind λa0=>
 (Zvl a0).bind λr0=>
 (W9 x0.m x1.who r0.1).bind λy0=>
 if decide (x1.by_=1)=true then (
  (idx x0.buckets x1.who).bind λa1=>
  (idx x0.conf.masters x1.who).bind λa2=>
  (Zpa a1 a2).bind λr1=>
  (W9 x0.buckets x1.who r1).bind λy1=>
  some {x0 with m:=y0,buckets:=y1})
 else (
  if decide (x1.by_=2)=true then (
   (Zvo x0.arb x0.conf x1.who).bind λr2=>
   some {x0 with m:=y0,arb:=r2})
  else (
   some {x0 with m:=y0}))
def Zzg (x0:List Int) (x1:Int)  (v0:Bool):Option Int:=
 if v0=true then (
  some 0)
 else (
  (nzI (x0.length:Int)).bind λn0=>
  (idx x0 (Zam x1 (x0.length:Int))).bind λa0=>
  some a0)
def Zzs (x0:List Int) (x1:Int):Option Int:=
 if decide ((x0.length:Int)=0)=true then (
  Zzg x0 x1 true)
 else (
  Zzg x0 x1 (decide (x1 < 0)))
def Zwc (x0:Zl) (x1:Zi) (x2:Int):Option Int:=
 (Zzs x1.waits x2).bind λr0=>
 some (Z3h 1 (Zi8 x0.maxSplit (Zq (Zi8 r0 99) 1)))
def Zmq (x0:Zf) (x1:Int):Option Int:=
 if (!x0.write)=true then (
  some 0)
 else (
  (idx x0.data_ x1).bind λa0=>
  some a0)
def Zs2 (x0:Int)  (v0:Bool):Option Int:=
 if v0=true then (
  some 0)
 else (
  if decide (x0 < 128)=true then (
   some 1)
  else (
   if decide (x0 < 192)=true then (
    some 2)
   else (
    some 3)))
def Zvm (x0:Int):Option Int:=
 if decide (x0 < 0)=true then (
  Zs2 x0 true)
 else (
  Zs2 x0 (decide (x0≥224)))
def Zt3 (x0:List Int) (x1:Int) (x2:Int):Option Bool:=
 (Zp8 x0).bind λr0=>
 if r0=true then (
  (Zba x1 x2).bind λr1=>
  if r1=true then (
   (Jo x2).bind λr2=>
   some (decide (x1<=(Y6 (x0.length:Int) r2))))
  else (
   some false))
 else (
  some false)
def Zgj (x0:List Int) (x1:Int) (x2:Int) (x3:Int)  (k:Int->(List Int)->Int->Option (List Int×Bool)) (v0:Int) (v1:List Int) (v2:Int):Option (List Int×Bool):=
 (Jo x2).bind λr0=>
 if decide (v2 < r0)=true then (
  (idx v1 (Zq x1 v2)).bind λa0=>
  (W9 v1 (Zq x1 v2) (Zam v0 256)).bind λy0=>
  k (Ztv v0 256) y0 (Zq v2 1))
 else (
  some (v1,true))
def Zop (x0:List Int) (x1:Int) (x2:Int) (x3:Int)  : Nat->Int->(List Int)->Int->Option (List Int×Bool)
 | 0,_,_,_=>none
 | m+1,v0,v1,v2=>Zgj x0 x1 x2 x3  (Zop x0 x1 x2 x3  m) v0 v1 v2
def Zn3 (x0:List Int) (x1:Int) (x2:Int) (x3:Int)  (v1:List Int) (v3:Bool):Option (List Int×Bool):=
 if v3=true then (
  some (v1,false))
 else (
  Zop x0 x1 x2 x3 FU x3 v1 0)
def Zyu (x0:List Int) (x1:Int) (x2:Int) (x3:Int):Option (List Int×Bool):=
 (X8 8 [] x0).bind λz0=>
 (Zt3 x0 x1 x2).bind λr1=>
 if (!r1)=true then (
  Zn3 x0 x1 x2 x3 z0 true)
 else (
  (Qo x2).bind λr2=>
  (Z5 x3 0 (Y6 r2 1)).bind λr3=>
  Zn3 x0 x1 x2 x3 z0 (!r3))
def Zj2 (x0:Zo) (x1:Bool) (x2:Int) (x3:Int)  (vb0:Zo) (v0:Bool):Option (Zo×Int×Bool):=
 if v0=true then (
  (idx vb0.fifo 0).bind λa0=>
  (J9 vb0.fifo 1 (vb0.fifo.length:Int)).bind λs0=>
  some ({vb0 with fifo:=s0},a0,true))
 else (
  some (vb0,0,false))
def Zj1 (x0:Zo) (x1:Bool) (x2:Int) (x3:Int)  (vb0:Zo) (v1:Bool):Option (Zo×Int×Bool):=
 if v1=true then (
  (X8 8 vb0.fifo [x3]).bind λz0=>
  some ({vb0 with fifo:=z0},x3,true))
 else (
  if decide (x2=20)=true then (
   if (!x1)=true then (
    Zj2 x0 x1 x2 x3 vb0 (decide ((vb0.fifo.length:Int) > 0)))
   else (
    Zj2 x0 x1 x2 x3 vb0 false))
  else (
   Zj2 x0 x1 x2 x3 vb0 false))
def Zqc (x0:Zo) (x1:Bool) (x2:Int) (x3:Int)  (vb0:Zo) (v2:Bool):Option (Zo×Int×Bool):=
 if v2=true then (
  some ({vb0 with timer:=x3},x3,true))
 else (
  if decide (x2=16)=true then (
   (Qo 2).bind λr0=>
   (nzI r0).bind λn0=>
   some ({vb0 with timer:=(Zam (Zq vb0.timer 1) r0)},vb0.timer,true))
  else (
   if decide (x2=20)=true then (
    if x1=true then (
     Zj1 x0 x1 x2 x3 vb0 (decide ((vb0.fifo.length:Int) < 4)))
    else (
     Zj1 x0 x1 x2 x3 vb0 false))
   else (
    Zj1 x0 x1 x2 x3 vb0 false)))
def Zqq (x0:Zo) (x1:Bool) (x2:Int) (x3:Int)  (vb0:Zo) (v3:Bool):Option (Zo×Int×Bool):=
 if v3=true then (
  (idx vb0.regs (Ztv x2 4)).bind λa1=>
  (W9 vb0.regs (Ztv x2 4) x3).bind λy0=>
  some ({vb0 with regs:=y0},x3,true))
 else (
  (Z5 x2 0 12).bind λr1=>
  if r1=true then (
   (idx vb0.regs (Ztv x2 4)).bind λa2=>
   some (vb0,a2,true))
  else (
   if decide (x2=16)=true then (
    Zqc x0 x1 x2 x3 vb0 x1)
   else (
    Zqc x0 x1 x2 x3 vb0 false)))
def Zae (x0:Zo) (x1:Bool) (x2:Int) (x3:Int)  (vb0:Zo) (v4:Bool):Option (Zo×Int×Bool):=
 if v4=true then (
  some (vb0,0,false))
 else (
  (Z5 x2 0 12).bind λr2=>
  if r2=true then (
   Zqq x0 x1 x2 x3 vb0 x1)
  else (
   Zqq x0 x1 x2 x3 vb0 false))
def Z1h (x0:Zo) (x1:Bool) (x2:Int) (x3:Int):Option (Zo×Int×Bool):=
 (Zsc x0).bind λr3=>
 (Zwk x0).bind λr4=>
 if (!r4)=true then (
  Zae x0 x1 x2 x3 r3 true)
 else (
  if decide ((Zam x2 4)≠0)=true then (
   Zae x0 x1 x2 x3 r3 true)
  else (
   if x1=true then (
    (Qo 2).bind λr5=>
    (Z5 x3 0 (Y6 r5 1)).bind λr6=>
    Zae x0 x1 x2 x3 r3 (!r6))
   else (
    Zae x0 x1 x2 x3 r3 false)))
def Zfv (x0:List Int) (x1:Int) (x2:Int)  (k:Int->Int->Option (Int×Bool)) (v0:Int) (v1:Int):Option (Int×Bool):=
 if decide (v1≥0)=true then (
  (idx x0 (Zq x1 v1)).bind λa0=>
  k (Zq (Jr v0 256) a0) (Y6 v1 1))
 else (
  some (v0,true))
def Zoe (x0:List Int) (x1:Int) (x2:Int)  : Nat->Int->Int->Option (Int×Bool)
 | 0,_,_=>none
 | m+1,v0,v1=>Zfv x0 x1 x2  (Zoe x0 x1 x2  m) v0 v1
def Zyv (x0:List Int) (x1:Int) (x2:Int):Option (Int×Bool):=
 (Zt3 x0 x1 x2).bind λr0=>
 if (!r0)=true then (
  some (0,false))
 else (
  (Jo x2).bind λr1=>
  Zoe x0 x1 x2 FU 0 (Y6 r1 1))
def Zk5 (x0:Zj) (x1:Bool) (x2:Int) (x3:Int) (x4:Int)  (vb0:Zj) (vb1:Zo) (v0:Int) (v1:Bool):Option (Zj×Int×Int):=
 if v1=true then (
  some ((Zj.mk vb0.mem vb1),v0,0))
 else (
  some (vb0,0,1))
def Zk1 (x0:Zj) (x1:Bool) (x2:Int) (x3:Int) (x4:Int)  (vb2:Zj) (v2:Int) (v3:Bool):Option (Zj×Int×Int):=
 if v3=true then (
  if x1=true then (
   (Zyu x0.mem x2 x3 x4).bind λr0=>
   some ((Zj.mk r0.1 vb2.dev),x4,0))
  else (
   (Zyv x0.mem x2 x3).bind λr1=>
   some (vb2,r1.1,0)))
 else (
  if decide (v2=3)=true then (
   (Z1h x0.dev x1 (Y6 x2 192) x4).bind λr2=>
   if decide (x3=2)=true then (
    Zk5 x0 x1 x2 x3 x4 vb2 r2.1 r2.2.1 r2.2.2)
   else (
    Zk5 x0 x1 x2 x3 x4 vb2 r2.1 r2.2.1 false))
  else (
   some (vb2,0,1)))
def Ky (x0:Zj) (x1:Bool) (x2:Int) (x3:Int) (x4:Int)  (vb2:Zj) (v4:Bool):Option (Zj×Int×Int):=
 if v4=true then (
  some (vb2,0,1))
 else (
  (Zvm x2).bind λr3=>
  if decide (r3=1)=true then (
   Zk1 x0 x1 x2 x3 x4 vb2 r3 (decide (r3=1)))
  else (
   Zk1 x0 x1 x2 x3 x4 vb2 r3 (decide (r3=2))))
def Zp0 (x0:Zj) (x1:Bool) (x2:Int) (x3:Int) (x4:Int):Option (Zj×Int×Int):=
 (Zto x0).bind λr4=>
 (Zpx x0).bind λr5=>
 if (!r5)=true then (
  Ky x0 x1 x2 x3 x4 r4 true)
 else (
  (Zba x2 x3).bind λr6=>
  if (!r6)=true then (
   Ky x0 x1 x2 x3 x4 r4 true)
  else (
   if x1=true then (
    (Qo x3).bind λr7=>
    (Z5 x4 0 (Y6 r7 1)).bind λr8=>
    Ky x0 x1 x2 x3 x4 r4 (!r8))
   else (
    Ky x0 x1 x2 x3 x4 r4 false)))
def Zny (x0:Zb)  (vb0:Zb) (v0:Bool):Option (Zb×Bool):=
 if v0=true then (
  some (vb0,false))
 else (
  (Zc5 x0).bind λr0=>
  if decide ((Zq vb0.done 1)=r0)=true then (
   (J9 vb0.queue 1 (vb0.queue.length:Int)).bind λs0=>
   some ((Zb.mk s0 0 0 0 false false),true))
  else (
   some ((Zb.mk vb0.queue vb0.beat (Zq vb0.done 1) 0 false vb0.broken),true)))
def Zyk (x0:Zb):Option (Zb×Bool):=
 (Zd8 x0).bind λr1=>
 (Zbm x0).bind λr2=>
 if (!r2)=true then (
  Zny x0 r1 true)
 else (
  Zny x0 r1 (decide (x0.beat=x0.done)))
def Zdx (x0:Za) (x1:Zi)  (vb0:Za) (vb1:Zb) (vb2:Zn):Option Za:=
 (X8 56 vb0.log [vb2]).bind λz0=>
 (Zyk vb1).bind λr0=>
 (idx vb0.m x0.data_.who).bind λa0=>
 (W9 vb0.m x0.data_.who r0.1).bind λy0=>
 if decide (vb0.holder=x0.data_.who)=true then (
  if decide (r0.1.done=0)=true then (
   some {vb0 with m:=y0,holder:=(-1),held:=0,log:=z0})
  else (
   some {vb0 with m:=y0,log:=z0}))
 else (
  some {vb0 with m:=y0,log:=z0})
def Zqn (x0:Za) (x1:Zi):Option Za:=
 (idx x0.m x0.data_.who).bind λa1=>
 if decide (x0.data_.resp=2)=true then (
  (W9 x0.m x0.data_.who {a1 with tries:=(Zq a1.tries 1)}).bind λy1=>
  (Zki {x0 with m:=y1,data_:=Zh.z0} x0.data_).bind λr1=>
  some r1)
 else (
  if decide (x0.data_.resp=3)=true then (
   (W9 x0.m x0.data_.who {a1 with parted:=true}).bind λy2=>
   (Zwc x0.conf x1 x0.picks).bind λr2=>
   (idx x0.splits x0.data_.who).bind λa2=>
   (W9 x0.splits x0.data_.who r2).bind λy3=>
   (Zki {x0 with m:=y2,splits:=y3,data_:=Zh.z0} x0.data_).bind λr3=>
   some r3)
  else (
   (idx a1.queue 0).bind λa3=>
   (Zha a1 x0.data_.beat).bind λr4=>
   if decide (x0.data_.resp=0)=true then (
    (Zmq a3 x0.data_.beat).bind λr5=>
    (Zp0 x0.model a3.write r4 a3.size r5).bind λr6=>
    Zdx x0 x1 {x0 with data_:=Zh.z0,model:=r6.1} a1 (Zn.mk x0.now x0.data_.who a3.write r4 a3.size r6.2.1 x0.data_.resp))
   else (
    Zdx x0 x1 {x0 with data_:=Zh.z0} a1 (Zn.mk x0.now x0.data_.who a3.write r4 a3.size 0 x0.data_.resp))))
def Zyp (x0:Zi) (x1:Int):Option Int:=
 (Zzs x0.says x1).bind λr0=>
 if decide (r0=2)=true then (
  some r0)
 else (
  if decide (r0=3)=true then (
   some r0)
  else (
   some 0))
def Zx7 (x0:Zl) (x1:Zi) (x2:Int):Option Int:=
 (Zzs x1.waits x2).bind λr0=>
 some (Z3h 0 (Zi8 x0.maxWait r0))
def Zex (x0:Za) (x1:Zi)  (vb0:Zh):Option Za:=
 some {x0 with addr:=Zh.z0,data_:=vb0,picks:=(Zq x0.picks 1)}
def Kp (x0:Za) (x1:Zi)  (vb0:Zh) (v0:Bool):Option Za:=
 if v0=true then (
  Zex x0 x1 {vb0 with resp:=3})
 else (
  Zex x0 x1 vb0)
def Zcq (x0:Za) (x1:Zi)  (vb0:Zh) (vb1:Zb) (v1:Int) (v2:Int):Option Za:=
 if (!vb1.broken)=true then (
  if decide (v2=3)=true then (
   if decide (v1=2)=true then (
    if (!vb1.parted)=true then (
     Kp x0 x1 vb0 (decide (x0.holder≠vb0.who)))
    else (
     Kp x0 x1 vb0 false))
   else (
    Kp x0 x1 vb0 false))
  else (
   Kp x0 x1 vb0 false))
 else (
  Kp x0 x1 vb0 false)
def Kn (x0:Za) (x1:Zi)  (vb0:Zh) (vb1:Zb) (v1:Int) (v2:Int) (v3:Bool):Option Za:=
 if v3=true then (
  Zcq x0 x1 {vb0 with resp:=2} vb1 v1 v2)
 else (
  Zcq x0 x1 vb0 vb1 v1 v2)
def Zcl (x0:Za) (x1:Zi)  (vb0:Zh) (vb1:Zb) (v1:Int) (v2:Int):Option Za:=
 if (!vb1.broken)=true then (
  if decide (v2=2)=true then (
   if decide (v1=1)=true then (
    Kn x0 x1 vb0 vb1 v1 v2 (decide (vb1.tries < x0.conf.maxRetry)))
   else (
    if decide (v1=2)=true then (
     Kn x0 x1 vb0 vb1 v1 v2 (decide (vb1.tries < x0.conf.maxRetry)))
    else (
     Kn x0 x1 vb0 vb1 v1 v2 false)))
  else (
   Kn x0 x1 vb0 vb1 v1 v2 false))
 else (
  Kn x0 x1 vb0 vb1 v1 v2 false)
def Zck (x0:Za) (x1:Zi)  (vb0:Zh) (vb1:Zb) (v1:Int) (v2:Int) (v4:Bool):Option Za:=
 if v4=true then (
  Zcl x0 x1 {vb0 with left:=(Zq vb0.left 2)} vb1 v1 v2)
 else (
  Zcl x0 x1 vb0 vb1 v1 v2)
def Zci (x0:Za) (x1:Zi)  (vb0:Zh) (vb1:Zb) (v1:Int) (v2:Int):Option Za:=
 if decide (v1=3)=true then (
  Zck x0 x1 vb0 vb1 v1 v2 (!vb1.broken))
 else (
  Zck x0 x1 vb0 vb1 v1 v2 false)
def Zcf (x0:Za) (x1:Zi)  (vb2:Zb) (vb3:Zf) (v5:Int) (v1:Int) (v2:Int) (v6:Bool):Option Za:=
 if v6=true then (
  Zci x0 x1 {x0.addr with resp:=1} vb2 v1 v2)
 else (
  (Zx7 x0.conf x1 x0.picks).bind λr0=>
  (Zmq vb3 x0.addr.beat).bind λr1=>
  (Zp0 x0.model vb3.write v5 vb3.size r1).bind λr2=>
  Zci x0 x1 {x0.addr with left:=r0,resp:=r2.2.2} vb2 v1 v2)
def Ztc (x0:Za) (x1:Zi):Option Za:=
 if (!x0.addr.live)=true then (
  some {x0 with addr:=Zh.z0})
 else (
  (idx x0.m x0.addr.who).bind λa0=>
  (idx a0.queue 0).bind λa1=>
  (Zha a0 x0.addr.beat).bind λr3=>
  (Zvm r3).bind λr4=>
  (Zyp x1 x0.picks).bind λr5=>
  if a0.broken=true then (
   Zcf x0 x1 a0 a1 r3 r4 r5 true)
  else (
   Zcf x0 x1 a0 a1 r3 r4 r5 (decide (r4=0))))
def Znc (x0:Zb):Option Bool:=
 (Zbm x0).bind λr0=>
 if r0=true then (
  (Zc5 x0).bind λr1=>
  some (decide (x0.beat < r1)))
 else (
  some false)
def Zc8 (x0:Zc) (x1:Zd)  (v0:Bool):Option (Zc×Bool):=
 if v0=true then (
  some (x0,false))
 else (
  some ((Zc.mk (Y6 x0.tokens 1) x0.count),true))
def Zov (x0:Zc) (x1:Zd):Option (Zc×Bool):=
 if (!x1.prio)=true then (
  Zc8 x0 x1 true)
 else (
  (Zeu x0 x1).bind λr0=>
  if (!r0)=true then (
   Zc8 x0 x1 true)
  else (
   Zc8 x0 x1 (decide (x0.tokens=0))))
def Zi4 (x0:Zb)  (vb0:Zb) (v0:Bool):Option (Zb×Bool):=
 if v0=true then (
  some (vb0,false))
 else (
  some ({vb0 with beat:=(Zq vb0.beat 1)},true))
def Ztk (x0:Zb):Option (Zb×Bool):=
 (Zd8 x0).bind λr0=>
 (Znc x0).bind λr1=>
 if (!r1)=true then (
  Zi4 x0 r0 true)
 else (
  Zi4 x0 r0 (decide (x0.beat=(Zq x0.done 2))))
def Zqz (x0:Z2) (x1:Zl) (x2:List Bool)  (k:Int->Option (Z2×Int)) (v0:Int):Option (Z2×Int):=
 if decide (v0<=(x2.length:Int))=true then (
  (nzI (x2.length:Int)).bind λn0=>
  (idx x2 (Zam (Zq x0.at_ v0) (x2.length:Int))).bind λa0=>
  if a0=true then (
   (Zi3 x1 (Zam (Zq x0.at_ v0) (x2.length:Int))).bind λr0=>
   some ((Z2.mk (Zam (Zq x0.at_ v0) (x2.length:Int)) (Y6 r0 1)),(Zam (Zq x0.at_ v0) (x2.length:Int))))
  else (
   k (Zq v0 1)))
 else (
  some ((Z2.mk x0.at_ 0),(-1)))
def Zln (x0:Z2) (x1:Zl) (x2:List Bool)  : Nat->Int->Option (Z2×Int)
 | 0,_=>none
 | m+1,v0=>Zqz x0 x1 x2  (Zln x0 x1 x2  m) v0
def Zk4 (x0:Z2) (x1:Zl) (x2:List Bool)  (v1:Bool):Option (Z2×Int):=
 if v1=true then (
  some ((Z2.mk x0.at_ (Y6 x0.credit 1)),x0.at_))
 else (
  Zln x0 x1 x2 FU 1)
def Zl1 (x0:Z2) (x1:Zl) (x2:List Bool)  (v2:Bool):Option (Z2×Int):=
 if v2=true then (
  some (x0,(-1)))
 else (
  if decide (x0.credit > 0)=true then (
   (idx x2 x0.at_).bind λa1=>
   Zk4 x0 x1 x2 a1)
  else (
   Zk4 x0 x1 x2 false))
def Zwf (x0:Z2) (x1:Zl) (x2:List Bool):Option (Z2×Int):=
 (Zrh x0 x1).bind λr1=>
 if (!r1)=true then (
  Zl1 x0 x1 x2 true)
 else (
  Zl1 x0 x1 x2 (decide ((x2.length:Int)≠(x1.masters.length:Int))))
def Zi5 (x0:Za) (k_L2:Za->Zh->(List Bool)->Int->Option Za) (vb0:Za) (vb1:Zh) (v0:List Bool) (v1:Int) (v2:Bool):Option Za:=
 if v2=true then (
  (idx vb0.buckets v1).bind λa0=>
  (idx vb0.conf.masters v1).bind λa1=>
  (Zov a0 a1).bind λr0=>
  (W9 vb0.buckets v1 r0.1).bind λy0=>
  k_L2 {vb0 with buckets:=y0} (Zh.mk false v1 0 false 1 0 0 false) v0 (Zq v1 1))
 else (
  k_L2 vb0 vb1 v0 (Zq v1 1))
def Zhf (x0:Za)  (vb0:Za) (vb1:Zh) (vb2:Zb):Option Za:=
 (Ztk vb2).bind λr1=>
 (idx vb0.m vb1.who).bind λa2=>
 (W9 vb0.m vb1.who r1.1).bind λy1=>
 some {vb0 with m:=y1,last:=vb1.who,addr:=vb1}
def Zdu (x0:Za)  (vb0:Za) (vb1:Zh) (vb2:Zb) (v3:Bool):Option Za:=
 if v3=true then (
  Zhf x0 {vb0 with holder:=vb1.who,held:=0} vb1 vb2)
 else (
  Zhf x0 vb0 vb1 vb2)
def Ze8 (x0:Za)  (vb0:Za) (vb1:Zh) (vb2:Zb):Option Za:=
 (idx vb2.queue 0).bind λa3=>
 if a3.lock=true then (
  if (!vb2.broken)=true then (
   Zdu x0 vb0 vb1 vb2 (decide (vb0.holder < 0)))
  else (
   Zdu x0 vb0 vb1 vb2 false))
 else (
  Zdu x0 vb0 vb1 vb2 false)
def Jg (x0:Za)  (vb0:Za) (vb1:Zh):Option Za:=
 if decide (vb1.who < 0)=true then (
  some vb0)
 else (
  (idx vb0.m vb1.who).bind λa4=>
  if decide (a4.beat=0)=true then (
   Ze8 x0 vb0 {vb1 with live:=true,beat:=a4.beat,first:=true} a4)
  else (
   Ze8 x0 vb0 {vb1 with live:=true,beat:=a4.beat,first:=(decide (vb0.last≠vb1.who))} a4))
def Zfb (x0:Za)  (vb0:Za) (vb1:Zh) (v0:List Bool) (v4:Bool):Option Za:=
 if v4=true then (
  (Zwf vb0.arb vb0.conf v0).bind λr2=>
  Jg x0 {vb0 with arb:=r2.1} {vb1 with who:=r2.2,by_:=2})
 else (
  Jg x0 vb0 vb1)
def Zch (x0:Za) (k_L2:Za->Zh->(List Bool)->Int->Option Za) (vb0:Za) (vb1:Zh) (v0:List Bool) (v1:Int) (v5:Bool):Option Za:=
 if v5=true then (
  (idx v0 v1).bind λa5=>
  if a5=true then (
   (idx vb0.buckets v1).bind λa6=>
   Zi5 x0 k_L2 vb0 vb1 v0 v1 (decide (a6.tokens > 0)))
  else (
   Zi5 x0 k_L2 vb0 vb1 v0 v1 false))
 else (
  if decide (vb1.who < 0)=true then (
   Zfb x0 vb0 vb1 v0 (decide (vb0.holder < 0)))
  else (
   Zfb x0 vb0 vb1 v0 false))
def Jy (x0:Za)  (k:Za->Zh->(List Bool)->Int->Option Za) (vb0:Za) (vb1:Zh) (v0:List Bool) (v1:Int):Option Za:=
 if decide (v1 < (vb0.m.length:Int))=true then (
  Zch x0 k vb0 vb1 v0 v1 (decide (vb1.who < 0)))
 else (
  Zch x0 k vb0 vb1 v0 v1 false)
def Zap (x0:Za)  : Nat->Za->Zh->(List Bool)->Int->Option Za
 | 0,_,_,_,_=>none
 | m+1,vb0,vb1,v0,v1=>Jy x0  (Zap x0  m) vb0 vb1 v0 v1
def Zji (x0:Za)  (vb1:Zh) (v0:List Bool):Option Za:=
 Zap x0 FU x0 vb1 v0 0
def Zjp (x0:Za)  (v0:List Bool) (v6:Bool):Option Za:=
 if v6=true then (
  Zji x0 (Zh.mk false x0.holder 0 false 3 0 0 false) v0)
 else (
  Zji x0 (Zh.mk false (-1) 0 false 0 0 0 false) v0)
def Zhi (x0:Za)  (k:(List Bool)->Int->Option Za) (v0:List Bool) (v7:Int):Option Za:=
 if decide (v7 < (x0.m.length:Int))=true then (
  (idx x0.m v7).bind λa7=>
  (Znc a7).bind λr3=>
  if r3=true then (
   (idx x0.splits v7).bind λa8=>
   if decide (a8=0)=true then (
    if decide (x0.holder < 0)=true then (
     (X8 1 v0 [true]).bind λz0=>
     k z0 (Zq v7 1))
    else (
     (X8 1 v0 [decide (x0.holder=v7)]).bind λz0=>
     k z0 (Zq v7 1)))
   else (
    (X8 1 v0 [false]).bind λz0=>
    k z0 (Zq v7 1)))
  else (
   (X8 1 v0 [false]).bind λz0=>
   k z0 (Zq v7 1)))
 else (
  if decide (x0.holder≥0)=true then (
   (idx v0 x0.holder).bind λa9=>
   Zjp x0 v0 a9)
  else (
   Zjp x0 v0 false))
def Zjj (x0:Za)  : Nat->(List Bool)->Int->Option Za
 | 0,_,_=>none
 | m+1,v0,v7=>Zhi x0  (Zjj x0  m) v0 v7
def Zsn (x0:Za):Option Za:=
 Zjj x0 FU [] 0
def Zdg (x0:Za) (x1:Zi)  (vb0:Za) (vb1:Zg):Option (Za×Zg):=
 some ({vb0 with now:=(Zq vb0.now 1)},vb1)
def Zdm (x0:Za) (x1:Zi)  (vb0:Za) (vb2:Zg):Option (Za×Zg):=
 (Ztc vb0 x1).bind λr0=>
 (Zsn r0).bind λr1=>
 if r1.addr.live=true then (
  Zdg x0 x1 r1 {vb2 with got:=r1.addr.who})
 else (
  Zdg x0 x1 r1 vb2)
def J3 (x0:Za) (x1:Zi)  (vb0:Za) (vb2:Zg) (v0:Bool):Option (Za×Zg):=
 if v0=true then (
  (idx vb0.m vb0.holder).bind λa0=>
  (W9 vb0.m vb0.holder {a0 with broken:=true}).bind λy0=>
  Zdm x0 x1 {vb0 with m:=y0,holder:=(-1),held:=0} vb2)
 else (
  Zdm x0 x1 vb0 vb2)
def Q6 (x0:Za) (x1:Zi)  (vb0:Za) (vb2:Zg):Option (Za×Zg):=
 if vb2.ready=true then (
  if decide (vb0.holder≥0)=true then (
   J3 x0 x1 vb0 vb2 (decide (vb0.held≥vb0.conf.lockMost)))
  else (
   J3 x0 x1 vb0 vb2 false))
 else (
  Zdg x0 x1 vb0 vb2)
def J2 (x0:Za) (x1:Zi)  (vb0:Za) (vb2:Zg) (v1:Bool):Option (Za×Zg):=
 if v1=true then (
  if vb0.addr.live=true then (
   (Zki {vb0 with addr:=Zh.z0,data_:={vb0.data_ with second:=true}} vb0.addr).bind λr2=>
   Q6 x0 x1 r2 {vb2 with ready:=false,resp:=vb0.data_.resp})
  else (
   Q6 x0 x1 {vb0 with data_:={vb0.data_ with second:=true}} {vb2 with ready:=false,resp:=vb0.data_.resp}))
 else (
  if vb0.data_.live=true then (
   (Zqn vb0 x1).bind λr3=>
   Q6 x0 x1 r3 {vb2 with resp:=vb0.data_.resp})
  else (
   Q6 x0 x1 vb0 vb2))
def Zk2 (x0:Za) (x1:Zi)  (vb0:Za) (vb2:Zg) (v2:Bool):Option (Za×Zg):=
 if v2=true then (
  Q6 x0 x1 {vb0 with data_:={vb0.data_ with left:=(Y6 vb0.data_.left 1)}} {vb2 with ready:=false})
 else (
  if vb0.data_.live=true then (
   if decide (vb0.data_.resp≠0)=true then (
    J2 x0 x1 vb0 vb2 (!vb0.data_.second))
   else (
    J2 x0 x1 vb0 vb2 false))
  else (
   J2 x0 x1 vb0 vb2 false))
def J4 (x0:Za) (x1:Zi)  (vb0:Za) (vb2:Zg):Option (Za×Zg):=
 if vb0.data_.live=true then (
  Zk2 x0 x1 vb0 vb2 (decide (vb0.data_.left > 0)))
 else (
  Zk2 x0 x1 vb0 vb2 false)
def Zjk (x0:Za) (x1:Zi)  (k:Za->Zg->Int->Option (Za×Zg)) (vb0:Za) (vb2:Zg) (v3:Int):Option (Za×Zg):=
 if decide (v3 < (vb0.m.length:Int))=true then (
  (idx vb0.splits v3).bind λa1=>
  (W9 vb0.splits v3 (Z3h 0 (Y6 a1 1))).bind λy1=>
  (idx vb0.buckets v3).bind λa2=>
  (idx vb0.conf.masters v3).bind λa3=>
  (Zn1 a2 a3).bind λr4=>
  (W9 vb0.buckets v3 r4).bind λy2=>
  k {vb0 with buckets:=y2,splits:=y1} vb2 (Zq v3 1))
 else (
  if decide (vb0.holder≥0)=true then (
   J4 x0 x1 {vb0 with held:=(Zi8 vb0.conf.lockMost (Zq vb0.held 1))} vb2)
  else (
   J4 x0 x1 vb0 vb2))
def Zbt (x0:Za) (x1:Zi)  : Nat->Za->Zg->Int->Option (Za×Zg)
 | 0,_,_,_=>none
 | m+1,vb0,vb2,v3=>Zjk x0 x1  (Zbt x0 x1  m) vb0 vb2 v3
def Zjd (x0:Za) (x1:Zi)  (k:Za->Zg->(List Zm)->Int->Option (Za×Zg)) (vb0:Za) (vb2:Zg) (v4:List Zm) (v5:Int):Option (Za×Zg):=
 if decide (v5 < (v4.length:Int))=true then (
  (idx v4 v5).bind λa4=>
  (Z5 a4.who 0 (Y6 (vb0.m.length:Int) 1)).bind λr5=>
  if r5=true then (
   (idx vb0.m a4.who).bind λa5=>
   (Zwe a5 a4.req).bind λr6=>
   (W9 vb0.m a4.who r6.1).bind λy3=>
   k {vb0 with m:=y3} vb2 v4 (Zq v5 1))
  else (
   k vb0 vb2 v4 (Zq v5 1)))
 else (
  Zbt x0 x1 FU vb0 vb2 0)
def Zgr (x0:Za) (x1:Zi)  : Nat->Za->Zg->(List Zm)->Int->Option (Za×Zg)
 | 0,_,_,_,_=>none
 | m+1,vb0,vb2,v4,v5=>Zjd x0 x1  (Zgr x0 x1  m) vb0 vb2 v4 v5
def Zvj (x0:Za) (x1:Zi):Option (Za×Zg):=
 (Zp2 x0).bind λr7=>
 (Zvp r7).bind λr8=>
 (Zvc x1 r7.now).bind λr9=>
 Zgr x0 x1 FU r7 r8 r9 0
def Zlh (x0:Za) (x1:Zi) (x2:Int)  (k:Za->(List Zg)->Int->Option (Za×List Zg)) (vb0:Za) (v0:List Zg) (v1:Int):Option (Za×List Zg):=
 if decide (v1 < x2)=true then (
  (Zvj vb0 x1).bind λr0=>
  (X8 72 v0 [r0.2]).bind λz0=>
  k r0.1 z0 (Zq v1 1))
 else (
  some (vb0,v0))
def Zoq (x0:Za) (x1:Zi) (x2:Int)  : Nat->Za->(List Zg)->Int->Option (Za×List Zg)
 | 0,_,_,_=>none
 | m+1,vb0,v0,v1=>Zlh x0 x1 x2  (Zoq x0 x1 x2  m) vb0 v0 v1
def Zo5 (x0:Za) (x1:Zi) (x2:Int)  (vb0:Za) (v2:Bool):Option (Za×List Zg):=
 if v2=true then (
  some (vb0,[]))
 else (
  Zoq x0 x1 x2 FU vb0 [] 0)
def Zy0 (x0:Za) (x1:Zi) (x2:Int):Option (Za×List Zg):=
 (Zp2 x0).bind λr1=>
 (Zma x0).bind λr2=>
 if (!r2)=true then (
  Zo5 x0 x1 x2 r1 true)
 else (
  (Z5 x2 0 (Y6 4000 x0.now)).bind λr3=>
  Zo5 x0 x1 x2 r1 (!r3))
def Yu (x0:Int) (x1:Int) (x2:Int):Option Bool:=
 if decide (x1<=x0)=true then (
  some (decide (x0<=x2)))
 else (
  some false)
def Zuw (x0:Zl)  (v0:Bool):Option Int:=
 if v0=true then (
  some 0)
 else (
  some (Jr (Zq x0.maxRetry 2) (Zq x0.maxWait 6)))
def Ztj (x0:Zl):Option Int:=
 (Yu x0.maxRetry 0 3).bind λr0=>
 if (!r0)=true then (
  Zuw x0 true)
 else (
  (Yu x0.maxWait 0 3).bind λr1=>
  Zuw x0 (!r1))
def Zt8 (x0:Zl):Option Int:=
 (Ztj x0).bind λr0=>
 if decide (r0=0)=true then (
  some 0)
 else (
  (Yu x0.lockMost 1 40).bind λr1=>
  if (!r1)=true then (
   some 0)
  else (
   (Ztj x0).bind λr2=>
   some (Zq (Jr 2 r2) x0.lockMost)))
def Zu3 (x0:Zl)  (k:Int->Int->Option Int) (v0:Int) (v1:Int):Option Int:=
 if decide (v1 < (x0.masters.length:Int))=true then (
  (idx x0.masters v1).bind λa0=>
  if a0.prio=true then (
   k (Zq v0 1) (Zq v1 1))
  else (
   k v0 (Zq v1 1)))
 else (
  some v0)
def Zqf (x0:Zl)  : Nat->Int->Int->Option Int
 | 0,_,_=>none
 | m+1,v0,v1=>Zu3 x0  (Zqf x0  m) v0 v1
def Z1o (x0:Zl):Option Int:=
 Zqf x0 FU 0 0
def Zof (x0:Zl):Option Int:=
 (Zt8 x0).bind λr0=>
 (Z1o x0).bind λr1=>
 some (Jr (Jr 2 r0) r1)
def Zsr (x0:Zd) (x1:Zl):Option Bool:=
 (Yu x0.weight 1 4).bind λr0=>
 if (!r0)=true then (
  some true)
 else (
  if x0.prio=true then (
   (Zof x1).bind λr1=>
   (Yu x0.every r1 1000).bind λr2=>
   if (!r2)=true then (
    some true)
   else (
    (Yu x0.cap 1 8).bind λr3=>
    some (!r3)))
  else (
   if decide (x0.every≠0)=true then (
    some true)
   else (
    some (decide (x0.cap≠0)))))
def Qc (x0:List Zd) (x1c0:Zl)  (k:Int->Option Int) (v0:Int):Option Int:=
 if decide (v0 < (x0.length:Int))=true then (
  (idx x0 v0).bind λa0=>
  (Zsr a0 x1c0).bind λr0=>
  if r0=true then (
   some v0)
  else (
   k (Zq v0 1)))
 else (
  some (-1))
def Y2 (x0:List Zd) (x1c0:Zl)  : Nat->Int->Option Int
 | 0,_=>none
 | m+1,v0=>Qc x0 x1c0  (Y2 x0 x1c0  m) v0
def Q3 (x0:List Zd) (x1c0:Zl):Option Int:=
 Y2 x0 x1c0 FU 0
def X9 (x0:List Zd) (x1c0:Zl):Option Bool:=
 (Q3 x0 x1c0).bind λr0=>
 some (decide (r0≥0))
def Znz (x0:Zl):Option Bool:=
 (Yu (x0.masters.length:Int) 1 4).bind λr0=>
 if (!r0)=true then (
  some false)
 else (
  (Yu x0.quantum 1 4).bind λr1=>
  if (!r1)=true then (
   some false)
  else (
   (Yu x0.maxSplit 1 12).bind λr2=>
   if (!r2)=true then (
    some false)
   else (
    (Zt8 x0).bind λr3=>
    if decide (r3=0)=true then (
     some false)
    else (
     (X9 x0.masters x0).bind λr4=>
     some (!r4)))))
def Zai (x0:List Zd):Option (List Zd):=X8 32 [] x0
def Zvd (x0:Zl):Option Zl:=
 (Zai x0.masters).bind λr0=>
 some {x0 with masters:=r0}
def Zg2 (x0:Int):Option Int:=
 (Yu x0 0 3).bind λr0=>
 if (!r0)=true then (
  some 0)
 else (
  (idx [1,4,4,8] x0).bind λa0=>
  some a0)
def Zab (x0:Int):Option Int:=
 (Yu x0 0 2).bind λr0=>
 if (!r0)=true then (
  some 0)
 else (
  (nnI x0).bind λn0=>
  some (Yev 1 x0))
def Zg9 (x0:Int) (x1:Int):Option Bool:=
 (Yu x1 0 2).bind λr0=>
 if r0=true then (
  if decide (x0≥0)=true then (
   (Zab x1).bind λr1=>
   (nzI r1).bind λn0=>
   some (decide ((Zam x0 r1)=0)))
  else (
   some false))
 else (
  some false)
def Ze5 (x0:Int) (x1:Int) (x2:Int)  (v0:Bool):Option Int:=
 if v0=true then (
  some (-1))
 else (
  (Zab x1).bind λr0=>
  (Zab x1).bind λr1=>
  if decide (x2=2)=true then (
   (nzI (Jr 4 r1)).bind λn0=>
   if decide ((Zam (Zq x0 r0) (Jr 4 r1))=0)=true then (
    some (Y6 (Zq x0 r0) (Jr 4 r1)))
   else (
    some (Zq x0 r0)))
  else (
   some (Zq x0 r0)))
def Zsi (x0:Int) (x1:Int) (x2:Int):Option Int:=
 (Zg9 x0 x1).bind λr2=>
 if (!r2)=true then (
  Ze5 x0 x1 x2 true)
 else (
  if decide (x0≥512)=true then (
   Ze5 x0 x1 x2 true)
  else (
   (Zg2 x2).bind λr3=>
   Ze5 x0 x1 x2 (decide (r3=0))))
def Zcc (x0:Int) (x1:Int) (x2:Int)  (k:Int->(List Int)->Int->Int->Option (List Int)) (v0:Int) (v1:List Int) (v2:Int) (v3:Int):Option (List Int):=
 if decide (v3 < v2)=true then (
  (Zsi v0 x1 x2).bind λr0=>
  if decide (r0 < 0)=true then (
   some [])
  else (
   (X8 8 v1 [v0]).bind λz0=>
   k r0 z0 v2 (Zq v3 1)))
 else (
  some v1)
def Zf4 (x0:Int) (x1:Int) (x2:Int)  : Nat->Int->(List Int)->Int->Int->Option (List Int)
 | 0,_,_,_,_=>none
 | m+1,v0,v1,v2,v3=>Zcc x0 x1 x2  (Zf4 x0 x1 x2  m) v0 v1 v2 v3
def Zhz (x0:Int) (x1:Int) (x2:Int):Option (List Int):=
 (Zg2 x2).bind λr1=>
 Zf4 x0 x1 x2 FU x0 [] r1 0
def Zrd (x0:Int) (x1:Int) (x2:Int)  (k:(List Int)->Int->Int->Option Bool) (v0:List Int) (v1:Int) (v2:Int):Option Bool:=
 if decide (v2 < v1)=true then (
  (idx v0 v2).bind λa0=>
  (idx v0 0).bind λa1=>
  if decide ((Ztv a0 64)≠(Ztv a1 64))=true then (
   some false)
  else (
   k v0 v1 (Zq v2 1)))
 else (
  some (decide ((v0.length:Int) > 0)))
def Zks (x0:Int) (x1:Int) (x2:Int)  : Nat->(List Int)->Int->Int->Option Bool
 | 0,_,_,_=>none
 | m+1,v0,v1,v2=>Zrd x0 x1 x2  (Zks x0 x1 x2  m) v0 v1 v2
def Zvi (x0:Int) (x1:Int) (x2:Int):Option Bool:=
 (Zhz x0 x1 x2).bind λr0=>
 Zks x0 x1 x2 FU r0 (r0.length:Int) 0
def Zp3 (x0:Int):Option Int:=
 (Zab x0).bind λr0=>
 if decide (r0=0)=true then (
  some 0)
 else (
  (Zab x0).bind λr1=>
  (nnI (Jr 8 r1)).bind λn0=>
  some (Yev 1 (Jr 8 r1)))
def Zd9 (x0:Int) (x1:Int):Option Bool:=
 (Zp3 x1).bind λr0=>
 (Yu x0 0 (Y6 r0 1)).bind λr1=>
 some r1
def Zv5 (x0:Int) (x1:Zf):Option Bool:=
 (Zd9 x0 x1.size).bind λr0=>
 some (!r0)
def Zie (x0:List Int) (x1c0:Zf)  (k:Int->Option Int) (v0:Int):Option Int:=
 if decide (v0 < (x0.length:Int))=true then (
  (idx x0 v0).bind λa0=>
  (Zv5 a0 x1c0).bind λr0=>
  if r0=true then (
   some v0)
  else (
   k (Zq v0 1)))
 else (
  some (-1))
def Q9 (x0:List Int) (x1c0:Zf)  : Nat->Int->Option Int
 | 0,_=>none
 | m+1,v0=>Zie x0 x1c0  (Q9 x0 x1c0  m) v0
def K6 (x0:List Int) (x1c0:Zf):Option Int:=
 Q9 x0 x1c0 FU 0
def Wu (x0:List Int) (x1c0:Zf):Option Bool:=
 (K6 x0 x1c0).bind λr0=>
 some (decide (r0≥0))
def Zqk (x0:Zf)  (v0:Int):Option Bool:=
 (Zvi x0.addr x0.size x0.burst).bind λr0=>
 if r0=true then (
  if decide ((x0.data_.length:Int)=v0)=true then (
   (Wu x0.data_ x0).bind λr1=>
   some (!r1))
  else (
   some false))
 else (
  some false)
def Zww (x0:Zf):Option Bool:=
 if x0.write=true then (
  (Zg2 x0.burst).bind λr2=>
  Zqk x0 r2)
 else (
  Zqk x0 0)
def Xf (x0:List Int):Option (List Int):=X8 8 [] x0
def Zjg (x0:Zf):Option Zf:=
 (Xf x0.data_).bind λr0=>
 some {x0 with data_:=r0}
def Yhd (x0:Zb)  (k:(List Zf)->Int->Option Zb) (v0:List Zf) (v1:Int):Option Zb:=
 if decide (v1 < (x0.queue.length:Int))=true then (
  (idx x0.queue v1).bind λa0=>
  (Zjg a0).bind λr0=>
  (X8 64 v0 [r0]).bind λz0=>
  k z0 (Zq v1 1))
 else (
  some {x0 with queue:=v0})
def Znx (x0:Zb)  : Nat->(List Zf)->Int->Option Zb
 | 0,_,_=>none
 | m+1,v0,v1=>Yhd x0  (Znx x0  m) v0 v1
def Zfz (x0:Zb):Option Zb:=
 Znx x0 FU [] 0
def Js (x0:List Zc):Option (List Zc):=X8 16 [] x0
def Zsu (x0:Zo):Option Zo:=
 (Xf x0.regs).bind λr0=>
 (Xf x0.fifo).bind λr1=>
 some (Zo.mk r0 x0.timer r1)
def Zh5 (x0:Zj):Option Zj:=
 (Xf x0.mem).bind λr0=>
 (Zsu x0.dev).bind λr1=>
 some (Zj.mk r0 r1)
def Zbb (x0:List Zn):Option (List Zn):=X8 56 [] x0
def Zkt (x0:Za)  (k:Za->(List Zb)->Int->Option Za) (vb0:Za) (v0:List Zb) (v1:Int):Option Za:=
 if decide (v1 < (x0.m.length:Int))=true then (
  (idx x0.m v1).bind λa0=>
  (Zfz a0).bind λr0=>
  (X8 56 v0 [r0]).bind λz0=>
  k vb0 z0 (Zq v1 1))
 else (
  (Js vb0.buckets).bind λr1=>
  (Xf vb0.splits).bind λr2=>
  (Zh5 vb0.model).bind λr3=>
  (Zbb vb0.log).bind λr4=>
  some {vb0 with m:=v0,buckets:=r1,splits:=r2,model:=r3,log:=r4})
def Zhv (x0:Za)  : Nat->Za->(List Zb)->Int->Option Za
 | 0,_,_,_=>none
 | m+1,vb0,v0,v1=>Zkt x0  (Zhv x0  m) vb0 v0 v1
def Ztl (x0:Za):Option Za:=
 (Zvd x0.conf).bind λr5=>
 Zhv x0 FU {x0 with conf:=r5} [] 0
def Zgm (x0:Zf):Option Bool:=
 (Zww x0).bind λr0=>
 some (!r0)
def Zel (x0:List Zf)  (k:Int->Option Int) (v0:Int):Option Int:=
 if decide (v0 < (x0.length:Int))=true then (
  (idx x0 v0).bind λa0=>
  (Zgm a0).bind λr0=>
  if r0=true then (
   some v0)
  else (
   k (Zq v0 1)))
 else (
  some (-1))
def W4 (x0:List Zf)  : Nat->Int->Option Int
 | 0,_=>none
 | m+1,v0=>Zel x0  (W4 x0  m) v0
def Qt (x0:List Zf):Option Int:=
 W4 x0 FU 0
def X2 (x0:List Zf):Option Bool:=
 (Qt x0).bind λr0=>
 some (decide (r0≥0))
def Zb0 (x0:Zb):Option Int:=
 if decide ((x0.queue.length:Int)=0)=true then (
  some 0)
 else (
  (idx x0.queue 0).bind λa0=>
  (Zg2 a0.burst).bind λr0=>
  some r0)
def Wt (x0:Zb)  (v0:Bool):Option Bool:=
 if v0=true then (
  some false)
 else (
  if decide ((x0.queue.length:Int)=0)=true then (
   if decide (x0.beat=0)=true then (
    if decide (x0.done=0)=true then (
     if decide (x0.tries=0)=true then (
      if (!x0.parted)=true then (
       some (!x0.broken))
      else (
       some false))
     else (
      some false))
    else (
     some false))
   else (
    some false))
  else (
   (Zb0 x0).bind λr0=>
   (Yu x0.done 0 (Y6 r0 1)).bind λr1=>
   if r1=true then (
    (Zb0 x0).bind λr2=>
    (Yu x0.beat x0.done (Zi8 (Zq x0.done 2) r2)).bind λr3=>
    some r3)
   else (
    some false)))
def Kk (x0:Zb):Option Bool:=
 if decide ((x0.queue.length:Int) > 4)=true then (
  Wt x0 true)
 else (
  if decide (x0.tries < 0)=true then (
   Wt x0 true)
  else (
   (X2 x0.queue).bind λr4=>
   Wt x0 r4))
def Znn (x0:Zc) (x1:Zd):Option Bool:=
 if (!x1.prio)=true then (
  some (decide (x0.tokens=0)&&(decide (x0.count=0)&&true)))
 else (
  (Yu x0.tokens 0 x1.cap).bind λr0=>
  if r0=true then (
   if decide (x0.count≥0)=true then (
    some (decide (x0.count < x1.every)))
   else (
    some false))
  else (
   some false))
def Zb6 (x0:Za)  (k:Int->Option Bool) (v0:Int):Option Bool:=
 if decide (v0 < (x0.m.length:Int))=true then (
  (idx x0.m v0).bind λa0=>
  (Kk a0).bind λr0=>
  if (!r0)=true then (
   some false)
  else (
   if decide (a0.tries > x0.conf.maxRetry)=true then (
    some false)
   else (
    (idx x0.buckets v0).bind λa1=>
    (idx x0.conf.masters v0).bind λa2=>
    (Znn a1 a2).bind λr1=>
    if (!r1)=true then (
     some false)
    else (
     (idx x0.splits v0).bind λa3=>
     (Yu a3 0 x0.conf.maxSplit).bind λr2=>
     if (!r2)=true then (
      some false)
     else (
      k (Zq v0 1))))))
 else (
  some true)
def Zg1 (x0:Za)  : Nat->Int->Option Bool
 | 0,_=>none
 | m+1,v0=>Zb6 x0  (Zg1 x0  m) v0
def Qs (x0:Za)  (v1:Bool):Option Bool:=
 if v1=true then (
  some false)
 else (
  Zg1 x0 FU 0)
def Zgd (x0:Za):Option Bool:=
 if decide ((x0.m.length:Int)≠(x0.conf.masters.length:Int))=true then (
  Qs x0 true)
 else (
  if decide ((x0.buckets.length:Int)≠(x0.conf.masters.length:Int))=true then (
   Qs x0 true)
  else (
   Qs x0 (decide ((x0.splits.length:Int)≠(x0.conf.masters.length:Int)))))
def Jf (x0:Zl) (x1:Int):Option Bool:=
 (Yu x1 0 (Y6 (x0.masters.length:Int) 1)).bind λr0=>
 some r0
def Zuy (x0:Zl) (x1:Int)  (v0:Bool):Option Int:=
 if v0=true then (
  some 0)
 else (
  (idx x0.masters x1).bind λa0=>
  some (Jr a0.weight x0.quantum))
def Zok (x0:Zl) (x1:Int):Option Int:=
 (Znz x0).bind λr0=>
 if (!r0)=true then (
  Zuy x0 x1 true)
 else (
  (Jf x0 x1).bind λr1=>
  Zuy x0 x1 (!r1))
def Znr (x0:Z2) (x1:Zl):Option Bool:=
 (Znz x1).bind λr0=>
 if r0=true then (
  (Jf x1 x0.at_).bind λr1=>
  if r1=true then (
   (Zok x1 x0.at_).bind λr2=>
   (Yu x0.credit 0 r2).bind λr3=>
   some r3)
  else (
   some false))
 else (
  some false)
def Zya (x0:Int):Option Bool:=
 (Yu x0 0 255).bind λr0=>
 some (!r0)
def Zim (x0:List Int)  (k:Int->Option Int) (v0:Int):Option Int:=
 if decide (v0 < (x0.length:Int))=true then (
  (idx x0 v0).bind λa0=>
  (Zya a0).bind λr0=>
  if r0=true then (
   some v0)
  else (
   k (Zq v0 1)))
 else (
  some (-1))
def Kl (x0:List Int)  : Nat->Int->Option Int
 | 0,_=>none
 | m+1,v0=>Zim x0  (Kl x0  m) v0
def Jc (x0:List Int):Option Int:=
 Kl x0 FU 0
def W0 (x0:List Int):Option Bool:=
 (Jc x0).bind λr0=>
 some (decide (r0≥0))
def Zuu (x0:List Int) (x1:Int) (x2:Int):Option Bool:=
 if decide ((x0.length:Int)<=512)=true then (
  (W0 x0).bind λr0=>
  if (!r0)=true then (
   (Zg9 x1 x2).bind λr1=>
   if r1=true then (
    (Zab x2).bind λr2=>
    some (decide (x1<=(Y6 (x0.length:Int) r2))))
   else (
    some false))
  else (
   some false))
 else (
  some false)
def Zve (x0:Int):Option Bool:=
 (Zd9 x0 2).bind λr0=>
 some (!r0)
def Zid (x0:List Int)  (k:Int->Option Int) (v0:Int):Option Int:=
 if decide (v0 < (x0.length:Int))=true then (
  (idx x0 v0).bind λa0=>
  (Zve a0).bind λr0=>
  if r0=true then (
   some v0)
  else (
   k (Zq v0 1)))
 else (
  some (-1))
def Q8 (x0:List Int)  : Nat->Int->Option Int
 | 0,_=>none
 | m+1,v0=>Zid x0  (Q8 x0  m) v0
def K5 (x0:List Int):Option Int:=
 Q8 x0 FU 0
def X1 (x0:List Int):Option Bool:=
 (K5 x0).bind λr0=>
 some (decide (r0≥0))
def Zw7 (x0:Zo):Option Bool:=
 if decide ((x0.regs.length:Int)=4)=true then (
  if decide ((x0.fifo.length:Int)<=4)=true then (
   (X1 x0.regs).bind λr0=>
   if (!r0)=true then (
    (X1 x0.fifo).bind λr1=>
    if (!r1)=true then (
     (Zd9 x0.timer 2).bind λr2=>
     some r2)
    else (
     some false))
   else (
    some false))
  else (
   some false))
 else (
  some false)
def Zgz (x0:Zj):Option Bool:=
 if decide ((x0.mem.length:Int)=192)=true then (
  (Zuu x0.mem 0 0).bind λr0=>
  if r0=true then (
   (Zw7 x0.dev).bind λr1=>
   some r1)
  else (
   some false))
 else (
  some false)
def Zoo (x0:Zh):Option Bool:=
 some (!x0.live)
def Zfl (x0:List Zh)  (k:Int->Option Int) (v0:Int):Option Int:=
 if decide (v0 < (x0.length:Int))=true then (
  (idx x0 v0).bind λa0=>
  (Zoo a0).bind λr0=>
  if r0=true then (
   some v0)
  else (
   k (Zq v0 1)))
 else (
  some (-1))
def Qf (x0:List Zh)  : Nat->Int->Option Int
 | 0,_=>none
 | m+1,v0=>Zfl x0  (Qf x0  m) v0
def Q0 (x0:List Zh):Option Int:=
 Qf x0 FU 0
def Zes (x0:List Zh)  (k:(List Zh)->Int->Int->Option (List Zh)) (v0:List Zh) (v1:Int) (v2:Int):Option (List Zh):=
 if decide (v2 < (v0.length:Int))=true then (
  (idx v0 v2).bind λa0=>
  (Zoo a0).bind λr0=>
  if (!r0)=true then (
   (idx v0 v1).bind λa1=>
   (W9 v0 v1 a0).bind λy0=>
   k y0 (Zq v1 1) (Zq v2 1))
  else (
   k v0 v1 (Zq v2 1)))
 else (
  (J9 v0 v1 (v0.length:Int)).bind λs0=>
  (Z24 Zh.z0 v0 v1 (v0.length:Int)).bind λy1=>
  (J9 y1 0 v1).bind λs1=>
  some s1)
def W8 (x0:List Zh)  : Nat->(List Zh)->Int->Int->Option (List Zh)
 | 0,_,_,_=>none
 | m+1,v0,v1,v2=>Zes x0  (W8 x0  m) v0 v1 v2
def Wj (x0:List Zh):Option (List Zh):=
 (Q0 x0).bind λr1=>
 if decide (r1=(-1))=true then (
  some x0)
 else (
  W8 x0 FU x0 r1 (Zq r1 1))
def Zrw (x0:Za):Option (List Zh):=
 (Wj [x0.addr,x0.data_]).bind λr0=>
 some r0
def Ko (x0:Za) (k_L1:(List Int)->(List Zh)->Int->Int->Option Bool) (vb0:Zh) (v0:List Int) (v1:List Zh) (v2:Int) (v3:Int) (v4:Bool):Option Bool:=
 if v4=true then (
  some false)
 else (
  (idx v0 vb0.who).bind λa0=>
  (W9 v0 vb0.who (Zq a0 1)).bind λy0=>
  k_L1 y0 v1 v2 (Zq v3 1))
def Qn (x0:Za)  (v5:Bool):Option Bool:=
 if v5=true then (
  some false)
 else (
  if (!x0.data_.second)=true then (
   some true)
  else (
   if decide (x0.data_.left=0)=true then (
    if decide (x0.data_.resp≠0)=true then (
     some (!x0.addr.live))
    else (
     some false))
   else (
    some false)))
def Zbr (x0:Za)  (vb1:Zb) (v6:Bool):Option Bool:=
 if v6=true then (
  some false)
 else (
  if decide (x0.data_.resp=3)=true then (
   if vb1.parted=true then (
    Qn x0 true)
   else (
    Qn x0 (decide (x0.data_.who=x0.holder))))
  else (
   Qn x0 false))
def Jv (x0:Za)  (vb1:Zb) (v7:Bool):Option Bool:=
 if v7=true then (
  some false)
 else (
  if decide (x0.data_.resp=2)=true then (
   Zbr x0 vb1 (decide (vb1.tries≥x0.conf.maxRetry)))
  else (
   Zbr x0 vb1 false))
def Xh (x0:Za)  (v8:Bool):Option Bool:=
 if v8=true then (
  some false)
 else (
  if (!x0.data_.live)=true then (
   some ((x0.data_.live == false)&&(decide (x0.data_.who=0)&&(decide (x0.data_.beat=0)&&((x0.data_.first == false)&&(decide (x0.data_.by_=0)&&(decide (x0.data_.left=0)&&(decide (x0.data_.resp=0)&&((x0.data_.second == false)&&true)))))))))
  else (
   (idx x0.m x0.data_.who).bind λa1=>
   if decide (x0.data_.beat≠a1.done)=true then (
    Jv x0 a1 true)
   else (
    (Yu x0.data_.left 0 (Zq x0.conf.maxWait 2)).bind λr0=>
    if (!r0)=true then (
     Jv x0 a1 true)
    else (
     (Yu x0.data_.resp 0 3).bind λr1=>
     Jv x0 a1 (!r1)))))
def Wm (x0:Za)  (k:(List Int)->Int->Option Bool) (v0:List Int) (v9:Int):Option Bool:=
 if decide (v9 < (x0.m.length:Int))=true then (
  (idx x0.m v9).bind λa2=>
  (idx v0 v9).bind λa3=>
  if decide ((Y6 a2.beat a2.done)≠a3)=true then (
   some false)
  else (
   k v0 (Zq v9 1)))
 else (
  if x0.addr.live=true then (
   (idx x0.m x0.addr.who).bind λa4=>
   if decide (x0.addr.beat≠(Y6 a4.beat 1))=true then (
    Xh x0 true)
   else (
    if decide (x0.addr.left≠0)=true then (
     Xh x0 true)
    else (
     if decide (x0.addr.resp≠0)=true then (
      Xh x0 true)
     else (
      if x0.addr.second=true then (
       Xh x0 true)
      else (
       if (!x0.addr.live)=true then (
        Xh x0 (!((x0.addr.live == false)&&(decide (x0.addr.who=0)&&(decide (x0.addr.beat=0)&&((x0.addr.first == false)&&(decide (x0.addr.by_=0)&&(decide (x0.addr.left=0)&&(decide (x0.addr.resp=0)&&((x0.addr.second == false)&&true))))))))))
       else (
        Xh x0 false))))))
  else (
   if (!x0.addr.live)=true then (
    Xh x0 (!((x0.addr.live == false)&&(decide (x0.addr.who=0)&&(decide (x0.addr.beat=0)&&((x0.addr.first == false)&&(decide (x0.addr.by_=0)&&(decide (x0.addr.left=0)&&(decide (x0.addr.resp=0)&&((x0.addr.second == false)&&true))))))))))
   else (
    Xh x0 false)))
def Zbo (x0:Za)  : Nat->(List Int)->Int->Option Bool
 | 0,_,_=>none
 | m+1,v0,v9=>Wm x0  (Zbo x0  m) v0 v9
def Wn (x0:Za)  (k:(List Int)->(List Zh)->Int->Int->Option Bool) (v0:List Int) (v1:List Zh) (v2:Int) (v3:Int):Option Bool:=
 if decide (v3 < v2)=true then (
  (idx v1 v3).bind λa5=>
  (Jf x0.conf a5.who).bind λr2=>
  if (!r2)=true then (
   Ko x0 k a5 v0 v1 v2 v3 true)
  else (
   (Yu a5.by_ 1 3).bind λr3=>
   if (!r3)=true then (
    Ko x0 k a5 v0 v1 v2 v3 true)
   else (
    (idx x0.splits a5.who).bind λa6=>
    Ko x0 k a5 v0 v1 v2 v3 (decide (a6≠0)))))
 else (
  Zbo x0 FU v0 0)
def Zd4 (x0:Za)  : Nat->(List Int)->(List Zh)->Int->Int->Option Bool
 | 0,_,_,_,_=>none
 | m+1,v0,v1,v2,v3=>Wn x0  (Zd4 x0  m) v0 v1 v2 v3
def Zcp (x0:Za):Option Bool:=
 (mkI 8 (x0.m.length:Int) 0).bind λm0=>
 (Zrw x0).bind λr4=>
 Zd4 x0 FU m0 r4 (r4.length:Int) 0
def Zrr (x0:Zb):Option Bool:=
 if decide ((x0.queue.length:Int) > 0)=true then (
  (idx x0.queue 0).bind λa0=>
  if a0.lock=true then (
   some (!x0.broken))
  else (
   some false))
 else (
  some false)
def Zfg (x0:Za)  (k:Int->Option Bool) (v0:Int):Option Bool:=
 if decide (v0 < (x0.m.length:Int))=true then (
  (idx x0.m v0).bind λa0=>
  if decide (a0.beat > 0)=true then (
   (Zrr a0).bind λr0=>
   if r0=true then (
    if decide (x0.holder≠v0)=true then (
     some false)
    else (
     k (Zq v0 1)))
   else (
    k (Zq v0 1)))
  else (
   k (Zq v0 1)))
 else (
  if decide (x0.holder=(-1))=true then (
   some (decide (x0.held=0)))
  else (
   (Jf x0.conf x0.holder).bind λr1=>
   if r1=true then (
    (idx x0.m x0.holder).bind λa1=>
    (Zrr a1).bind λr2=>
    if r2=true then (
     (idx x0.splits x0.holder).bind λa2=>
     if decide (a2=0)=true then (
      (Yu x0.held 0 x0.conf.lockMost).bind λr3=>
      some r3)
     else (
      some false))
    else (
     some false))
   else (
    some false)))
def Zm9 (x0:Za)  : Nat->Int->Option Bool
 | 0,_=>none
 | m+1,v0=>Zfg x0  (Zm9 x0  m) v0
def Zej (x0:Za):Option Bool:=
 Zm9 x0 FU 0
def Zdn (x0:Za)  (k:Int->Int->Option Bool) (v0:Int) (v1:Int):Option Bool:=
 if decide (v1 < (x0.log.length:Int))=true then (
  (idx x0.log v1).bind λa0=>
  if decide (a0.cycle<=v0)=true then (
   some false)
  else (
   if decide (a0.cycle≥x0.now)=true then (
    some false)
   else (
    (Jf x0.conf a0.who).bind λr0=>
    if (!r0)=true then (
     some false)
    else (
     (Zg9 a0.addr a0.size).bind λr1=>
     if (!r1)=true then (
      some false)
     else (
      if decide (a0.addr≥512)=true then (
       some false)
      else (
       (Zd9 a0.value a0.size).bind λr2=>
       if (!r2)=true then (
        some false)
       else (
        if decide (a0.resp≠0)=true then (
         if decide (a0.resp≠1)=true then (
          some false)
         else (
          k a0.cycle (Zq v1 1)))
        else (
         k a0.cycle (Zq v1 1)))))))))
 else (
  some true)
def Zd5 (x0:Za)  : Nat->Int->Int->Option Bool
 | 0,_,_=>none
 | m+1,v0,v1=>Zdn x0  (Zd5 x0  m) v0 v1
def Zcr (x0:Za):Option Bool:=
 Zd5 x0 FU (-1) 0
def Zrj (x0:Za):Option Bool:=
 (Znz x0.conf).bind λr0=>
 if r0=true then (
  (Yu x0.now 0 4000).bind λr1=>
  if r1=true then (
   (Zgd x0).bind λr2=>
   if r2=true then (
    (Znr x0.arb x0.conf).bind λr3=>
    if r3=true then (
     if decide (x0.last=(-1))=true then (
      (Zgz x0.model).bind λr4=>
      if r4=true then (
       (Yu x0.picks 0 x0.now).bind λr5=>
       if r5=true then (
        (Zcp x0).bind λr6=>
        if r6=true then (
         (Zej x0).bind λr7=>
         if r7=true then (
          (Zcr x0).bind λr8=>
          some r8)
         else (
          some false))
        else (
         some false))
       else (
        some false))
      else (
       some false))
     else (
      (Jf x0.conf x0.last).bind λr9=>
      if r9=true then (
       (Zgz x0.model).bind λr4=>
       if r4=true then (
        (Yu x0.picks 0 x0.now).bind λr5=>
        if r5=true then (
         (Zcp x0).bind λr6=>
         if r6=true then (
          (Zej x0).bind λr7=>
          if r7=true then (
           (Zcr x0).bind λr8=>
           some r8)
          else (
           some false))
         else (
          some false))
        else (
         some false))
       else (
        some false))
      else (
       some false)))
    else (
     some false))
   else (
    some false))
  else (
   some false))
 else (
  some false)
def Zld (x0:Zb) (x1:Int)  (v0:Bool):Option Int:=
 if v0=true then (
  some (-1))
 else (
  (idx x0.queue 0).bind λa0=>
  (Zhz a0.addr a0.size a0.burst).bind λr0=>
  (idx r0 x1).bind λa1=>
  some a1)
def Zeb (x0:Zb) (x1:Int):Option Int:=
 (Kk x0).bind λr1=>
 if (!r1)=true then (
  Zld x0 x1 true)
 else (
  (Zb0 x0).bind λr2=>
  (Yu x1 0 (Y6 r2 1)).bind λr3=>
  Zld x0 x1 (!r3))
def Zjl (x0:Zi) (x1:Int)  (k:(List Zm)->Int->Option (List Zm)) (v0:List Zm) (v1:Int):Option (List Zm):=
 if decide (v1 < (x0.posts.length:Int))=true then (
  (idx x0.posts v1).bind λa0=>
  if decide (a0.at_=x1)=true then (
   (Zjg a0.req).bind λr0=>
   (X8 80 v0 [{a0 with req:=r0}]).bind λz0=>
   k z0 (Zq v1 1))
  else (
   k v0 (Zq v1 1)))
 else (
  some v0)
def Zlx (x0:Zi) (x1:Int)  : Nat->(List Zm)->Int->Option (List Zm)
 | 0,_,_=>none
 | m+1,v0,v1=>Zjl x0 x1  (Zlx x0 x1  m) v0 v1
def Zv0 (x0:Zi) (x1:Int):Option (List Zm):=
 Zlx x0 x1 FU [] 0
def Zgh (x0:Zb) (x1:Zf)  (vb0:Zb) (v0:Bool):Option (Zb×Bool):=
 if v0=true then (
  some (vb0,false))
 else (
  (Zjg x1).bind λr0=>
  (X8 64 vb0.queue [r0]).bind λz0=>
  some ({vb0 with queue:=z0},true))
def Zvy (x0:Zb) (x1:Zf):Option (Zb×Bool):=
 (Zfz x0).bind λr1=>
 (Kk x0).bind λr2=>
 if (!r2)=true then (
  Zgh x0 x1 r1 true)
 else (
  (Zww x1).bind λr3=>
  if (!r3)=true then (
   Zgh x0 x1 r1 true)
  else (
   Zgh x0 x1 r1 (decide ((x0.queue.length:Int)=4))))
def Zoh (x0:Zc) (x1:Zd):Option Bool:=
 if x1.prio=true then (
  (Znn x0 x1).bind λr0=>
  some r0)
 else (
  some false)
def Zn5 (x0:Zc) (x1:Zd):Option Zc:=
 (Zoh x0 x1).bind λr0=>
 if (!r0)=true then (
  some x0)
 else (
  if decide ((Zq x0.count 1)=x1.every)=true then (
   some (Zc.mk (Zi8 (Zq x0.tokens 1) x1.cap) 0))
  else (
   some (Zc.mk x0.tokens (Zq x0.count 1))))
def Zl2 (x0:Zb)  (vb0:Zb) (v0:Bool):Option (Zb×Bool):=
 if v0=true then (
  some (vb0,false))
 else (
  some ({vb0 with beat:=(Y6 vb0.beat 1)},true))
def Zva (x0:Zb):Option (Zb×Bool):=
 (Zfz x0).bind λr0=>
 (Kk x0).bind λr1=>
 if (!r1)=true then (
  Zl2 x0 r0 true)
 else (
  Zl2 x0 r0 (decide (x0.beat=x0.done)))
def Zn7 (x0:Zc) (x1:Zd):Option Zc:=
 (Zoh x0 x1).bind λr0=>
 if r0=true then (
  if decide (x0.tokens < x1.cap)=true then (
   some (Zc.mk (Zq x0.tokens 1) x0.count))
  else (
   some x0))
 else (
  some x0)
def Zlm (x0:Z2) (x1:Zl) (x2:Int)  (v0:Bool):Option Z2:=
 if v0=true then (
  (Zok x1 x2).bind λr0=>
  some (Z2.mk x0.at_ (Zi8 (Zq x0.credit 1) r0)))
 else (
  some x0)
def Zu9 (x0:Z2) (x1:Zl) (x2:Int):Option Z2:=
 (Znr x0 x1).bind λr1=>
 if r1=true then (
  Zlm x0 x1 x2 (decide (x2=x0.at_)))
 else (
  Zlm x0 x1 x2 false)
def Zem (x0:Za) (x1:Zh):Option Za:=
 (idx x0.m x1.who).bind λa0=>
 (Zva a0).bind λr0=>
 (W9 x0.m x1.who r0.1).bind λy0=>
 if decide (x1.by_=1)=true then (
  (idx x0.buckets x1.who).bind λa1=>
  (idx x0.conf.masters x1.who).bind λa2=>
  (Zn7 a1 a2).bind λr1=>
  (W9 x0.buckets x1.who r1).bind λy1=>
  some {x0 with m:=y0,buckets:=y1})
 else (
  if decide (x1.by_=2)=true then (
   (Zu9 x0.arb x0.conf x1.who).bind λr2=>
   some {x0 with m:=y0,arb:=r2})
  else (
   some {x0 with m:=y0}))
def Zlg (x0:List Int) (x1:Int)  (v0:Bool):Option Int:=
 if v0=true then (
  some 0)
 else (
  (nzI (x0.length:Int)).bind λn0=>
  (idx x0 (Zam x1 (x0.length:Int))).bind λa0=>
  some a0)
def Zke (x0:List Int) (x1:Int):Option Int:=
 if decide ((x0.length:Int)=0)=true then (
  Zlg x0 x1 true)
 else (
  Zlg x0 x1 (decide (x1 < 0)))
def Zwb (x0:Zl) (x1:Zi) (x2:Int):Option Int:=
 (Zke x1.waits x2).bind λr0=>
 some (Z3h 1 (Zi8 (Zq (Z3h 0 (Zi8 r0 99)) 1) x0.maxSplit))
def Zoc (x0:Zb) (x1:Int):Option Int:=
 (idx x0.queue 0).bind λa0=>
 if a0.write=true then (
  (idx a0.data_ x1).bind λa1=>
  some a1)
 else (
  some 0)
def Zlq (x0:Int)  (v0:Bool):Option Int:=
 if v0=true then (
  some 0)
 else (
  if decide (x0 < 128)=true then (
   some 1)
  else (
   if decide (x0 < 192)=true then (
    some 2)
   else (
    some 3)))
def Zpr (x0:Int):Option Int:=
 if decide (x0 < 0)=true then (
  Zlq x0 true)
 else (
  Zlq x0 (decide (x0≥224)))
def Zj6 (x0:Zo) (x1:Bool) (x2:Int) (x3:Int)  (vb0:Zo) (v0:Bool):Option (Zo×Int×Bool):=
 if v0=true then (
  some (vb0,0,false))
 else (
  if x1=true then (
   (idx vb0.regs (Ztv x2 4)).bind λa0=>
   (W9 vb0.regs (Ztv x2 4) x3).bind λy0=>
   some ({vb0 with regs:=y0},x3,true))
  else (
   (idx x0.regs (Ztv x2 4)).bind λa1=>
   some (vb0,a1,true)))
def Zka (x0:Zo) (x1:Bool) (x2:Int) (x3:Int)  (vb0:Zo) (v1:Bool):Option (Zo×Int×Bool):=
 if v1=true then (
  (idx x0.fifo 0).bind λa2=>
  (J9 x0.fifo 1 (x0.fifo.length:Int)).bind λs0=>
  (Xf s0).bind λr0=>
  some ({vb0 with fifo:=r0},a2,true))
 else (
  if decide (x2≥16)=true then (
   Zj6 x0 x1 x2 x3 vb0 true)
  else (
   if decide (x2 < 0)=true then (
    Zj6 x0 x1 x2 x3 vb0 true)
   else (
    Zj6 x0 x1 x2 x3 vb0 (decide ((Zam x2 4)≠0)))))
def Zj4 (x0:Zo) (x1:Bool) (x2:Int) (x3:Int)  (vb0:Zo) (v2:Bool):Option (Zo×Int×Bool):=
 if v2=true then (
  (X8 8 vb0.fifo [x3]).bind λz0=>
  some ({vb0 with fifo:=z0},x3,true))
 else (
  if decide (x2=20)=true then (
   if (!x1)=true then (
    Zka x0 x1 x2 x3 vb0 (decide ((x0.fifo.length:Int) > 0)))
   else (
    Zka x0 x1 x2 x3 vb0 false))
  else (
   Zka x0 x1 x2 x3 vb0 false))
def Zqm (x0:Zo) (x1:Bool) (x2:Int) (x3:Int)  (vb0:Zo) (v3:Bool):Option (Zo×Int×Bool):=
 if v3=true then (
  some ({vb0 with timer:=x3},x3,true))
 else (
  if decide (x2=16)=true then (
   (Zp3 2).bind λr1=>
   (nzI r1).bind λn0=>
   some ({vb0 with timer:=(Zam (Zq x0.timer 1) r1)},x0.timer,true))
  else (
   if decide (x2=20)=true then (
    if x1=true then (
     Zj4 x0 x1 x2 x3 vb0 (decide ((x0.fifo.length:Int) < 4)))
    else (
     Zj4 x0 x1 x2 x3 vb0 false))
   else (
    Zj4 x0 x1 x2 x3 vb0 false)))
def Zdr (x0:Zo) (x1:Bool) (x2:Int) (x3:Int)  (vb0:Zo) (v4:Bool):Option (Zo×Int×Bool):=
 if v4=true then (
  some (vb0,0,false))
 else (
  if decide (x2=16)=true then (
   Zqm x0 x1 x2 x3 vb0 x1)
  else (
   Zqm x0 x1 x2 x3 vb0 false))
def Z1a (x0:Zo) (x1:Bool) (x2:Int) (x3:Int):Option (Zo×Int×Bool):=
 (Zsu x0).bind λr2=>
 (Zw7 x0).bind λr3=>
 if (!r3)=true then (
  Zdr x0 x1 x2 x3 r2 true)
 else (
  if x1=true then (
   (Zd9 x3 2).bind λr4=>
   Zdr x0 x1 x2 x3 r2 (!r4))
  else (
   Zdr x0 x1 x2 x3 r2 false))
def Zf2 (x0:List Int) (x1:Int) (x2:Int) (x3:Int)  (k:(List Int)->Int->Int->Option (List Int×Bool)) (v0:List Int) (v1:Int) (v2:Int):Option (List Int×Bool):=
 if decide (v2 < v1)=true then (
  (nnI (Jr 8 v2)).bind λn0=>
  (idx v0 (Zq x1 v2)).bind λa0=>
  (W9 v0 (Zq x1 v2) (andW (shrW x3 (Jr 8 v2)) 255)).bind λy0=>
  k y0 v1 (Zq v2 1))
 else (
  some (v0,true))
def Zo4 (x0:List Int) (x1:Int) (x2:Int) (x3:Int)  : Nat->(List Int)->Int->Int->Option (List Int×Bool)
 | 0,_,_,_=>none
 | m+1,v0,v1,v2=>Zf2 x0 x1 x2 x3  (Zo4 x0 x1 x2 x3  m) v0 v1 v2
def Zoi (x0:List Int) (x1:Int) (x2:Int) (x3:Int)  (v0:List Int) (v3:Bool):Option (List Int×Bool):=
 if v3=true then (
  some (v0,false))
 else (
  (Zab x2).bind λr0=>
  Zo4 x0 x1 x2 x3 FU v0 r0 0)
def Zx6 (x0:List Int) (x1:Int) (x2:Int) (x3:Int):Option (List Int×Bool):=
 (Xf x0).bind λr1=>
 (Zuu x0 x1 x2).bind λr2=>
 if (!r2)=true then (
  Zoi x0 x1 x2 x3 r1 true)
 else (
  (Zd9 x3 x2).bind λr3=>
  Zoi x0 x1 x2 x3 r1 (!r3))
def Zgq (x0:List Int) (x1:Int) (x2:Int)  (k:Int->Int->Int->Option (Int×Bool)) (v0:Int) (v1:Int) (v2:Int):Option (Int×Bool):=
 if decide (v2 < v1)=true then (
  (idx x0 (Zq x1 v2)).bind λa0=>
  (nnI (Jr 8 v2)).bind λn0=>
  k (orW v0 (Yev a0 (Jr 8 v2))) v1 (Zq v2 1))
 else (
  some (v0,true))
def Zn2 (x0:List Int) (x1:Int) (x2:Int)  : Nat->Int->Int->Int->Option (Int×Bool)
 | 0,_,_,_=>none
 | m+1,v0,v1,v2=>Zgq x0 x1 x2  (Zn2 x0 x1 x2  m) v0 v1 v2
def Zx2 (x0:List Int) (x1:Int) (x2:Int):Option (Int×Bool):=
 (Zuu x0 x1 x2).bind λr0=>
 if (!r0)=true then (
  some (0,false))
 else (
  (Zab x2).bind λr1=>
  Zn2 x0 x1 x2 FU 0 r1 0)
def Zdl (x0:Zj) (x1:Bool) (x2:Int) (x3:Int) (x4:Int)  (vb0:Zj) (v0:Int) (v1:Bool):Option (Zj×Int×Int):=
 if (!v1)=true then (
  (Zh5 x0).bind λr0=>
  some (r0,0,1))
 else (
  some (vb0,v0,0))
def Zku (x0:Zj) (x1:Bool) (x2:Int) (x3:Int) (x4:Int)  (vb0:Zj) (v2:Bool):Option (Zj×Int×Int):=
 if v2=true then (
  if x1=true then (
   (Zx6 x0.mem x2 x3 x4).bind λr1=>
   Zdl x0 x1 x2 x3 x4 (Zj.mk r1.1 vb0.dev) x4 r1.2)
  else (
   (Zx2 x0.mem x2 x3).bind λr2=>
   Zdl x0 x1 x2 x3 x4 vb0 r2.1 r2.2))
 else (
  Zdl x0 x1 x2 x3 x4 vb0 x4 false)
def Zk3 (x0:Zj) (x1:Bool) (x2:Int) (x3:Int) (x4:Int)  (vb0:Zj) (v3:Int) (v4:Bool):Option (Zj×Int×Int):=
 if v4=true then (
  (Z1a x0.dev x1 (Y6 x2 192) x4).bind λr3=>
  Zdl x0 x1 x2 x3 x4 (Zj.mk vb0.mem r3.1) r3.2.1 r3.2.2)
 else (
  if decide (v3=1)=true then (
   Zku x0 x1 x2 x3 x4 vb0 true)
  else (
   Zku x0 x1 x2 x3 x4 vb0 (decide (v3=2))))
def K1 (x0:Zj) (x1:Bool) (x2:Int) (x3:Int) (x4:Int)  (vb0:Zj) (v5:Bool):Option (Zj×Int×Int):=
 if v5=true then (
  some (vb0,0,1))
 else (
  (Zpr x2).bind λr4=>
  if decide (r4=3)=true then (
   Zk3 x0 x1 x2 x3 x4 vb0 r4 (decide (x3=2)))
  else (
   Zk3 x0 x1 x2 x3 x4 vb0 r4 false))
def Zv4 (x0:Zj) (x1:Bool) (x2:Int) (x3:Int) (x4:Int):Option (Zj×Int×Int):=
 (Zh5 x0).bind λr5=>
 (Zgz x0).bind λr6=>
 if (!r6)=true then (
  K1 x0 x1 x2 x3 x4 r5 true)
 else (
  (Zg9 x2 x3).bind λr7=>
  if (!r7)=true then (
   K1 x0 x1 x2 x3 x4 r5 true)
  else (
   if x1=true then (
    (Zd9 x4 x3).bind λr8=>
    K1 x0 x1 x2 x3 x4 r5 (!r8))
   else (
    K1 x0 x1 x2 x3 x4 r5 false)))
def Zt7 (x0:Za) (x1:Zh):Option (Zj×Int×Int):=
 (idx x0.m x1.who).bind λa0=>
 (idx a0.queue 0).bind λa1=>
 (Zeb a0 x1.beat).bind λr0=>
 (Zoc a0 x1.beat).bind λr1=>
 (Zv4 x0.model a1.write r0 a1.size r1).bind λr2=>
 some (r2.1,r2.2.1,r2.2.2)
def Zo2 (x0:Zb)  (vb0:Zb) (v0:Bool):Option (Zb×Bool):=
 if v0=true then (
  some (vb0,false))
 else (
  (Zb0 {vb0 with done:=(Zq vb0.done 1)}).bind λr0=>
  if decide ((Zq vb0.done 1)=r0)=true then (
   (J9 vb0.queue 1 (vb0.queue.length:Int)).bind λs0=>
   some ((Zb.mk s0 0 0 0 false false),true))
  else (
   some ((Zb.mk vb0.queue vb0.beat (Zq vb0.done 1) 0 false vb0.broken),true)))
def Zyr (x0:Zb):Option (Zb×Bool):=
 (Zfz x0).bind λr1=>
 (Kk x0).bind λr2=>
 if (!r2)=true then (
  Zo2 x0 r1 true)
 else (
  Zo2 x0 r1 (decide (x0.beat=x0.done)))
def Zna (x0:Za):Option Za:=
 some {x0 with holder:=(-1),held:=0}
def Zd6 (x0:Za) (x1:Zh)  (vb0:Za) (vb1:Zb):Option Za:=
 (idx vb0.m x1.who).bind λa0=>
 (W9 vb0.m x1.who vb1).bind λy0=>
 some {vb0 with m:=y0}
def Zd7 (x0:Za) (x1:Zh)  (vb0:Za) (vb1:Zb) (v0:Bool):Option Za:=
 if v0=true then (
  (Zna vb0).bind λr0=>
  Zd6 x0 x1 r0 vb1)
 else (
  Zd6 x0 x1 vb0 vb1)
def Zbf (x0:Za) (x1:Zh)  (vb0:Za) (vb1:Zb) (vb2:Zn):Option Za:=
 (X8 56 vb0.log [vb2]).bind λz0=>
 (Zyr vb1).bind λr1=>
 if decide (vb0.holder=x1.who)=true then (
  Zd7 x0 x1 {vb0 with log:=z0} r1.1 (decide ((r1.1.queue.length:Int) < (vb1.queue.length:Int))))
 else (
  Zd7 x0 x1 {vb0 with log:=z0} r1.1 false)
def Zju (x0:Za) (x1:Zh):Option Za:=
 (idx x0.m x1.who).bind λa1=>
 (idx a1.queue 0).bind λa2=>
 (Zeb a1 x1.beat).bind λr2=>
 if decide (x1.resp=0)=true then (
  (Zt7 x0 x1).bind λr3=>
  Zbf x0 x1 {x0 with model:=r3.1} a1 (Zn.mk x0.now x1.who a2.write r2 a2.size r3.2.1 x1.resp))
 else (
  Zbf x0 x1 x0 a1 (Zn.mk x0.now x1.who a2.write r2 a2.size 0 x1.resp))
def Zgs (x0:Za) (x1:Zi) (x2:Zg)  (vb0:Za):Option (Bool×Za×Zg):=
 some (false,vb0,{x2 with resp:=x0.data_.resp})
def Zaw (x0:Za) (x1:Zi) (x2:Zg)  (v0:Bool):Option (Bool×Za×Zg):=
 if v0=true then (
  if x0.addr.live=true then (
   (Zem {x0 with data_:={x0.data_ with second:=true}} x0.addr).bind λr0=>
   Zgs x0 x1 x2 {r0 with addr:=Zh.z0})
  else (
   Zgs x0 x1 x2 {x0 with data_:={x0.data_ with second:=true}}))
 else (
  if decide (x0.data_.resp=2)=true then (
   (idx x0.m x0.data_.who).bind λa0=>
   (W9 x0.m x0.data_.who {a0 with tries:=(Zq a0.tries 1)}).bind λy0=>
   (Zem {x0 with m:=y0,data_:=Zh.z0} x0.data_).bind λr1=>
   some (true,r1,{x2 with resp:=x0.data_.resp}))
  else (
   if decide (x0.data_.resp=3)=true then (
    (idx x0.m x0.data_.who).bind λa1=>
    (W9 x0.m x0.data_.who {a1 with parted:=true}).bind λy1=>
    (Zwb x0.conf x1 x0.picks).bind λr2=>
    (idx x0.splits x0.data_.who).bind λa2=>
    (W9 x0.splits x0.data_.who r2).bind λy2=>
    (Zem {x0 with m:=y1,splits:=y2,data_:=Zh.z0} x0.data_).bind λr3=>
    some (true,r3,{x2 with resp:=x0.data_.resp}))
   else (
    (Zju {x0 with data_:=Zh.z0} x0.data_).bind λr4=>
    some (true,r4,{x2 with resp:=x0.data_.resp}))))
def Zn4 (x0:Za) (x1:Zi) (x2:Zg):Option (Bool×Za×Zg):=
 if (!x0.data_.live)=true then (
  some (true,x0,x2))
 else (
  if decide (x0.data_.left > 0)=true then (
   some (false,{x0 with data_:={x0.data_ with left:=(Y6 x0.data_.left 1)}},x2))
  else (
   if decide (x0.data_.resp≠0)=true then (
    Zaw x0 x1 x2 (!x0.data_.second))
   else (
    Zaw x0 x1 x2 false)))
def Zx5 (x0:Zl) (x1:Zi) (x2:Int):Option Int:=
 (Zke x1.waits x2).bind λr0=>
 some (Z3h 0 (Zi8 r0 x0.maxWait))
def Zx8 (x0:Zi) (x1:Int):Option Int:=
 (Zke x0.says x1).bind λr0=>
 if decide (r0=2)=true then (
  some r0)
 else (
  if decide (r0=3)=true then (
   some r0)
  else (
   some 0))
def Ka (x0:Za) (x1:Zi) (x2:Zh)  (vb0:Zb) (v0:Int) (v1:Int) (v2:Int) (v3:Int) (v4:Bool):Option (Int×Int):=
 if v4=true then (
  some (2,v2))
 else (
  if decide (v3=3)=true then (
   if decide (v0=2)=true then (
    if (!vb0.parted)=true then (
     if decide (x2.who≠x0.holder)=true then (
      some (3,v2))
     else (
      some (v1,v2)))
    else (
     some (v1,v2)))
   else (
    some (v1,v2)))
  else (
   some (v1,v2)))
def Zc9 (x0:Za) (x1:Zi) (x2:Zh)  (vb1:Zb) (v0:Int) (v1:Int) (v2:Int):Option (Int×Int):=
 (Zx8 x1 x0.picks).bind λr0=>
 if decide (r0=2)=true then (
  if decide (v0≠3)=true then (
   Ka x0 x1 x2 vb1 v0 v1 v2 r0 (decide (vb1.tries < x0.conf.maxRetry)))
  else (
   Ka x0 x1 x2 vb1 v0 v1 v2 r0 false))
 else (
  Ka x0 x1 x2 vb1 v0 v1 v2 r0 false)
def Ji (x0:Za) (x1:Zi) (x2:Zh)  (vb1:Zb) (v0:Int) (v5:Bool):Option (Int×Int):=
 if v5=true then (
  some (1,0))
 else (
  (Zt7 x0 x2).bind λr1=>
  (Zx5 x0.conf x1 x0.picks).bind λr2=>
  if decide (v0=3)=true then (
   Zc9 x0 x1 x2 vb1 v0 r1.2.2 (Zq r2 2))
  else (
   Zc9 x0 x1 x2 vb1 v0 r1.2.2 r2))
def Zon (x0:Za) (x1:Zi) (x2:Zh):Option (Int×Int):=
 (idx x0.m x2.who).bind λa0=>
 (Zeb a0 x2.beat).bind λr3=>
 (Zpr r3).bind λr4=>
 if a0.broken=true then (
  Ji x0 x1 x2 a0 r4 true)
 else (
  Ji x0 x1 x2 a0 r4 (decide (r4=0)))
def Zm6 (x0:Zb):Option Bool:=
 (Kk x0).bind λr0=>
 if r0=true then (
  (Zb0 x0).bind λr1=>
  some (decide (x0.beat < r1)))
 else (
  some false)
def Zgk (x0:Zc) (x1:Zd)  (v0:Bool):Option (Zc×Bool):=
 if v0=true then (
  some (x0,false))
 else (
  some ((Zc.mk (Y6 x0.tokens 1) x0.count),true))
def Znw (x0:Zc) (x1:Zd):Option (Zc×Bool):=
 (Zoh x0 x1).bind λr0=>
 if (!r0)=true then (
  Zgk x0 x1 true)
 else (
  Zgk x0 x1 (decide (x0.tokens=0)))
def Zq8 (x0:Z2) (x1:Zl) (x2:List Bool)  (k:Int->Option (Z2×Int)) (v0:Int):Option (Z2×Int):=
 if decide (v0<=(x1.masters.length:Int))=true then (
  (nzI (x1.masters.length:Int)).bind λn0=>
  (idx x2 (Zam (Zq x0.at_ v0) (x1.masters.length:Int))).bind λa0=>
  if a0=true then (
   (Zok x1 (Zam (Zq x0.at_ v0) (x1.masters.length:Int))).bind λr0=>
   some ((Z2.mk (Zam (Zq x0.at_ v0) (x1.masters.length:Int)) (Y6 r0 1)),(Zam (Zq x0.at_ v0) (x1.masters.length:Int))))
  else (
   k (Zq v0 1)))
 else (
  some ((Z2.mk x0.at_ 0),(-1)))
def Zkv (x0:Z2) (x1:Zl) (x2:List Bool)  : Nat->Int->Option (Z2×Int)
 | 0,_=>none
 | m+1,v0=>Zq8 x0 x1 x2  (Zkv x0 x1 x2  m) v0
def Zkp (x0:Z2) (x1:Zl) (x2:List Bool)  (v1:Bool):Option (Z2×Int):=
 if v1=true then (
  some ((Z2.mk x0.at_ (Y6 x0.credit 1)),x0.at_))
 else (
  Zkv x0 x1 x2 FU 1)
def Zlz (x0:Z2) (x1:Zl) (x2:List Bool)  (v2:Bool):Option (Z2×Int):=
 if v2=true then (
  some (x0,(-1)))
 else (
  if decide (x0.credit > 0)=true then (
   (idx x2 x0.at_).bind λa1=>
   Zkp x0 x1 x2 a1)
  else (
   Zkp x0 x1 x2 false))
def Zv7 (x0:Z2) (x1:Zl) (x2:List Bool):Option (Z2×Int):=
 (Znr x0 x1).bind λr1=>
 if (!r1)=true then (
  Zlz x0 x1 x2 true)
 else (
  Zlz x0 x1 x2 (decide ((x2.length:Int)≠(x1.masters.length:Int))))
def Zdw (x0:Za)  (k:(List Bool)->Int->Int->Option (Int×Int×Za)) (v0:List Bool) (v1:Int) (v2:Int):Option (Int×Int×Za):=
 if decide (v2 < v1)=true then (
  (idx v0 v2).bind λa0=>
  if (!a0)=true then (
   k v0 v1 (Zq v2 1))
  else (
   (idx x0.buckets v2).bind λa1=>
   (idx x0.conf.masters v2).bind λa2=>
   (Znw a1 a2).bind λr0=>
   if r0.2=true then (
    (W9 x0.buckets v2 r0.1).bind λy0=>
    some (v2,1,{x0 with buckets:=y0}))
   else (
    k v0 v1 (Zq v2 1))))
 else (
  if decide (x0.holder≠(-1))=true then (
   some ((-1),0,x0))
  else (
   (Zv7 x0.arb x0.conf v0).bind λr1=>
   some (r1.2,2,{x0 with arb:=r1.1})))
def Zew (x0:Za)  : Nat->(List Bool)->Int->Int->Option (Int×Int×Za)
 | 0,_,_,_=>none
 | m+1,v0,v1,v2=>Zdw x0  (Zew x0  m) v0 v1 v2
def Ziw (x0:Za)  (v0:List Bool) (v3:Bool):Option (Int×Int×Za):=
 if v3=true then (
  some (x0.holder,3,x0))
 else (
  Zew x0 FU v0 (v0.length:Int) 0)
def Zho (x0:Za)  (k:(List Bool)->Int->Option (Int×Int×Za)) (v0:List Bool) (v4:Int):Option (Int×Int×Za):=
 if decide (v4 < (x0.m.length:Int))=true then (
  (idx x0.m v4).bind λa3=>
  (Zm6 a3).bind λr2=>
  if r2=true then (
   (idx x0.splits v4).bind λa4=>
   if decide (a4=0)=true then (
    if decide (x0.holder=(-1))=true then (
     (X8 1 v0 [true]).bind λz0=>
     k z0 (Zq v4 1))
    else (
     (X8 1 v0 [decide (x0.holder=v4)]).bind λz0=>
     k z0 (Zq v4 1)))
   else (
    (X8 1 v0 [false]).bind λz0=>
    k z0 (Zq v4 1)))
  else (
   (X8 1 v0 [false]).bind λz0=>
   k z0 (Zq v4 1)))
 else (
  if decide (x0.holder≠(-1))=true then (
   (idx v0 x0.holder).bind λa5=>
   Ziw x0 v0 a5)
  else (
   Ziw x0 v0 false))
def Zi9 (x0:Za)  : Nat->(List Bool)->Int->Option (Int×Int×Za)
 | 0,_,_=>none
 | m+1,v0,v4=>Zho x0  (Zi9 x0  m) v0 v4
def Zte (x0:Za):Option (Int×Int×Za):=
 Zi9 x0 FU [] 0
def Zjf (x0:Zb)  (vb0:Zb) (v0:Bool):Option (Zb×Bool):=
 if v0=true then (
  some (vb0,false))
 else (
  some ({vb0 with beat:=(Zq vb0.beat 1)},true))
def Zr5 (x0:Zb):Option (Zb×Bool):=
 (Zfz x0).bind λr0=>
 (Zm6 x0).bind λr1=>
 if (!r1)=true then (
  Zjf x0 r0 true)
 else (
  Zjf x0 r0 (decide (x0.beat=(Zq x0.done 2))))
def Zhn (x0:Za)  (vb0:Za) (vb1:Zb) (v0:Int):Option (Int×Za):=
 (Zr5 vb1).bind λr0=>
 (idx vb0.m v0).bind λa0=>
 (W9 vb0.m v0 r0.1).bind λy0=>
 some (v0,{vb0 with m:=y0,last:=v0})
def Zhm (x0:Za)  (vb0:Za) (vb1:Zb) (v0:Int) (v1:Bool):Option (Int×Za):=
 if v1=true then (
  Zhn x0 {vb0 with holder:=v0,held:=0} vb1 v0)
 else (
  Zhn x0 vb0 vb1 v0)
def Jz (x0:Za)  (vb0:Za) (vb1:Zb) (v0:Int):Option (Int×Za):=
 (Zrr vb1).bind λr1=>
 if r1=true then (
  Zhm x0 vb0 vb1 v0 (decide (vb0.holder=(-1))))
 else (
  Zhm x0 vb0 vb1 v0 false)
def Zqd (x0:Za):Option (Int×Za):=
 (Zte x0).bind λr2=>
 if decide (r2.1 < 0)=true then (
  some ((-1),r2.2.2))
 else (
  (idx r2.2.2.m r2.1).bind λa1=>
  if decide (a1.beat=0)=true then (
   Jz x0 {r2.2.2 with addr:=(Zh.mk true r2.1 a1.beat true r2.2.1 0 0 false)} a1 r2.1)
  else (
   Jz x0 {r2.2.2 with addr:=(Zh.mk true r2.1 a1.beat (decide (r2.2.2.last≠r2.1)) r2.2.1 0 0 false)} a1 r2.1))
def Zfa (x0:Za) (x1:Zi)  (vb0:Za) (vb1:Zg):Option (Zg×Za):=
 some (vb1,{vb0 with now:=(Zq vb0.now 1)})
def Ze1 (x0:Za) (x1:Zi)  (vb0:Za) (vb1:Zg):Option (Zg×Za):=
 (Zqd vb0).bind λr0=>
 Zfa x0 x1 r0.2 {vb1 with got:=r0.1}
def Zco (x0:Za) (x1:Zi)  (vb0:Za) (vb2:Zg):Option (Zg×Za):=
 if vb0.addr.live=true then (
  (Zon vb0 x1 vb0.addr).bind λr1=>
  Ze1 x0 x1 {vb0 with addr:=Zh.z0,data_:={vb0.addr with left:=r1.2,resp:=r1.1},picks:=(Zq vb0.picks 1)} vb2)
 else (
  Ze1 x0 x1 vb0 vb2)
def Ja (x0:Za) (x1:Zi)  (vb0:Za) (vb2:Zg) (v0:Bool):Option (Zg×Za):=
 if v0=true then (
  (idx vb0.m vb0.holder).bind λa0=>
  (W9 vb0.m vb0.holder {a0 with broken:=true}).bind λy0=>
  (Zna {vb0 with m:=y0}).bind λr2=>
  Zco x0 x1 r2 vb2)
 else (
  Zco x0 x1 vb0 vb2)
def Jb (x0:Za) (x1:Zi)  (vb0:Za) (vb2:Zg):Option (Zg×Za):=
 (Zn4 vb0 x1 vb2).bind λr3=>
 if r3.1=true then (
  if decide (r3.2.1.holder≠(-1))=true then (
   Ja x0 x1 r3.2.1 {r3.2.2 with ready:=r3.1} (decide (r3.2.1.held=r3.2.1.conf.lockMost)))
  else (
   Ja x0 x1 r3.2.1 {r3.2.2 with ready:=r3.1} false))
 else (
  Zfa x0 x1 r3.2.1 {r3.2.2 with ready:=r3.1})
def Zhp (x0:Za) (x1:Zi)  (k:Za->Zg->Int->Int->Option (Zg×Za)) (vb0:Za) (vb2:Zg) (v1:Int) (v2:Int):Option (Zg×Za):=
 if decide (v2 < v1)=true then (
  (idx vb0.splits v2).bind λa1=>
  (W9 vb0.splits v2 (Z3h (Y6 a1 1) 0)).bind λy1=>
  (idx vb0.buckets v2).bind λa2=>
  (idx vb0.conf.masters v2).bind λa3=>
  (Zn5 a2 a3).bind λr4=>
  (W9 vb0.buckets v2 r4).bind λy2=>
  k {vb0 with buckets:=y2,splits:=y1} vb2 v1 (Zq v2 1))
 else (
  if decide (vb0.holder≠(-1))=true then (
   Jb x0 x1 {vb0 with held:=(Zi8 (Zq vb0.held 1) vb0.conf.lockMost)} vb2)
  else (
   Jb x0 x1 vb0 vb2))
def Zaq (x0:Za) (x1:Zi)  : Nat->Za->Zg->Int->Int->Option (Zg×Za)
 | 0,_,_,_,_=>none
 | m+1,vb0,vb2,v1,v2=>Zhp x0 x1  (Zaq x0 x1  m) vb0 vb2 v1 v2
def Zhs (x0:Za) (x1:Zi)  (k:Za->Zg->(List Zm)->Int->Int->Option (Zg×Za)) (vb0:Za) (vb2:Zg) (v3:List Zm) (v4:Int) (v5:Int):Option (Zg×Za):=
 if decide (v5 < v4)=true then (
  (idx v3 v5).bind λa4=>
  (Jf vb0.conf a4.who).bind λr5=>
  if r5=true then (
   (idx vb0.m a4.who).bind λa5=>
   (Zvy a5 a4.req).bind λr6=>
   (W9 vb0.m a4.who r6.1).bind λy3=>
   k {vb0 with m:=y3} vb2 v3 v4 (Zq v5 1))
  else (
   k vb0 vb2 v3 v4 (Zq v5 1)))
 else (
  Zaq x0 x1 FU vb0 vb2 (vb0.splits.length:Int) 0)
def Ze2 (x0:Za) (x1:Zi)  : Nat->Za->Zg->(List Zm)->Int->Int->Option (Zg×Za)
 | 0,_,_,_,_,_=>none
 | m+1,vb0,vb2,v3,v4,v5=>Zhs x0 x1  (Ze2 x0 x1  m) vb0 vb2 v3 v4 v5
def Ze7 (x0:Za) (x1:Zi)  (vb2:Zg):Option (Zg×Za):=
 (Zv0 x1 x0.now).bind λr7=>
 Ze2 x0 x1 FU x0 vb2 r7 (r7.length:Int) 0
def Ze6 (x0:Za) (x1:Zi)  (vb2:Zg):Option (Zg×Za):=
 if x0.data_.live=true then (
  (idx x0.m x0.data_.who).bind λa6=>
  (Zeb a6 x0.data_.beat).bind λr8=>
  Ze7 x0 x1 {vb2 with data_:=r8,from_:=x0.data_.who})
 else (
  Ze7 x0 x1 vb2)
def Znl (x0:Za) (x1:Zi):Option (Zg×Za):=
 if x0.addr.live=true then (
  (idx x0.m x0.addr.who).bind λa7=>
  (Zeb a7 x0.addr.beat).bind λr9=>
  if x0.addr.first=true then (
   Ze6 x0 x1 (Zg.mk x0.now r9 2 x0.addr.who (-1) (-1) true 0 (-1)))
  else (
   Ze6 x0 x1 (Zg.mk x0.now r9 3 x0.addr.who (-1) (-1) true 0 (-1))))
 else (
  Ze6 x0 x1 (Zg.mk x0.now (-1) 0 (-1) (-1) (-1) true 0 (-1)))
def Zlt (x0:Za) (x1:Zi) (x2:Int)  (k:Za->(List Zg)->Int->Option (Za×List Zg)) (vb0:Za) (v0:List Zg) (v1:Int):Option (Za×List Zg):=
 if decide (v1 < x2)=true then (
  (Znl vb0 x1).bind λr0=>
  (X8 72 v0 [r0.1]).bind λz0=>
  k r0.2 z0 (Zq v1 1))
 else (
  (Ztl vb0).bind λr1=>
  some (r1,v0))
def Zoz (x0:Za) (x1:Zi) (x2:Int)  : Nat->Za->(List Zg)->Int->Option (Za×List Zg)
 | 0,_,_,_=>none
 | m+1,vb0,v0,v1=>Zlt x0 x1 x2  (Zoz x0 x1 x2  m) vb0 v0 v1
def Zn9 (x0:Za) (x1:Zi) (x2:Int)  (vb0:Za) (v2:Bool):Option (Za×List Zg):=
 if v2=true then (
  some (vb0,[]))
 else (
  Zoz x0 x1 x2 FU vb0 [] 0)
def Zyh (x0:Za) (x1:Zi) (x2:Int):Option (Za×List Zg):=
 (Ztl x0).bind λr2=>
 (Zrj x0).bind λr3=>
 if (!r3)=true then (
  Zn9 x0 x1 x2 r2 true)
 else (
  (Yu x2 0 (Y6 4000 x0.now)).bind λr4=>
  Zn9 x0 x1 x2 r2 (!r4))
def Ztf (x0:Zn) (x1:Zn):Option Bool:=
 if decide (x0.cycle≠x1.cycle)=true then (
  some false)
 else (
  if decide (x0.who≠x1.who)=true then (
   some false)
  else (
   if (x0.write != x1.write)=true then (
    some false)
   else (
    if decide (x0.addr≠x1.addr)=true then (
     some false)
    else (
     if decide (x0.size≠x1.size)=true then (
      some false)
     else (
      if decide (x0.value≠x1.value)=true then (
       some false)
      else (
       if decide (x0.resp≠x1.resp)=true then (
        some false)
       else (
        some true)))))))
def Yez (x0:List Zn) (x1:List Zn)  (k:Int->Option Bool) (v0:Int):Option Bool:=
 if decide (v0 < (x0.length:Int))=true then (
  (idx x0 v0).bind λa0=>
  (idx x1 v0).bind λa1=>
  (Ztf a0 a1).bind λr0=>
  if (!r0)=true then (
   some false)
  else (
   k (Zq v0 1)))
 else (
  some true)
def Zl0 (x0:List Zn) (x1:List Zn)  : Nat->Int->Option Bool
 | 0,_=>none
 | m+1,v0=>Yez x0 x1  (Zl0 x0 x1  m) v0
def Zwa (x0:List Zn) (x1:List Zn):Option Bool:=
 if decide ((x0.length:Int)≠(x1.length:Int))=true then (
  some false)
 else (
  Zl0 x0 x1 FU 0)
def Zpz (x0:Zd) (x1:Zd):Option Bool:=
 if decide (x0.weight≠x1.weight)=true then (
  some false)
 else (
  if (x0.prio != x1.prio)=true then (
   some false)
  else (
   if decide (x0.every≠x1.every)=true then (
    some false)
   else (
    if decide (x0.cap≠x1.cap)=true then (
     some false)
    else (
     some true))))
def Ybq (x0:List Zd) (x1:List Zd)  (k:Int->Option Bool) (v0:Int):Option Bool:=
 if decide (v0 < (x0.length:Int))=true then (
  (idx x0 v0).bind λa0=>
  (idx x1 v0).bind λa1=>
  (Zpz a0 a1).bind λr0=>
  if (!r0)=true then (
   some false)
  else (
   k (Zq v0 1)))
 else (
  some true)
def Zi1 (x0:List Zd) (x1:List Zd)  : Nat->Int->Option Bool
 | 0,_=>none
 | m+1,v0=>Ybq x0 x1  (Zi1 x0 x1  m) v0
def Zt1 (x0:List Zd) (x1:List Zd):Option Bool:=
 if decide ((x0.length:Int)≠(x1.length:Int))=true then (
  some false)
 else (
  Zi1 x0 x1 FU 0)
def Zyt (x0:Zl) (x1:Zl):Option Bool:=
 (Zt1 x0.masters x1.masters).bind λr0=>
 if (!r0)=true then (
  some false)
 else (
  if decide (x0.quantum≠x1.quantum)=true then (
   some false)
  else (
   if decide (x0.maxWait≠x1.maxWait)=true then (
    some false)
   else (
    if decide (x0.maxRetry≠x1.maxRetry)=true then (
     some false)
    else (
     if decide (x0.maxSplit≠x1.maxSplit)=true then (
      some false)
     else (
      if decide (x0.lockMost≠x1.lockMost)=true then (
       some false)
      else (
       some true))))))
def Zkq (x0:List Int) (x1:List Int)  (k:Int->Option Bool) (v0:Int):Option Bool:=
 if decide (v0 < (x0.length:Int))=true then (
  (idx x0 v0).bind λa0=>
  (idx x1 v0).bind λa1=>
  if decide (a0≠a1)=true then (
   some false)
  else (
   k (Zq v0 1)))
 else (
  some true)
def Zo8 (x0:List Int) (x1:List Int)  : Nat->Int->Option Bool
 | 0,_=>none
 | m+1,v0=>Zkq x0 x1  (Zo8 x0 x1  m) v0
def Zc0 (x0:List Int) (x1:List Int):Option Bool:=
 if decide ((x0.length:Int)≠(x1.length:Int))=true then (
  some false)
 else (
  Zo8 x0 x1 FU 0)
def Zrn (x0:Zf) (x1:Zf):Option Bool:=
 if (x0.write != x1.write)=true then (
  some false)
 else (
  if decide (x0.addr≠x1.addr)=true then (
   some false)
  else (
   if decide (x0.size≠x1.size)=true then (
    some false)
   else (
    if decide (x0.burst≠x1.burst)=true then (
     some false)
    else (
     if (x0.lock != x1.lock)=true then (
      some false)
     else (
      (Zc0 x0.data_ x1.data_).bind λr0=>
      if (!r0)=true then (
       some false)
      else (
       some true))))))
def Yhi (x0:List Zf) (x1:List Zf)  (k:Int->Option Bool) (v0:Int):Option Bool:=
 if decide (v0 < (x0.length:Int))=true then (
  (idx x0 v0).bind λa0=>
  (idx x1 v0).bind λa1=>
  (Zrn a0 a1).bind λr0=>
  if (!r0)=true then (
   some false)
  else (
   k (Zq v0 1)))
 else (
  some true)
def Zoy (x0:List Zf) (x1:List Zf)  : Nat->Int->Option Bool
 | 0,_=>none
 | m+1,v0=>Yhi x0 x1  (Zoy x0 x1  m) v0
def Zx3 (x0:List Zf) (x1:List Zf):Option Bool:=
 if decide ((x0.length:Int)≠(x1.length:Int))=true then (
  some false)
 else (
  Zoy x0 x1 FU 0)
def Z1u (x0:Zb) (x1:Zb):Option Bool:=
 (Zx3 x0.queue x1.queue).bind λr0=>
 if (!r0)=true then (
  some false)
 else (
  if decide (x0.beat≠x1.beat)=true then (
   some false)
  else (
   if decide (x0.done≠x1.done)=true then (
    some false)
   else (
    if decide (x0.tries≠x1.tries)=true then (
     some false)
    else (
     if (x0.parted != x1.parted)=true then (
      some false)
     else (
      if (x0.broken != x1.broken)=true then (
       some false)
      else (
       some true))))))
def Yia (x0:List Zb) (x1:List Zb)  (k:Int->Option Bool) (v0:Int):Option Bool:=
 if decide (v0 < (x0.length:Int))=true then (
  (idx x0 v0).bind λa0=>
  (idx x1 v0).bind λa1=>
  (Z1u a0 a1).bind λr0=>
  if (!r0)=true then (
   some false)
  else (
   k (Zq v0 1)))
 else (
  some true)
def Zo7 (x0:List Zb) (x1:List Zb)  : Nat->Int->Option Bool
 | 0,_=>none
 | m+1,v0=>Yia x0 x1  (Zo7 x0 x1  m) v0
def Zyi (x0:List Zb) (x1:List Zb):Option Bool:=
 if decide ((x0.length:Int)≠(x1.length:Int))=true then (
  some false)
 else (
  Zo7 x0 x1 FU 0)
def Z2n (x0:Z2) (x1:Z2):Option Bool:=
 if decide (x0.at_≠x1.at_)=true then (
  some false)
 else (
  if decide (x0.credit≠x1.credit)=true then (
   some false)
  else (
   some true))
def Zs8 (x0:Zc) (x1:Zc):Option Bool:=
 if decide (x0.tokens≠x1.tokens)=true then (
  some false)
 else (
  if decide (x0.count≠x1.count)=true then (
   some false)
  else (
   some true))
def Z94 (x0:List Zc) (x1:List Zc)  (k:Int->Option Bool) (v0:Int):Option Bool:=
 if decide (v0 < (x0.length:Int))=true then (
  (idx x0 v0).bind λa0=>
  (idx x1 v0).bind λa1=>
  (Zs8 a0 a1).bind λr0=>
  if (!r0)=true then (
   some false)
  else (
   k (Zq v0 1)))
 else (
  some true)
def Zhr (x0:List Zc) (x1:List Zc)  : Nat->Int->Option Bool
 | 0,_=>none
 | m+1,v0=>Z94 x0 x1  (Zhr x0 x1  m) v0
def Zqt (x0:List Zc) (x1:List Zc):Option Bool:=
 if decide ((x0.length:Int)≠(x1.length:Int))=true then (
  some false)
 else (
  Zhr x0 x1 FU 0)
def Ztd (x0:Zh) (x1:Zh):Option Bool:=
 if (x0.live != x1.live)=true then (
  some false)
 else (
  if decide (x0.who≠x1.who)=true then (
   some false)
  else (
   if decide (x0.beat≠x1.beat)=true then (
    some false)
   else (
    if (x0.first != x1.first)=true then (
     some false)
    else (
     if decide (x0.by_≠x1.by_)=true then (
      some false)
     else (
      if decide (x0.left≠x1.left)=true then (
       some false)
      else (
       if decide (x0.resp≠x1.resp)=true then (
        some false)
       else (
        if (x0.second != x1.second)=true then (
         some false)
        else (
         some true))))))))
def Z8g (x0:Zo) (x1:Zo):Option Bool:=
 (Zc0 x0.regs x1.regs).bind λr0=>
 if (!r0)=true then (
  some false)
 else (
  if decide (x0.timer≠x1.timer)=true then (
   some false)
  else (
   (Zc0 x0.fifo x1.fifo).bind λr1=>
   if (!r1)=true then (
    some false)
   else (
    some true)))
def Zvv (x0:Zj) (x1:Zj):Option Bool:=
 (Zc0 x0.mem x1.mem).bind λr0=>
 if (!r0)=true then (
  some false)
 else (
  (Z8g x0.dev x1.dev).bind λr1=>
  if (!r1)=true then (
   some false)
  else (
   some true))
def Zrl (x0:Za) (x1:Za):Option Bool:=
 (Zyt x0.conf x1.conf).bind λr0=>
 if (!r0)=true then (
  some false)
 else (
  if decide (x0.now≠x1.now)=true then (
   some false)
  else (
   (Zyi x0.m x1.m).bind λr1=>
   if (!r1)=true then (
    some false)
   else (
    (Z2n x0.arb x1.arb).bind λr2=>
    if (!r2)=true then (
     some false)
    else (
     (Zqt x0.buckets x1.buckets).bind λr3=>
     if (!r3)=true then (
      some false)
     else (
      (Zc0 x0.splits x1.splits).bind λr4=>
      if (!r4)=true then (
       some false)
      else (
       if decide (x0.holder≠x1.holder)=true then (
        some false)
       else (
        if decide (x0.held≠x1.held)=true then (
         some false)
        else (
         if decide (x0.last≠x1.last)=true then (
          some false)
         else (
          (Ztd x0.addr x1.addr).bind λr5=>
          if (!r5)=true then (
           some false)
          else (
           (Ztd x0.data_ x1.data_).bind λr6=>
           if (!r6)=true then (
            some false)
           else (
            (Zvv x0.model x1.model).bind λr7=>
            if (!r7)=true then (
             some false)
            else (
             if decide (x0.picks≠x1.picks)=true then (
              some false)
             else (
              (Zwa x0.log x1.log).bind λr8=>
              if (!r8)=true then (
               some false)
              else (
               some true))))))))))))))
def Zty (x0:Zm) (x1:Zm):Option Bool:=
 if decide (x0.at_≠x1.at_)=true then (
  some false)
 else (
  if decide (x0.who≠x1.who)=true then (
   some false)
  else (
   (Zrn x0.req x1.req).bind λr0=>
   if (!r0)=true then (
    some false)
   else (
    some true)))
def Yep (x0:List Zm) (x1:List Zm)  (k:Int->Option Bool) (v0:Int):Option Bool:=
 if decide (v0 < (x0.length:Int))=true then (
  (idx x0 v0).bind λa0=>
  (idx x1 v0).bind λa1=>
  (Zty a0 a1).bind λr0=>
  if (!r0)=true then (
   some false)
  else (
   k (Zq v0 1)))
 else (
  some true)
def Zk8 (x0:List Zm) (x1:List Zm)  : Nat->Int->Option Bool
 | 0,_=>none
 | m+1,v0=>Yep x0 x1  (Zk8 x0 x1  m) v0
def Zvx (x0:List Zm) (x1:List Zm):Option Bool:=
 if decide ((x0.length:Int)≠(x1.length:Int))=true then (
  some false)
 else (
  Zk8 x0 x1 FU 0)
def Zt9 (x0:Zi) (x1:Zi):Option Bool:=
 (Zvx x0.posts x1.posts).bind λr0=>
 if (!r0)=true then (
  some false)
 else (
  (Zc0 x0.waits x1.waits).bind λr1=>
  if (!r1)=true then (
   some false)
  else (
   (Zc0 x0.says x1.says).bind λr2=>
   if (!r2)=true then (
    some false)
   else (
    some true)))
def Ztg (x0:Zg) (x1:Zg):Option Bool:=
 if decide (x0.cycle≠x1.cycle)=true then (
  some false)
 else (
  if decide (x0.addr≠x1.addr)=true then (
   some false)
  else (
   if decide (x0.kind≠x1.kind)=true then (
    some false)
   else (
    if decide (x0.who≠x1.who)=true then (
     some false)
    else (
     if decide (x0.data_≠x1.data_)=true then (
      some false)
     else (
      if decide (x0.from_≠x1.from_)=true then (
       some false)
      else (
       if (x0.ready != x1.ready)=true then (
        some false)
       else (
        if decide (x0.resp≠x1.resp)=true then (
         some false)
        else (
         if decide (x0.got≠x1.got)=true then (
          some false)
         else (
          some true)))))))))
def Yer (x0:List Zg) (x1:List Zg)  (k:Int->Option Bool) (v0:Int):Option Bool:=
 if decide (v0 < (x0.length:Int))=true then (
  (idx x0 v0).bind λa0=>
  (idx x1 v0).bind λa1=>
  (Ztg a0 a1).bind λr0=>
  if (!r0)=true then (
   some false)
  else (
   k (Zq v0 1)))
 else (
  some true)
def Zko (x0:List Zg) (x1:List Zg)  : Nat->Int->Option Bool
 | 0,_=>none
 | m+1,v0=>Yer x0 x1  (Zko x0 x1  m) v0
def Zvn (x0:List Zg) (x1:List Zg):Option Bool:=
 if decide ((x0.length:Int)≠(x1.length:Int))=true then (
  some false)
 else (
  Zko x0 x1 FU 0)
def Zgn (x0:List Zn) (x1:Int)  (k:Int->Int->Option Int) (v0:Int) (v1:Int):Option Int:=
 if decide (v1 < (x0.length:Int))=true then (
  (idx x0 v1).bind λa0=>
  if decide (a0.cycle≠v0)=true then (
   some (-1))
  else (
   if decide (a0.who≠(Zq v0 1))=true then (
    some (-1))
   else (
    if (a0.write != decide ((Zam (Zq (Zq v0 1) 1) 3)=0))=true then (
     some (-1))
    else (
     if decide (a0.addr≠(Zq (Zq (Zq v0 1) 1) 1))=true then (
      some (-1))
     else (
      if decide (a0.size≠(Zq (Zq (Zq (Zq v0 1) 1) 1) 1))=true then (
       some (-1))
      else (
       if decide (a0.value≠(Zq (Zq (Zq (Zq (Zq v0 1) 1) 1) 1) 1))=true then (
        some (-1))
       else (
        if decide (a0.resp≠(Zq (Zq (Zq (Zq (Zq (Zq v0 1) 1) 1) 1) 1) 1))=true then (
         some (-1))
        else (
         k (Zq (Zq (Zq (Zq (Zq (Zq (Zq v0 1) 1) 1) 1) 1) 1) 1) (Zq v1 1)))))))))
 else (
  some v0)
def Zpg (x0:List Zn) (x1:Int)  : Nat->Int->Int->Option Int
 | 0,_,_=>none
 | m+1,v0,v1=>Zgn x0 x1  (Zpg x0 x1  m) v0 v1
def Zqr (x0:List Zn) (x1:Int):Option Int:=
 Zpg x0 x1 FU x1 0
def Zff (x0:List Zd) (x1:Int)  (k:Int->Int->Option Int) (v0:Int) (v1:Int):Option Int:=
 if decide (v1 < (x0.length:Int))=true then (
  (idx x0 v1).bind λa0=>
  if decide (a0.weight≠v0)=true then (
   some (-1))
  else (
   if (a0.prio != decide ((Zam (Zq v0 1) 3)=0))=true then (
    some (-1))
   else (
    if decide (a0.every≠(Zq (Zq v0 1) 1))=true then (
     some (-1))
    else (
     if decide (a0.cap≠(Zq (Zq (Zq v0 1) 1) 1))=true then (
      some (-1))
     else (
      k (Zq (Zq (Zq (Zq v0 1) 1) 1) 1) (Zq v1 1))))))
 else (
  some v0)
def Znp (x0:List Zd) (x1:Int)  : Nat->Int->Int->Option Int
 | 0,_,_=>none
 | m+1,v0,v1=>Zff x0 x1  (Znp x0 x1  m) v0 v1
def Zod (x0:List Zd) (x1:Int):Option Int:=
 Znp x0 x1 FU x1 0
def Z04 (x0:Zl) (x1:Int):Option Int:=
 (Zod x0.masters x1).bind λr0=>
 if decide (r0 < 0)=true then (
  some (-1))
 else (
  some r0)
def Zhh (x0:List Int) (x1:Int)  (k:Int->Int->Option Int) (v0:Int) (v1:Int):Option Int:=
 if decide (v1 < (x0.length:Int))=true then (
  (idx x0 v1).bind λa0=>
  if decide (a0≠v0)=true then (
   some (-1))
  else (
   k (Zq v0 1) (Zq v1 1)))
 else (
  some v0)
def Zq5 (x0:List Int) (x1:Int)  : Nat->Int->Int->Option Int
 | 0,_,_=>none
 | m+1,v0,v1=>Zhh x0 x1  (Zq5 x0 x1  m) v0 v1
def Zc6 (x0:List Int) (x1:Int):Option Int:=
 Zq5 x0 x1 FU x1 0
def Zht (x0:List Zf) (x1:Int)  (k:Int->Int->Option Int) (v0:Int) (v1:Int):Option Int:=
 if decide (v1 < (x0.length:Int))=true then (
  (idx x0 v1).bind λa0=>
  if (a0.write != decide ((Zam v0 3)=0))=true then (
   some (-1))
  else (
   if decide (a0.addr≠(Zq v0 1))=true then (
    some (-1))
   else (
    if decide (a0.size≠(Zq (Zq v0 1) 1))=true then (
     some (-1))
    else (
     if decide (a0.burst≠(Zq (Zq (Zq v0 1) 1) 1))=true then (
      some (-1))
     else (
      if (a0.lock != decide ((Zam (Zq (Zq (Zq (Zq v0 1) 1) 1) 1) 3)=0))=true then (
       some (-1))
      else (
       (Zc6 a0.data_ (Zq (Zq (Zq (Zq (Zq v0 1) 1) 1) 1) 1)).bind λr0=>
       if decide (r0 < 0)=true then (
        some (-1))
       else (
        k r0 (Zq v1 1))))))))
 else (
  some v0)
def Zq7 (x0:List Zf) (x1:Int)  : Nat->Int->Int->Option Int
 | 0,_,_=>none
 | m+1,v0,v1=>Zht x0 x1  (Zq7 x0 x1  m) v0 v1
def Zr4 (x0:List Zf) (x1:Int):Option Int:=
 Zq7 x0 x1 FU x1 0
def Zhl (x0:List Zb) (x1:Int)  (k:Int->Int->Option Int) (v0:Int) (v1:Int):Option Int:=
 if decide (v1 < (x0.length:Int))=true then (
  (idx x0 v1).bind λa0=>
  (Zr4 a0.queue v0).bind λr0=>
  if decide (r0 < 0)=true then (
   some (-1))
  else (
   if decide (a0.beat≠r0)=true then (
    some (-1))
   else (
    if decide (a0.done≠(Zq r0 1))=true then (
     some (-1))
    else (
     if decide (a0.tries≠(Zq (Zq r0 1) 1))=true then (
      some (-1))
     else (
      if (a0.parted != decide ((Zam (Zq (Zq (Zq r0 1) 1) 1) 3)=0))=true then (
       some (-1))
      else (
       if (a0.broken != decide ((Zam (Zq (Zq (Zq (Zq r0 1) 1) 1) 1) 3)=0))=true then (
        some (-1))
       else (
        k (Zq (Zq (Zq (Zq (Zq r0 1) 1) 1) 1) 1) (Zq v1 1))))))))
 else (
  some v0)
def Zq2 (x0:List Zb) (x1:Int)  : Nat->Int->Int->Option Int
 | 0,_,_=>none
 | m+1,v0,v1=>Zhl x0 x1  (Zq2 x0 x1  m) v0 v1
def Zti (x0:List Zb) (x1:Int):Option Int:=
 Zq2 x0 x1 FU x1 0
def Zd0 (x0:List Zc) (x1:Int)  (k:Int->Int->Option Int) (v0:Int) (v1:Int):Option Int:=
 if decide (v1 < (x0.length:Int))=true then (
  (idx x0 v1).bind λa0=>
  if decide (a0.tokens≠v0)=true then (
   some (-1))
  else (
   if decide (a0.count≠(Zq v0 1))=true then (
    some (-1))
   else (
    k (Zq (Zq v0 1) 1) (Zq v1 1))))
 else (
  some v0)
def Zkm (x0:List Zc) (x1:Int)  : Nat->Int->Int->Option Int
 | 0,_,_=>none
 | m+1,v0,v1=>Zd0 x0 x1  (Zkm x0 x1  m) v0 v1
def Zlk (x0:List Zc) (x1:Int):Option Int:=
 Zkm x0 x1 FU x1 0
def Z3m (x0:Zo) (x1:Int):Option Int:=
 (Zc6 x0.regs x1).bind λr0=>
 if decide (r0 < 0)=true then (
  some (-1))
 else (
  (Zc6 x0.fifo r0).bind λr1=>
  if decide (r1 < 0)=true then (
   some (-1))
  else (
   some r1))
def Zxj (x0:Zj) (x1:Int):Option Int:=
 (Zc6 x0.mem x1).bind λr0=>
 if decide (r0 < 0)=true then (
  some (-1))
 else (
  (Z3m x0.dev r0).bind λr1=>
  if decide (r1 < 0)=true then (
   some (-1))
  else (
   some r1))
def Zpu (x0:Za) (x1:Int):Option Int:=
 (Z04 x0.conf x1).bind λr0=>
 if decide (r0 < 0)=true then (
  some (-1))
 else (
  (Zti x0.m r0).bind λr1=>
  if decide (r1 < 0)=true then (
   some (-1))
  else (
   (Zlk x0.buckets r1).bind λr2=>
   if decide (r2 < 0)=true then (
    some (-1))
   else (
    (Zc6 x0.splits r2).bind λr3=>
    if decide (r3 < 0)=true then (
     some (-1))
    else (
     (Zxj x0.model r3).bind λr4=>
     if decide (r4 < 0)=true then (
      some (-1))
     else (
      (Zqr x0.log r4).bind λr5=>
      if decide (r5 < 0)=true then (
       some (-1))
      else (
       some r5))))))
def Zgg (x0:List Zg) (x1:Int)  (k:Int->Int->Option Int) (v0:Int) (v1:Int):Option Int:=
 if decide (v1 < (x0.length:Int))=true then (
  (idx x0 v1).bind λa0=>
  if decide (a0.cycle≠v0)=true then (
   some (-1))
  else (
   if decide (a0.addr≠(Zq v0 1))=true then (
    some (-1))
   else (
    if decide (a0.kind≠(Zq (Zq v0 1) 1))=true then (
     some (-1))
    else (
     if decide (a0.who≠(Zq (Zq (Zq v0 1) 1) 1))=true then (
      some (-1))
     else (
      if decide (a0.data_≠(Zq (Zq (Zq (Zq v0 1) 1) 1) 1))=true then (
       some (-1))
      else (
       if decide (a0.from_≠(Zq (Zq (Zq (Zq (Zq v0 1) 1) 1) 1) 1))=true then (
        some (-1))
       else (
        if (a0.ready != decide ((Zam (Zq (Zq (Zq (Zq (Zq (Zq v0 1) 1) 1) 1) 1) 1) 3)=0))=true then (
         some (-1))
        else (
         if decide (a0.resp≠(Zq (Zq (Zq (Zq (Zq (Zq (Zq v0 1) 1) 1) 1) 1) 1) 1))=true then (
          some (-1))
         else (
          if decide (a0.got≠(Zq (Zq (Zq (Zq (Zq (Zq (Zq (Zq v0 1) 1) 1) 1) 1) 1) 1) 1))=true then (
           some (-1))
          else (
           k (Zq (Zq (Zq (Zq (Zq (Zq (Zq (Zq (Zq v0 1) 1) 1) 1) 1) 1) 1) 1) 1) (Zq v1 1)))))))))))
 else (
  some v0)
def Zph (x0:List Zg) (x1:Int)  : Nat->Int->Int->Option Int
 | 0,_,_=>none
 | m+1,v0,v1=>Zgg x0 x1  (Zph x0 x1  m) v0 v1
def Zqv (x0:List Zg) (x1:Int):Option Int:=
 Zph x0 x1 FU x1 0
end Go.Proofs.YtagdmghmblplbaaGreat.Ev
namespace Go.Proofs.YtagdmghmblplbaaGreat.Ev
open Go Go.Proofs Go.RowKit
def Zd.enc (x:Zd):List V:=[.lit (.int .i64 x.weight),.lit (.bool x.prio),.lit (.int .i64 x.every),.lit (.int .i64 x.cap)]
theorem Zd.enc_len (x:Zd):(Zd.enc x).length=4:=rfl
theorem Zd.enc_lit (x:Zd):(Zd.enc x).all Zys=true:=rfl
def Zl.enc (x:Zl):List V:=[.tr (x.masters.map Zd.enc),.lit (.int .i64 x.quantum),.lit (.int .i64 x.maxWait),.lit (.int .i64 x.maxRetry),.lit (.int .i64 x.maxSplit),.lit (.int .i64 x.lockMost)]
def Zf.enc (x:Zf):List V:=[.lit (.bool x.write),.lit (.int .i64 x.addr),.lit (.int .i64 x.size),.lit (.int .i64 x.burst),.lit (.bool x.lock),.tr (x.data_.map Ze)]
theorem Zf.enc_len (x:Zf):(Zf.enc x).length=6:=rfl
def Zm.enc (x:Zm):List V:=[.lit (.int .i64 x.at_),.lit (.int .i64 x.who),.lit (.bool x.req.write),.lit (.int .i64 x.req.addr),.lit (.int .i64 x.req.size),.lit (.int .i64 x.req.burst),.lit (.bool x.req.lock),.tr (x.req.data_.map Ze)]
theorem Zm.enc_len (x:Zm):(Zm.enc x).length=8:=rfl
def Zi.enc (x:Zi):List V:=[.tr (x.posts.map Zm.enc),.tr (x.waits.map Ze),.tr (x.says.map Ze)]
def Zb.enc (x:Zb):List V:=[.tr (x.queue.map Zf.enc),.lit (.int .i64 x.beat),.lit (.int .i64 x.done),.lit (.int .i64 x.tries),.lit (.bool x.parted),.lit (.bool x.broken)]
theorem Zb.enc_len (x:Zb):(Zb.enc x).length=6:=rfl
def Z2.enc (x:Z2):List V:=[.lit (.int .i64 x.at_),.lit (.int .i64 x.credit)]
def Zc.enc (x:Zc):List V:=[.lit (.int .i64 x.tokens),.lit (.int .i64 x.count)]
theorem Zc.enc_len (x:Zc):(Zc.enc x).length=2:=rfl
theorem Zc.enc_lit (x:Zc):(Zc.enc x).all Zys=true:=rfl
def Zh.enc (x:Zh):List V:=[.lit (.bool x.live),.lit (.int .i64 x.who),.lit (.int .i64 x.beat),.lit (.bool x.first),.lit (.int .i64 x.by_),.lit (.int .i64 x.left),.lit (.int .i64 x.resp),.lit (.bool x.second)]
theorem Zh.enc_len (x:Zh):(Zh.enc x).length=8:=rfl
def Zo.enc (x:Zo):List V:=[.tr (x.regs.map Ze),.lit (.int .i64 x.timer),.tr (x.fifo.map Ze)]
def Zj.enc (x:Zj):List V:=[.tr (x.mem.map Ze),.tr (x.dev.regs.map Ze),.lit (.int .i64 x.dev.timer),.tr (x.dev.fifo.map Ze)]
def Zn.enc (x:Zn):List V:=[.lit (.int .i64 x.cycle),.lit (.int .i64 x.who),.lit (.bool x.write),.lit (.int .i64 x.addr),.lit (.int .i64 x.size),.lit (.int .i64 x.value),.lit (.int .i64 x.resp)]
theorem Zn.enc_len (x:Zn):(Zn.enc x).length=7:=rfl
theorem Zn.enc_lit (x:Zn):(Zn.enc x).all Zys=true:=rfl
def Za.enc (x:Za):List V:=[.tr (x.conf.masters.map Zd.enc),.lit (.int .i64 x.conf.quantum),.lit (.int .i64 x.conf.maxWait),.lit (.int .i64 x.conf.maxRetry),.lit (.int .i64 x.conf.maxSplit),.lit (.int .i64 x.conf.lockMost),.lit (.int .i64 x.now),.tr (x.m.map Zb.enc),.lit (.int .i64 x.arb.at_),.lit (.int .i64 x.arb.credit),.tr (x.buckets.map Zc.enc),.tr (x.splits.map Ze),.lit (.int .i64 x.holder),.lit (.int .i64 x.held),.lit (.int .i64 x.last),.lit (.bool x.addr.live),.lit (.int .i64 x.addr.who),.lit (.int .i64 x.addr.beat),.lit (.bool x.addr.first),.lit (.int .i64 x.addr.by_),.lit (.int .i64 x.addr.left),.lit (.int .i64 x.addr.resp),.lit (.bool x.addr.second),.lit (.bool x.data_.live),.lit (.int .i64 x.data_.who),.lit (.int .i64 x.data_.beat),.lit (.bool x.data_.first),.lit (.int .i64 x.data_.by_),.lit (.int .i64 x.data_.left),.lit (.int .i64 x.data_.resp),.lit (.bool x.data_.second),.tr (x.model.mem.map Ze),.tr (x.model.dev.regs.map Ze),.lit (.int .i64 x.model.dev.timer),.tr (x.model.dev.fifo.map Ze),.lit (.int .i64 x.picks),.tr (x.log.map Zn.enc)]
def Zg.enc (x:Zg):List V:=[.lit (.int .i64 x.cycle),.lit (.int .i64 x.addr),.lit (.int .i64 x.kind),.lit (.int .i64 x.who),.lit (.int .i64 x.data_),.lit (.int .i64 x.from_),.lit (.bool x.ready),.lit (.int .i64 x.resp),.lit (.int .i64 x.got)]
theorem Zg.enc_len (x:Zg):(Zg.enc x).length=9:=rfl
def Za.ow (x:Za):List V:=[.own 150 (x.conf.masters.map Zd.enc),il x.conf.quantum,il x.conf.maxWait,il x.conf.maxRetry,il x.conf.maxSplit,il x.conf.lockMost,il x.now,.own 156 (x.m.map Zb.enc),il x.arb.at_,il x.arb.credit,.own 158 (x.buckets.map Zc.enc),.own 3 (x.splits.map Ze),il x.holder,il x.held,il x.last,bl x.addr.live,il x.addr.who,il x.addr.beat,bl x.addr.first,il x.addr.by_,il x.addr.left,il x.addr.resp,bl x.addr.second,bl x.data_.live,il x.data_.who,il x.data_.beat,bl x.data_.first,il x.data_.by_,il x.data_.left,il x.data_.resp,bl x.data_.second,.own 3 (x.model.mem.map Ze),.own 3 (x.model.dev.regs.map Ze),il x.model.dev.timer,.own 3 (x.model.dev.fifo.map Ze),il x.picks,.own 113 (x.log.map Zn.enc)]
def Za.rl (x:Za) (n:Nat):List V:=[.sl (1,n) 0 (x.conf.masters.map Zd.enc).length,il x.conf.quantum,il x.conf.maxWait,il x.conf.maxRetry,il x.conf.maxSplit,il x.conf.lockMost,il x.now,.sl (1,n+1) 0 (x.m.map Zb.enc).length,il x.arb.at_,il x.arb.credit,.sl (1,n+2) 0 (x.buckets.map Zc.enc).length,.sl (1,n+3) 0 (x.splits.map Ze).length,il x.holder,il x.held,il x.last,bl x.addr.live,il x.addr.who,il x.addr.beat,bl x.addr.first,il x.addr.by_,il x.addr.left,il x.addr.resp,bl x.addr.second,bl x.data_.live,il x.data_.who,il x.data_.beat,bl x.data_.first,il x.data_.by_,il x.data_.left,il x.data_.resp,bl x.data_.second,.sl (1,n+4) 0 (x.model.mem.map Ze).length,.sl (1,n+5) 0 (x.model.dev.regs.map Ze).length,il x.model.dev.timer,.sl (1,n+6) 0 (x.model.dev.fifo.map Ze).length,il x.picks,.sl (1,n+7) 0 (x.log.map Zn.enc).length]
def Za.bk (x:Za) (n:Nat):List (Id×Blk):=[((1,n),⟨false,true,true,150,(x.conf.masters.map Zd.enc)⟩),((1,n+1),⟨false,true,true,156,(x.m.map Zb.enc)⟩),((1,n+2),⟨false,true,true,158,(x.buckets.map Zc.enc)⟩),((1,n+3),⟨false,true,true,3,(x.splits.map Ze)⟩),((1,n+4),⟨false,true,true,3,(x.model.mem.map Ze)⟩),((1,n+5),⟨false,true,true,3,(x.model.dev.regs.map Ze)⟩),((1,n+6),⟨false,true,true,3,(x.model.dev.fifo.map Ze)⟩),((1,n+7),⟨false,true,true,113,(x.log.map Zn.enc)⟩)]
def Za.ff (n e b:Nat):List (Id×Id):=[((1,n),(e,b)),((1,n+1),(e,b+7)),((1,n+2),(e,b+10)),((1,n+3),(e,b+11)),((1,n+4),(e,b+31)),((1,n+5),(e,b+32)),((1,n+6),(e,b+34)),((1,n+7),(e,b+36))]
def Za.nm (x:Za):List O:=[.num (x.conf.masters.map Zd.enc).length 0 0 [],.num (x.m.map Zb.enc).length 0 0 [],.num (x.buckets.map Zc.enc).length 0 0 [],.num (x.splits.map Ze).length 0 0 [],.num (x.model.mem.map Ze).length 0 0 [],.num (x.model.dev.regs.map Ze).length 0 0 [],.num (x.model.dev.fifo.map Ze).length 0 0 [],.num (x.log.map Zn.enc).length 0 0 []]
theorem Za.so (x:Za) {q:List O} {p:Prop} (h:Scr q p):Scr q ((x.conf.masters.map Zd.enc).length=(x.conf.masters.map Zd.enc).length/\(x.m.map Zb.enc).length=(x.m.map Zb.enc).length/\(x.buckets.map Zc.enc).length=(x.buckets.map Zc.enc).length/\(x.splits.map Ze).length=(x.splits.map Ze).length/\(x.model.mem.map Ze).length=(x.model.mem.map Ze).length/\(x.model.dev.regs.map Ze).length=(x.model.dev.regs.map Ze).length/\(x.model.dev.fifo.map Ze).length=(x.model.dev.fifo.map Ze).length/\(x.log.map Zn.enc).length=(x.log.map Zn.enc).length/\p):=⟨rfl,rfl,rfl,rfl,rfl,rfl,rfl,rfl,h⟩
theorem Za.sc (x:Za) {q:List O} {p:Prop} (h:Scr q p):Scr (Za.nm x++q) ((x.conf.masters.map Zd.enc).length=(x.conf.masters.map Zd.enc).length/\(x.m.map Zb.enc).length=(x.m.map Zb.enc).length/\(x.buckets.map Zc.enc).length=(x.buckets.map Zc.enc).length/\(x.splits.map Ze).length=(x.splits.map Ze).length/\(x.model.mem.map Ze).length=(x.model.mem.map Ze).length/\(x.model.dev.regs.map Ze).length=(x.model.dev.regs.map Ze).length/\(x.model.dev.fifo.map Ze).length=(x.model.dev.fifo.map Ze).length/\(x.log.map Zn.enc).length=(x.log.map Zn.enc).length/\p):=⟨rfl,rfl,rfl,rfl,rfl,rfl,rfl,rfl,h⟩
def Zo.ow (x:Zo):List V:=[.own 3 (x.regs.map Ze),il x.timer,.own 3 (x.fifo.map Ze)]
def Zo.rl (x:Zo) (n:Nat):List V:=[.sl (1,n) 0 (x.regs.map Ze).length,il x.timer,.sl (1,n+1) 0 (x.fifo.map Ze).length]
def Zo.bk (x:Zo) (n:Nat):List (Id×Blk):=[((1,n),⟨false,true,true,3,(x.regs.map Ze)⟩),((1,n+1),⟨false,true,true,3,(x.fifo.map Ze)⟩)]
def Zo.ff (n e b:Nat):List (Id×Id):=[((1,n),(e,b)),((1,n+1),(e,b+2))]
def Zo.nm (x:Zo):List O:=[.num (x.regs.map Ze).length 0 0 [],.num (x.fifo.map Ze).length 0 0 []]
theorem Zo.so (x:Zo) {q:List O} {p:Prop} (h:Scr q p):Scr q ((x.regs.map Ze).length=(x.regs.map Ze).length/\(x.fifo.map Ze).length=(x.fifo.map Ze).length/\p):=⟨rfl,rfl,h⟩
theorem Zo.sc (x:Zo) {q:List O} {p:Prop} (h:Scr q p):Scr (Zo.nm x++q) ((x.regs.map Ze).length=(x.regs.map Ze).length/\(x.fifo.map Ze).length=(x.fifo.map Ze).length/\p):=⟨rfl,rfl,h⟩
def Zj.ow (x:Zj):List V:=[.own 3 (x.mem.map Ze),.own 3 (x.dev.regs.map Ze),il x.dev.timer,.own 3 (x.dev.fifo.map Ze)]
def Zj.rl (x:Zj) (n:Nat):List V:=[.sl (1,n) 0 (x.mem.map Ze).length,.sl (1,n+1) 0 (x.dev.regs.map Ze).length,il x.dev.timer,.sl (1,n+2) 0 (x.dev.fifo.map Ze).length]
def Zj.bk (x:Zj) (n:Nat):List (Id×Blk):=[((1,n),⟨false,true,true,3,(x.mem.map Ze)⟩),((1,n+1),⟨false,true,true,3,(x.dev.regs.map Ze)⟩),((1,n+2),⟨false,true,true,3,(x.dev.fifo.map Ze)⟩)]
def Zj.ff (n e b:Nat):List (Id×Id):=[((1,n),(e,b)),((1,n+1),(e,b+1)),((1,n+2),(e,b+3))]
def Zj.nm (x:Zj):List O:=[.num (x.mem.map Ze).length 0 0 [],.num (x.dev.regs.map Ze).length 0 0 [],.num (x.dev.fifo.map Ze).length 0 0 []]
theorem Zj.so (x:Zj) {q:List O} {p:Prop} (h:Scr q p):Scr q ((x.mem.map Ze).length=(x.mem.map Ze).length/\(x.dev.regs.map Ze).length=(x.dev.regs.map Ze).length/\(x.dev.fifo.map Ze).length=(x.dev.fifo.map Ze).length/\p):=⟨rfl,rfl,rfl,h⟩
theorem Zj.sc (x:Zj) {q:List O} {p:Prop} (h:Scr q p):Scr (Zj.nm x++q) ((x.mem.map Ze).length=(x.mem.map Ze).length/\(x.dev.regs.map Ze).length=(x.dev.regs.map Ze).length/\(x.dev.fifo.map Ze).length=(x.dev.fifo.map Ze).length/\p):=⟨rfl,rfl,rfl,h⟩
def Zi.ow (x:Zi):List V:=[.own 106 (x.posts.map Zm.enc),.own 3 (x.waits.map Ze),.own 3 (x.says.map Ze)]
def ffi (n:Nat):Nat->List (Id×Id)
 | 0=>[]
 | m+1=>((1,n),(1,n))::ffi (n+1) m
abbrev bx (n:Nat) (r:List V):Id×Blk:=((1,n),⟨true,true,true,0,[r]⟩)
abbrev rx (n t:Nat) (R:List (List V)):Id×Blk:=((1,n),⟨false,true,true,t,R⟩)
end Go.Proofs.YtagdmghmblplbaaGreat.Ev
