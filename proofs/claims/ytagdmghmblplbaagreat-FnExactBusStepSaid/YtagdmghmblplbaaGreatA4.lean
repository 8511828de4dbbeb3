/- A part of the proof of FnExactBusStep: see the text YtagdmghmblplbaaGreatLawFnExactBusStep for what is proved and its conditions. Conditions here: those in each line. -/
import Derived.Test.YtagdmghmblplbaaGreatA3
import Derived.KernelRfl
set_option linter.unusedSimpArgs false
set_option linter.unusedVariables false
set_option linter.unusedSectionVars false
namespace Go.Proofs.YtagdmghmblplbaaGreat.Ev
open Go Go.Proofs
structure Zd where
 weight:Int
 prio:Bool
 every:Int
 cap:Int
 deriving DecidableEq
structure Zk where
 masters:List Zd
 quantum:Int
 maxWait:Int
 maxRetry:Int
 maxSplit:Int
 lockMost:Int
 deriving DecidableEq
structure Zf where
 write:Bool
 addr:Int
 size:Int
 burst:Int
 lock:Bool
 data_:List Int
 deriving DecidableEq
structure Zl where
 at_:Int
 who:Int
 req:Zf
 deriving DecidableEq
structure Zi where
 posts:List Zl
 waits:List Int
 says:List Int
 deriving DecidableEq
structure Zb where
 queue:List Zf
 beat:Int
 done:Int
 tries:Int
 parted:Bool
 broken:Bool
 deriving DecidableEq
structure Z2 where
 at_:Int
 credit:Int
 deriving DecidableEq
structure Zc where
 tokens:Int
 count:Int
 deriving DecidableEq
structure Zg where
 live:Bool
 who:Int
 beat:Int
 first:Bool
 by_:Int
 left:Int
 resp:Int
 second:Bool
 deriving DecidableEq
structure Zn where
 regs:List Int
 timer:Int
 fifo:List Int
 deriving DecidableEq
structure Zh where
 mem:List Int
 dev:Zn
 deriving DecidableEq
structure Zm where
 cycle:Int
 who:Int
 write:Bool
 addr:Int
 size:Int
 value:Int
 resp:Int
 deriving DecidableEq
structure Za where
 conf:Zk
 now:Int
 m:List Zb
 arb:Z2
 buckets:List Zc
 splits:List Int
 holder:Int
 held:Int
 last:Int
 addr:Zg
 data_:Zg
 model:Zh
 picks:Int
 log:List Zm
 deriving DecidableEq
structure Zp where
 cycle:Int
 addr:Int
 kind:Int
 who:Int
 data_:Int
 from_:Int
 ready:Bool
 resp:Int
 got:Int
 deriving DecidableEq
def Zd.ok (z:Zd):Prop:=(Lit.int .i64 z.weight).wf=true/\True/\(Lit.int .i64 z.every).wf=true/\(Lit.int .i64 z.cap).wf=true
def Zk.ok (z:Zk):Prop:=(z.masters.length<=maxLen/\∀x∈z.masters,Zd.ok x)/\(Lit.int .i64 z.quantum).wf=true/\(Lit.int .i64 z.maxWait).wf=true/\(Lit.int .i64 z.maxRetry).wf=true/\(Lit.int .i64 z.maxSplit).wf=true/\(Lit.int .i64 z.lockMost).wf=true
def Zf.ok (z:Zf):Prop:=True/\(Lit.int .i64 z.addr).wf=true/\(Lit.int .i64 z.size).wf=true/\(Lit.int .i64 z.burst).wf=true/\True/\(z.data_.length<=maxLen/\∀x∈z.data_,(Lit.int .i64 x).wf=true)
def Zl.ok (z:Zl):Prop:=(Lit.int .i64 z.at_).wf=true/\(Lit.int .i64 z.who).wf=true/\Zf.ok z.req
def Zi.ok (z:Zi):Prop:=(z.posts.length<=maxLen/\∀x∈z.posts,Zl.ok x)/\(z.waits.length<=maxLen/\∀x∈z.waits,(Lit.int .i64 x).wf=true)/\(z.says.length<=maxLen/\∀x∈z.says,(Lit.int .i64 x).wf=true)
def Zb.ok (z:Zb):Prop:=(z.queue.length<=maxLen/\∀x∈z.queue,Zf.ok x)/\(Lit.int .i64 z.beat).wf=true/\(Lit.int .i64 z.done).wf=true/\(Lit.int .i64 z.tries).wf=true/\True/\True
def Z2.ok (z:Z2):Prop:=(Lit.int .i64 z.at_).wf=true/\(Lit.int .i64 z.credit).wf=true
def Zc.ok (z:Zc):Prop:=(Lit.int .i64 z.tokens).wf=true/\(Lit.int .i64 z.count).wf=true
def Zg.ok (z:Zg):Prop:=True/\(Lit.int .i64 z.who).wf=true/\(Lit.int .i64 z.beat).wf=true/\True/\(Lit.int .i64 z.by_).wf=true/\(Lit.int .i64 z.left).wf=true/\(Lit.int .i64 z.resp).wf=true/\True
def Zn.ok (z:Zn):Prop:=(z.regs.length<=maxLen/\∀x∈z.regs,(Lit.int .i64 x).wf=true)/\(Lit.int .i64 z.timer).wf=true/\(z.fifo.length<=maxLen/\∀x∈z.fifo,(Lit.int .i64 x).wf=true)
def Zh.ok (z:Zh):Prop:=(z.mem.length<=maxLen/\∀x∈z.mem,(Lit.int .i64 x).wf=true)/\Zn.ok z.dev
def Zm.ok (z:Zm):Prop:=(Lit.int .i64 z.cycle).wf=true/\(Lit.int .i64 z.who).wf=true/\True/\(Lit.int .i64 z.addr).wf=true/\(Lit.int .i64 z.size).wf=true/\(Lit.int .i64 z.value).wf=true/\(Lit.int .i64 z.resp).wf=true
def Za.ok (z:Za):Prop:=Zk.ok z.conf/\(Lit.int .i64 z.now).wf=true/\(z.m.length<=maxLen/\∀x∈z.m,Zb.ok x)/\Z2.ok z.arb/\(z.buckets.length<=maxLen/\∀x∈z.buckets,Zc.ok x)/\(z.splits.length<=maxLen/\∀x∈z.splits,(Lit.int .i64 x).wf=true)/\(Lit.int .i64 z.holder).wf=true/\(Lit.int .i64 z.held).wf=true/\(Lit.int .i64 z.last).wf=true/\Zg.ok z.addr/\Zg.ok z.data_/\Zh.ok z.model/\(Lit.int .i64 z.picks).wf=true/\(z.log.length<=maxLen/\∀x∈z.log,Zm.ok x)
abbrev Zd.z0:Zd:=⟨0,false,0,0⟩
abbrev Zk.z0:Zk:=⟨[],0,0,0,0,0⟩
abbrev Zf.z0:Zf:=⟨false,0,0,0,false,[]⟩
abbrev Zl.z0:Zl:=⟨0,0,Zf.z0⟩
abbrev Zb.z0:Zb:=⟨[],0,0,0,false,false⟩
abbrev Z2.z0:Z2:=⟨0,0⟩
abbrev Zc.z0:Zc:=⟨0,0⟩
abbrev Zg.z0:Zg:=⟨false,0,0,false,0,0,0,false⟩
abbrev Zn.z0:Zn:=⟨[],0,[]⟩
abbrev Zh.z0:Zh:=⟨[],Zn.z0⟩
abbrev Zm.z0:Zm:=⟨0,0,false,0,0,0,0⟩
abbrev Za.z0:Za:=⟨Zk.z0,0,[],Z2.z0,[],[],0,0,0,Zg.z0,Zg.z0,Zh.z0,0,[]⟩
abbrev Zp.z0:Zp:=⟨0,0,0,0,0,0,false,0,0⟩
def Z78 (x0:List Zd) (x1:Int):Option Int:=
 if decide ((Y8 x1 (x0.length:Int)) < 0)=true then (
  some (-1))
 else (
  some (Y8 x1 (x0.length:Int)))
def Z5d (x0:Zk) (x1:Int):Option Int:=
 (Z78 x0.masters x1).bind λr0=>
 if decide (r0 < 0)=true then (
  some (-1))
 else (
  some r0)
def Zf1 (x0:List Int) (x1:Int):Option Int:=
 if decide ((Y8 x1 (x0.length:Int)) < 0)=true then (
  some (-1))
 else (
  some (Y8 x1 (x0.length:Int)))
def Zv7 (x0:Zf) (x1:Int):Option Int:=
 (Zf1 x0.data_ x1).bind λr0=>
 if decide (r0 < 0)=true then (
  some (-1))
 else (
  some r0)
def Yfo (x0:List Zf) (x1:Int)  (k:Int->Int->Option Int) (v0:Int) (v1:Int):Option Int:=
 if decide (v1 < (x0.length:Int))=true then (
  (idx x0 v1).bind λa0=>
  (Zv7 a0 v0).bind λr0=>
  if decide (r0 < 0)=true then (
   some (-1))
  else (
   k r0 (Zt v1 1)))
 else (
  some v0)
def Znz (x0:List Zf) (x1:Int)  : Nat->Int->Int->Option Int
 | 0,_,_=>none
 | m+1,v0,v1=>Yfo x0 x1  (Znz x0 x1  m) v0 v1
def Z4w (x0:List Zf) (x1:Int):Option Int:=
 if decide ((Y8 x1 (x0.length:Int)) < 0)=true then (
  some (-1))
 else (
  Znz x0 x1 FU (Y8 x1 (x0.length:Int)) 0)
def Zxk (x0:Zl) (x1:Int):Option Int:=
 (Zv7 x0.req x1).bind λr0=>
 if decide (r0 < 0)=true then (
  some (-1))
 else (
  some r0)
def Yd2 (x0:List Zl) (x1:Int)  (k:Int->Int->Option Int) (v0:Int) (v1:Int):Option Int:=
 if decide (v1 < (x0.length:Int))=true then (
  (idx x0 v1).bind λa0=>
  (Zxk a0 v0).bind λr0=>
  if decide (r0 < 0)=true then (
   some (-1))
  else (
   k r0 (Zt v1 1)))
 else (
  some v0)
def Zle (x0:List Zl) (x1:Int)  : Nat->Int->Int->Option Int
 | 0,_,_=>none
 | m+1,v0,v1=>Yd2 x0 x1  (Zle x0 x1  m) v0 v1
def Z2u (x0:List Zl) (x1:Int):Option Int:=
 if decide ((Y8 x1 (x0.length:Int)) < 0)=true then (
  some (-1))
 else (
  Zle x0 x1 FU (Y8 x1 (x0.length:Int)) 0)
def Zs7 (x0:Zi) (x1:Int):Option Int:=
 (Z2u x0.posts x1).bind λr0=>
 if decide (r0 < 0)=true then (
  some (-1))
 else (
  (Zf1 x0.waits r0).bind λr1=>
  if decide (r1 < 0)=true then (
   some (-1))
  else (
   (Zf1 x0.says r1).bind λr2=>
   if decide (r2 < 0)=true then (
    some (-1))
   else (
    some r2)))
def Z04 (x0:Zb) (x1:Int):Option Int:=
 (Z4w x0.queue x1).bind λr0=>
 if decide (r0 < 0)=true then (
  some (-1))
 else (
  some r0)
def Yey (x0:List Zb) (x1:Int)  (k:Int->Int->Option Int) (v0:Int) (v1:Int):Option Int:=
 if decide (v1 < (x0.length:Int))=true then (
  (idx x0 v1).bind λa0=>
  (Z04 a0 v0).bind λr0=>
  if decide (r0 < 0)=true then (
   some (-1))
  else (
   k r0 (Zt v1 1)))
 else (
  some v0)
def Zn0 (x0:List Zb) (x1:Int)  : Nat->Int->Int->Option Int
 | 0,_,_=>none
 | m+1,v0,v1=>Yey x0 x1  (Zn0 x0 x1  m) v0 v1
def Z5w (x0:List Zb) (x1:Int):Option Int:=
 if decide ((Y8 x1 (x0.length:Int)) < 0)=true then (
  some (-1))
 else (
  Zn0 x0 x1 FU (Y8 x1 (x0.length:Int)) 0)
def Z6s (x0:List Zc) (x1:Int):Option Int:=
 if decide ((Y8 x1 (x0.length:Int)) < 0)=true then (
  some (-1))
 else (
  some (Y8 x1 (x0.length:Int)))
def Ykk (x0:Zn) (x1:Int):Option Int:=
 (Zf1 x0.regs x1).bind λr0=>
 if decide (r0 < 0)=true then (
  some (-1))
 else (
  (Zf1 x0.fifo r0).bind λr1=>
  if decide (r1 < 0)=true then (
   some (-1))
  else (
   some r1))
def Z3b (x0:Zh) (x1:Int):Option Int:=
 (Zf1 x0.mem x1).bind λr0=>
 if decide (r0 < 0)=true then (
  some (-1))
 else (
  (Ykk x0.dev r0).bind λr1=>
  if decide (r1 < 0)=true then (
   some (-1))
  else (
   some r1))
def Yb2 (x0:List Zm) (x1:Int):Option Int:=
 if decide ((Y8 x1 (x0.length:Int)) < 0)=true then (
  some (-1))
 else (
  some (Y8 x1 (x0.length:Int)))
def Zv3 (x0:Za) (x1:Int):Option Int:=
 (Z5d x0.conf x1).bind λr0=>
 if decide (r0 < 0)=true then (
  some (-1))
 else (
  (Z5w x0.m r0).bind λr1=>
  if decide (r1 < 0)=true then (
   some (-1))
  else (
   (Z6s x0.buckets r1).bind λr2=>
   if decide (r2 < 0)=true then (
    some (-1))
   else (
    (Zf1 x0.splits r2).bind λr3=>
    if decide (r3 < 0)=true then (
     some (-1))
    else (
     (Z3b x0.model r3).bind λr4=>
     if decide (r4 < 0)=true then (
      some (-1))
     else (
      (Yb2 x0.log r4).bind λr5=>
      if decide (r5 < 0)=true then (
       some (-1))
      else (
       some r5))))))
def Z23 (x0:Zd):Option Zd:=
 some x0
def Ya1 (x0:List Zd)  (k:(List Zd)->Int->Option (List Zd)) (v0:List Zd) (v1:Int):Option (List Zd):=
 if decide (v1 < (x0.length:Int))=true then (
  (idx x0 v1).bind λa0=>
  (Z23 a0).bind λr0=>
  (idx v0 v1).bind λa1=>
  (W7 v0 v1 r0).bind λy0=>
  k y0 (Zt v1 1))
 else (
  some v0)
def Zjt (x0:List Zd)  : Nat->(List Zd)->Int->Option (List Zd)
 | 0,_,_=>none
 | m+1,v0,v1=>Ya1 x0  (Zjt x0  m) v0 v1
def Zrn (x0:List Zd):Option (List Zd):=
 (mkI 32 (x0.length:Int) Zd.z0).bind λm0=>
 Zjt x0 FU m0 0
def Zxm (x0:Zk):Option Zk:=
 (Zrn x0.masters).bind λr0=>
 some {x0 with masters:=r0}
def Yfi (x0:List Int)  (k:(List Int)->Int->Option (List Int)) (v0:List Int) (v1:Int):Option (List Int):=
 if decide (v1 < (x0.length:Int))=true then (
  (idx x0 v1).bind λa0=>
  (idx v0 v1).bind λa1=>
  (W7 v0 v1 a0).bind λy0=>
  k y0 (Zt v1 1))
 else (
  some v0)
def Znl (x0:List Int)  : Nat->(List Int)->Int->Option (List Int)
 | 0,_,_=>none
 | m+1,v0,v1=>Yfi x0  (Znl x0  m) v0 v1
def Zcu (x0:List Int):Option (List Int):=
 (mkI 8 (x0.length:Int) 0).bind λm0=>
 Znl x0 FU m0 0
def Zq2 (x0:Zf):Option Zf:=
 (Zcu x0.data_).bind λr0=>
 some {x0 with data_:=r0}
def Yf6 (x0:List Zf)  (k:(List Zf)->Int->Option (List Zf)) (v0:List Zf) (v1:Int):Option (List Zf):=
 if decide (v1 < (x0.length:Int))=true then (
  (idx x0 v1).bind λa0=>
  (Zq2 a0).bind λr0=>
  (idx v0 v1).bind λa1=>
  (W7 v0 v1 r0).bind λy0=>
  k y0 (Zt v1 1))
 else (
  some v0)
def Znw (x0:List Zf)  : Nat->(List Zf)->Int->Option (List Zf)
 | 0,_,_=>none
 | m+1,v0,v1=>Yf6 x0  (Znw x0  m) v0 v1
def Zx8 (x0:List Zf):Option (List Zf):=
 (mkI 64 (x0.length:Int) Zf.z0).bind λm0=>
 Znw x0 FU m0 0
def Zr0 (x0:Zl):Option Zl:=
 (Zq2 x0.req).bind λr0=>
 some {x0 with req:=r0}
def Ydh (x0:List Zl)  (k:(List Zl)->Int->Option (List Zl)) (v0:List Zl) (v1:Int):Option (List Zl):=
 if decide (v1 < (x0.length:Int))=true then (
  (idx x0 v1).bind λa0=>
  (Zr0 a0).bind λr0=>
  (idx v0 v1).bind λa1=>
  (W7 v0 v1 r0).bind λy0=>
  k y0 (Zt v1 1))
 else (
  some v0)
def Zlv (x0:List Zl)  : Nat->(List Zl)->Int->Option (List Zl)
 | 0,_,_=>none
 | m+1,v0,v1=>Ydh x0  (Zlv x0  m) v0 v1
def Zvt (x0:List Zl):Option (List Zl):=
 (mkI 80 (x0.length:Int) Zl.z0).bind λm0=>
 Zlv x0 FU m0 0
def Zs2 (x0:Zi):Option Zi:=
 (Zvt x0.posts).bind λr0=>
 (Zcu x0.waits).bind λr1=>
 (Zcu x0.says).bind λr2=>
 some (Zi.mk r0 r1 r2)
def Z1p (x0:Zb):Option Zb:=
 (Zx8 x0.queue).bind λr0=>
 some {x0 with queue:=r0}
def Ygr (x0:List Zb)  (k:(List Zb)->Int->Option (List Zb)) (v0:List Zb) (v1:Int):Option (List Zb):=
 if decide (v1 < (x0.length:Int))=true then (
  (idx x0 v1).bind λa0=>
  (Z1p a0).bind λr0=>
  (idx v0 v1).bind λa1=>
  (W7 v0 v1 r0).bind λy0=>
  k y0 (Zt v1 1))
 else (
  some v0)
def Zn3 (x0:List Zb)  : Nat->(List Zb)->Int->Option (List Zb)
 | 0,_,_=>none
 | m+1,v0,v1=>Ygr x0  (Zn3 x0  m) v0 v1
def Zx3 (x0:List Zb):Option (List Zb):=
 (mkI 56 (x0.length:Int) Zb.z0).bind λm0=>
 Zn3 x0 FU m0 0
def Z89 (x0:Z2):Option Z2:=
 some x0
def Zze (x0:Zc):Option Zc:=
 some x0
def Z8c (x0:List Zc)  (k:(List Zc)->Int->Option (List Zc)) (v0:List Zc) (v1:Int):Option (List Zc):=
 if decide (v1 < (x0.length:Int))=true then (
  (idx x0 v1).bind λa0=>
  (Zze a0).bind λr0=>
  (idx v0 v1).bind λa1=>
  (W7 v0 v1 r0).bind λy0=>
  k y0 (Zt v1 1))
 else (
  some v0)
def Zhc (x0:List Zc)  : Nat->(List Zc)->Int->Option (List Zc)
 | 0,_,_=>none
 | m+1,v0,v1=>Z8c x0  (Zhc x0  m) v0 v1
def Zp1 (x0:List Zc):Option (List Zc):=
 (mkI 16 (x0.length:Int) Zc.z0).bind λm0=>
 Zhc x0 FU m0 0
def Zr3 (x0:Zg):Option Zg:=
 some x0
def Z7q (x0:Zn):Option Zn:=
 (Zcu x0.regs).bind λr0=>
 (Zcu x0.fifo).bind λr1=>
 some (Zn.mk r0 x0.timer r1)
def Zu4 (x0:Zh):Option Zh:=
 (Zcu x0.mem).bind λr0=>
 (Z7q x0.dev).bind λr1=>
 some (Zh.mk r0 r1)
def Z6h (x0:Zm):Option Zm:=
 some x0
def Ydv (x0:List Zm)  (k:(List Zm)->Int->Option (List Zm)) (v0:List Zm) (v1:Int):Option (List Zm):=
 if decide (v1 < (x0.length:Int))=true then (
  (idx x0 v1).bind λa0=>
  (Z6h a0).bind λr0=>
  (idx v0 v1).bind λa1=>
  (W7 v0 v1 r0).bind λy0=>
  k y0 (Zt v1 1))
 else (
  some v0)
def Zk7 (x0:List Zm)  : Nat->(List Zm)->Int->Option (List Zm)
 | 0,_,_=>none
 | m+1,v0,v1=>Ydv x0  (Zk7 x0  m) v0 v1
def Zvu (x0:List Zm):Option (List Zm):=
 (mkI 56 (x0.length:Int) Zm.z0).bind λm0=>
 Zk7 x0 FU m0 0
def Z1e (x0:Za):Option Za:=
 (Zxm x0.conf).bind λr0=>
 (Zx3 x0.m).bind λr1=>
 (Z89 x0.arb).bind λr2=>
 (Zp1 x0.buckets).bind λr3=>
 (Zcu x0.splits).bind λr4=>
 (Zr3 x0.addr).bind λr5=>
 (Zr3 x0.data_).bind λr6=>
 (Zu4 x0.model).bind λr7=>
 (Zvu x0.log).bind λr8=>
 some (Za.mk r0 x0.now r1 r2 r3 r4 x0.holder x0.held x0.last r5 r6 r7 x0.picks r8)
def Z5 (x0:Int) (x1:Int) (x2:Int):Option Bool:=
 if decide (x0≥x1)=true then (
  some (decide (x0<=x2)))
 else (
  some false)
def Znn (x0:Zk)  (v0:Bool):Option Int:=
 if v0=true then (
  some 0)
 else (
  some (Jr (Zt x0.maxRetry 2) (Zt x0.maxWait 6)))
def Zis (x0:Zk):Option Int:=
 (Z5 x0.maxRetry 0 3).bind λr0=>
 if (!r0)=true then (
  Znn x0 true)
 else (
  (Z5 x0.maxWait 0 3).bind λr1=>
  Znn x0 (!r1))
def Zf5 (x0:Zk):Option Int:=
 (Zis x0).bind λr0=>
 if decide (r0=0)=true then (
  some 0)
 else (
  (Z5 x0.lockMost 1 40).bind λr1=>
  if (!r1)=true then (
   some 0)
  else (
   (Zis x0).bind λr2=>
   some (Zt (Jr 2 r2) x0.lockMost)))
def Zrb (x0:Zk):Option Bool:=
 (Z5 x0.quantum 1 4).bind λr0=>
 if r0=true then (
  (Zis x0).bind λr1=>
  if decide (r1 > 0)=true then (
   (Z5 x0.maxSplit 1 12).bind λr2=>
   if r2=true then (
    (Z5 x0.lockMost 1 40).bind λr3=>
    some r3)
   else (
    some false))
  else (
   some false))
 else (
  some false)
def Zr7 (x0:Zk)  (k:Int->Int->Option Bool) (v0:Int) (v1:Int):Option Bool:=
 if decide (v1 < (x0.masters.length:Int))=true then (
  (idx x0.masters v1).bind λa0=>
  (Z5 a0.weight 1 4).bind λr0=>
  if (!r0)=true then (
   some false)
  else (
   if (!a0.prio)=true then (
    if decide (a0.every≠0)=true then (
     some false)
    else (
     if decide (a0.cap≠0)=true then (
      some false)
     else (
      if a0.prio=true then (
       (Zf5 x0).bind λr1=>
       (Z5 a0.every (Jr (Jr 2 v0) r1) 1000).bind λr2=>
       if (!r2)=true then (
        some false)
       else (
        (Z5 a0.cap 1 8).bind λr3=>
        if (!r3)=true then (
         some false)
        else (
         k v0 (Zt v1 1))))
      else (
       k v0 (Zt v1 1)))))
   else (
    if a0.prio=true then (
     (Zf5 x0).bind λr1=>
     (Z5 a0.every (Jr (Jr 2 v0) r1) 1000).bind λr2=>
     if (!r2)=true then (
      some false)
     else (
      (Z5 a0.cap 1 8).bind λr3=>
      if (!r3)=true then (
       some false)
      else (
       k v0 (Zt v1 1))))
    else (
     k v0 (Zt v1 1)))))
 else (
  (Z5 (x0.masters.length:Int) 1 4).bind λr4=>
  if r4=true then (
   (Zrb x0).bind λr5=>
   some r5)
  else (
   some false))
def Zav (x0:Zk)  : Nat->Int->Int->Option Bool
 | 0,_,_=>none
 | m+1,v0,v1=>Zr7 x0  (Zav x0  m) v0 v1
def Zsk (x0:Zk)  (k:Int->Int->Option Bool) (v0:Int) (v2:Int):Option Bool:=
 if decide (v2 < (x0.masters.length:Int))=true then (
  (idx x0.masters v2).bind λa1=>
  if a1.prio=true then (
   k (Zt v0 1) (Zt v2 1))
  else (
   k v0 (Zt v2 1)))
 else (
  Zav x0 FU v0 0)
def Zns (x0:Zk)  : Nat->Int->Int->Option Bool
 | 0,_,_=>none
 | m+1,v0,v2=>Zsk x0  (Zns x0  m) v0 v2
def Zin (x0:Zk):Option Bool:=
 Zns x0 FU 0 0
def Za5 (x0:Int):Option Int:=
 (Z5 x0 0 3).bind λr0=>
 if (!r0)=true then (
  some 0)
 else (
  (idx [1,4,4,8] x0).bind λa0=>
  some a0)
def Jo (x0:Int):Option Int:=
 (Z5 x0 0 2).bind λr0=>
 if (!r0)=true then (
  some 0)
 else (
  (nnI x0).bind λn0=>
  some (Ydb 1 x0))
def Za7 (x0:Int) (x1:Int):Option Bool:=
 (Jo x1).bind λr0=>
 if decide (r0 > 0)=true then (
  if decide (x0≥0)=true then (
   (Jo x1).bind λr1=>
   (nzI r1).bind λn0=>
   some (decide ((Za1 x0 r1)=0)))
  else (
   some false))
 else (
  some false)
def Zjp (x0:Int) (x1:Int) (x2:Int)  (v0:Int) (v1:Bool):Option Int:=
 if v1=true then (
  some (Y8 (Zt x0 v0) (Jr 4 v0)))
 else (
  some (Zt x0 v0))
def Ze4 (x0:Int) (x1:Int) (x2:Int)  (v0:Int) (v2:Bool):Option Int:=
 if v2=true then (
  some (-1))
 else (
  if decide (x2=2)=true then (
   (nzI (Jr 4 v0)).bind λn0=>
   Zjp x0 x1 x2 v0 (decide ((Za1 (Zt x0 v0) (Jr 4 v0))=0)))
  else (
   Zjp x0 x1 x2 v0 false))
def Zm4 (x0:Int) (x1:Int) (x2:Int):Option Int:=
 (Jo x1).bind λr0=>
 (Za7 x0 x1).bind λr1=>
 if (!r1)=true then (
  Ze4 x0 x1 x2 r0 true)
 else (
  (Z5 x0 0 511).bind λr2=>
  if (!r2)=true then (
   Ze4 x0 x1 x2 r0 true)
  else (
   (Za5 x2).bind λr3=>
   Ze4 x0 x1 x2 r0 (decide (r3=0))))
def Zcy (x0:Int) (x1:Int) (x2:Int) (k_L1:Int->(List Int)->Option (List Int)) (v0:Int) (v1:List Int) (v2:Bool):Option (List Int):=
 if v2=true then (
  (Wd 8 v1 [v0]).bind λz0=>
  (Zm4 v0 x1 x2).bind λr0=>
  k_L1 r0 z0)
 else (
  (Za5 x2).bind λr1=>
  if decide ((v1.length:Int) < r1)=true then (
   some [])
  else (
   some v1))
def Zb4 (x0:Int) (x1:Int) (x2:Int)  (k:Int->(List Int)->Option (List Int)) (v0:Int) (v1:List Int):Option (List Int):=
 (Za5 x2).bind λr2=>
 if decide ((v1.length:Int) < r2)=true then (
  (Zm4 v0 x1 x2).bind λr3=>
  Zcy x0 x1 x2 k v0 v1 (decide (r3≥0)))
 else (
  Zcy x0 x1 x2 k v0 v1 false)
def Zgi (x0:Int) (x1:Int) (x2:Int)  : Nat->Int->(List Int)->Option (List Int)
 | 0,_,_=>none
 | m+1,v0,v1=>Zb4 x0 x1 x2  (Zgi x0 x1 x2  m) v0 v1
def Zia (x0:Int) (x1:Int) (x2:Int):Option (List Int):=
 Zgi x0 x1 x2 FU x0 []
def Zqb (x0:Int) (x1:Int) (x2:Int)  (k:(List Int)->Int->Option Bool) (v0:List Int) (v1:Int):Option Bool:=
 if decide (v1 < (v0.length:Int))=true then (
  (idx v0 v1).bind λa0=>
  (idx v0 0).bind λa1=>
  if decide ((Zsy a0 64)≠(Zsy a1 64))=true then (
   some false)
  else (
   k v0 (Zt v1 1)))
 else (
  some (decide ((v0.length:Int) > 0)))
def Zlh (x0:Int) (x1:Int) (x2:Int)  : Nat->(List Int)->Int->Option Bool
 | 0,_,_=>none
 | m+1,v0,v1=>Zqb x0 x1 x2  (Zlh x0 x1 x2  m) v0 v1
def Zvb (x0:Int) (x1:Int) (x2:Int):Option Bool:=
 (Zia x0 x1 x2).bind λr0=>
 Zlh x0 x1 x2 FU r0 0
def Qn (x0:Int):Option Int:=
 (Jo x0).bind λr0=>
 if decide (r0=0)=true then (
  some 0)
 else (
  (Jo x0).bind λr1=>
  (nnI (Jr 8 r1)).bind λn0=>
  some (Ydb 1 (Jr 8 r1)))
def Zuf (x0:Zf)  (k:Int->Option Bool) (v0:Int):Option Bool:=
 if decide (v0 < (x0.data_.length:Int))=true then (
  (idx x0.data_ v0).bind λa0=>
  (Qn x0.size).bind λr0=>
  (Z5 a0 0 (Y8 r0 1)).bind λr1=>
  if (!r1)=true then (
   some false)
  else (
   k (Zt v0 1)))
 else (
  if decide ((x0.data_.length:Int)=0)=true then (
   if (!x0.write)=true then (
    some true)
   else (
    (Za5 x0.burst).bind λr2=>
    if decide ((x0.data_.length:Int)=r2)=true then (
     some x0.write)
    else (
     some false)))
  else (
   (Za5 x0.burst).bind λr2=>
   if decide ((x0.data_.length:Int)=r2)=true then (
    some x0.write)
   else (
    some false)))
def Zpu (x0:Zf)  : Nat->Int->Option Bool
 | 0,_=>none
 | m+1,v0=>Zuf x0  (Zpu x0  m) v0
def Zv5 (x0:Zf):Option Bool:=
 (Zvb x0.addr x0.size x0.burst).bind λr3=>
 if (!r3)=true then (
  some false)
 else (
  Zpu x0 FU 0)
def Zx7 (x0:Zk):Option Zk:=
 (Wd 32 [] x0.masters).bind λz0=>
 some {x0 with masters:=z0}
def Ylx (x0:Zd):Option Zc:=
 if (!x0.prio)=true then (
  some Zc.z0)
 else (
  some (Zc.mk (Z2n 0 x0.cap) 0))
def Yfu (x0:Zk)  (k:Za->Int->Option (Za×Bool)) (vb0:Za) (v0:Int):Option (Za×Bool):=
 if decide (v0 < (x0.masters.length:Int))=true then (
  (Wd 56 vb0.m [Zb.z0]).bind λz0=>
  (idx x0.masters v0).bind λa0=>
  (Ylx a0).bind λr0=>
  (Wd 16 vb0.buckets [r0]).bind λz1=>
  (Wd 8 vb0.splits [0]).bind λz2=>
  k {vb0 with m:=z0,buckets:=z1,splits:=z2} (Zt v0 1))
 else (
  some (vb0,true))
def Yiw (x0:Zk)  : Nat->Za->Int->Option (Za×Bool)
 | 0,_,_=>none
 | m+1,vb0,v0=>Yfu x0  (Yiw x0  m) vb0 v0
def Zi1 (x0:Zf):Option Zf:=
 (Wd 8 [] x0.data_).bind λz0=>
 some {x0 with data_:=z0}
def Ydi (x0:Zb)  (k:(List Zf)->Int->Option Zb) (v0:List Zf) (v1:Int):Option Zb:=
 if decide (v1 < (x0.queue.length:Int))=true then (
  (idx x0.queue v1).bind λa0=>
  (Zi1 a0).bind λr0=>
  (Wd 64 v0 [r0]).bind λz0=>
  k z0 (Zt v1 1))
 else (
  some {x0 with queue:=v0})
def Zlf (x0:Zb)  : Nat->(List Zf)->Int->Option Zb
 | 0,_,_=>none
 | m+1,v0,v1=>Ydi x0  (Zlf x0  m) v0 v1
def Zd3 (x0:Zb):Option Zb:=
 Zlf x0 FU [] 0
def Zse (x0:Zn):Option Zn:=
 (Wd 8 [] x0.regs).bind λz0=>
 (Wd 8 [] x0.fifo).bind λz1=>
 some (Zn.mk z0 x0.timer z1)
def Zs0 (x0:Zh):Option Zh:=
 (Wd 8 [] x0.mem).bind λz0=>
 (Zse x0.dev).bind λr0=>
 some (Zh.mk z0 r0)
def Zjc (x0:Za)  (k:Za->Int->Option Za) (vb0:Za) (v0:Int):Option Za:=
 if decide (v0 < (x0.m.length:Int))=true then (
  (idx x0.m v0).bind λa0=>
  (Zd3 a0).bind λr0=>
  (Wd 56 vb0.m [r0]).bind λz0=>
  k {vb0 with m:=z0} (Zt v0 1))
 else (
  (Wd 16 [] x0.buckets).bind λz1=>
  (Wd 8 [] x0.splits).bind λz2=>
  (Zs0 x0.model).bind λr1=>
  (Wd 56 [] x0.log).bind λz3=>
  some {vb0 with buckets:=z1,splits:=z2,model:=r1,log:=z3})
def Zfs (x0:Za)  : Nat->Za->Int->Option Za
 | 0,_,_=>none
 | m+1,vb0,v0=>Zjc x0  (Zfs x0  m) vb0 v0
def Zpi (x0:Za):Option Za:=
 (Zx7 x0.conf).bind λr2=>
 Zfs x0 FU {x0 with conf:=r2,m:=[]} 0
def Znu (x0:Zk) (x1:Int)  (v0:Bool):Option Int:=
 if v0=true then (
  some 0)
 else (
  (idx x0.masters x1).bind λa0=>
  some (Jr a0.weight x0.quantum))
def Zjf (x0:Zk) (x1:Int):Option Int:=
 (Zin x0).bind λr0=>
 if (!r0)=true then (
  Znu x0 x1 true)
 else (
  (Z5 x1 0 (Y8 (x0.masters.length:Int) 1)).bind λr1=>
  Znu x0 x1 (!r1))
def Zq4 (x0:Z2) (x1:Zk):Option Bool:=
 (Zin x1).bind λr0=>
 if r0=true then (
  (Z5 x0.at_ 0 (Y8 (x1.masters.length:Int) 1)).bind λr1=>
  if r1=true then (
   (Zjf x1 x0.at_).bind λr2=>
   (Z5 x0.credit 0 r2).bind λr3=>
   some r3)
  else (
   some false))
 else (
  some false)
def Zp7 (x0:List Int)  (k:Int->Option Bool) (v0:Int):Option Bool:=
 if decide (v0 < (x0.length:Int))=true then (
  (idx x0 v0).bind λa0=>
  (Z5 a0 0 255).bind λr0=>
  if (!r0)=true then (
   some false)
  else (
   k (Zt v0 1)))
 else (
  some (decide ((x0.length:Int)<=512)))
def Zlo (x0:List Int)  : Nat->Int->Option Bool
 | 0,_=>none
 | m+1,v0=>Zp7 x0  (Zlo x0  m) v0
def Zow (x0:List Int):Option Bool:=
 Zlo x0 FU 0
def Zp8 (x0:List Int)  (k:Int->Option Bool) (v0:Int):Option Bool:=
 if decide (v0 < (x0.length:Int))=true then (
  (idx x0 v0).bind λa0=>
  (Qn 2).bind λr0=>
  (Z5 a0 0 (Y8 r0 1)).bind λr1=>
  if (!r1)=true then (
   some false)
  else (
   k (Zt v0 1)))
 else (
  some true)
def Zls (x0:List Int)  : Nat->Int->Option Bool
 | 0,_=>none
 | m+1,v0=>Zp8 x0  (Zls x0  m) v0
def Zpb (x0:List Int):Option Bool:=
 Zls x0 FU 0
def Zwl (x0:Zn):Option Bool:=
 if decide ((x0.regs.length:Int)=4)=true then (
  (Zpb x0.regs).bind λr0=>
  if r0=true then (
   (Qn 2).bind λr1=>
   (Z5 x0.timer 0 (Y8 r1 1)).bind λr2=>
   if r2=true then (
    if decide ((x0.fifo.length:Int)<=4)=true then (
     (Zpb x0.fifo).bind λr3=>
     some r3)
    else (
     some false))
   else (
    some false))
  else (
   some false))
 else (
  some false)
def Zo9 (x0:Zh):Option Bool:=
 if decide ((x0.mem.length:Int)=192)=true then (
  (Zow x0.mem).bind λr0=>
  if r0=true then (
   (Zwl x0.dev).bind λr1=>
   some r1)
  else (
   some false))
 else (
  some false)
def Zc0 (x0:Zb):Option Int:=
 if decide ((x0.queue.length:Int)=0)=true then (
  some 0)
 else (
  (idx x0.queue 0).bind λa0=>
  (Za5 a0.burst).bind λr0=>
  some r0)
def Zaj (x0:Zb)  (v0:Bool):Option Bool:=
 if v0=true then (
  some false)
 else (
  if decide ((x0.queue.length:Int)=0)=true then (
   if decide (x0.beat=0)=true then (
    if decide (x0.done=0)=true then (
     if decide (x0.tries=0)=true then (
      if (!x0.parted)=true then (
       some (!x0.broken))
      else (
       some false))
     else (
      some false))
    else (
     some false))
   else (
    some false))
  else (
   (Zc0 x0).bind λr0=>
   (Z5 x0.done 0 (Y8 r0 1)).bind λr1=>
   if r1=true then (
    (Zc0 x0).bind λr2=>
    (Z5 x0.beat x0.done (Zjq (Zt x0.done 2) r2)).bind λr3=>
    some r3)
   else (
    some false)))
def Zot (x0:Zb)  (k:Int->Option Bool) (v1:Int):Option Bool:=
 if decide (v1 < (x0.queue.length:Int))=true then (
  (idx x0.queue v1).bind λa0=>
  (Zv5 a0).bind λr4=>
  if (!r4)=true then (
   some false)
  else (
   k (Zt v1 1)))
 else (
  if decide ((x0.queue.length:Int) > 4)=true then (
   Zaj x0 true)
  else (
   Zaj x0 (decide (x0.tries < 0))))
def Zi9 (x0:Zb)  : Nat->Int->Option Bool
 | 0,_=>none
 | m+1,v1=>Zot x0  (Zi9 x0  m) v1
def Zbo (x0:Zb):Option Bool:=
 Zi9 x0 FU 0
def Z7e (x0:Zb) (x1:Zk):Option Bool:=
 (Zin x1).bind λr0=>
 if r0=true then (
  (Zbo x0).bind λr1=>
  if r1=true then (
   some (decide (x0.tries<=x1.maxRetry)))
  else (
   some false))
 else (
  some false)
def Zem (x0:Zc) (x1:Zd):Option Bool:=
 if (!x1.prio)=true then (
  some (decide (x0.tokens=0)&&(decide (x0.count=0)&&true)))
 else (
  (Z5 x0.tokens 0 x1.cap).bind λr0=>
  if r0=true then (
   (Z5 x0.count 0 (Y8 x1.every 1)).bind λr1=>
   some r1)
  else (
   some false))
def Zk5 (x0:Za) (x1:Int)  (v0:Int):Option Int:=
 if x0.data_.live=true then (
  if decide (x0.data_.who=x1)=true then (
   some (Zt v0 1))
  else (
   some v0))
 else (
  some v0)
def Zlk (x0:Za) (x1:Int)  (v1:Bool):Option Int:=
 if v1=true then (
  Zk5 x0 x1 (Zt 0 1))
 else (
  Zk5 x0 x1 0)
def Zuu (x0:Za) (x1:Int):Option Int:=
 if x0.addr.live=true then (
  Zlk x0 x1 (decide (x0.addr.who=x1)))
 else (
  Zlk x0 x1 false)
def Zsp (x0:Int):Option ByteArray:=
 (Z5 x0 0 3).bind λr0=>
 if (!r0)=true then (
  some ByteArray.empty)
 else (
  (idx [(strL [111,107,97,121]),(strL [101,114,114,111,114]),(strL [114,101,116,114,121]),(strL [115,112,108,105,116])] x0).bind λa0=>
  some a0)
def Yg (x0:Za) (x1:Zg) (x2:Bool)  (vb0:Zb) (v0:Bool):Option Bool:=
 if v0=true then (
  some false)
 else (
  if decide (x1.beat=vb0.done)=true then (
   (Z5 x1.left 0 (Zt x0.conf.maxWait 2)).bind λr0=>
   if r0=true then (
    (Zsp x1.resp).bind λr1=>
    if (!(r1.toList == ByteArray.empty.toList))=true then (
     if (!x1.second)=true then (
      some true)
     else (
      if decide (x1.resp≠0)=true then (
       some (decide (x1.left=0)))
      else (
       some false)))
    else (
     some false))
   else (
    some false))
  else (
   some false))
def Q3 (x0:Za) (x1:Zg) (x2:Bool)  (v1:Bool):Option Bool:=
 if v1=true then (
  some false)
 else (
  (idx x0.m x1.who).bind λa0=>
  if (!x2)=true then (
   if decide (x1.beat=(Y8 a0.beat 1))=true then (
    if decide (x1.left=0)=true then (
     if decide (x1.resp=0)=true then (
      some (!x1.second))
     else (
      some false))
    else (
     some false))
   else (
    some false))
  else (
   if decide (x1.resp=2)=true then (
    if decide (a0.tries≥x0.conf.maxRetry)=true then (
     Yg x0 x1 x2 a0 true)
    else (
     if decide (x1.resp=3)=true then (
      if a0.parted=true then (
       Yg x0 x1 x2 a0 true)
      else (
       if decide (x0.holder=x1.who)=true then (
        Yg x0 x1 x2 a0 true)
       else (
        if x1.second=true then (
         Yg x0 x1 x2 a0 x0.addr.live)
        else (
         Yg x0 x1 x2 a0 false))))
     else (
      if x1.second=true then (
       Yg x0 x1 x2 a0 x0.addr.live)
      else (
       Yg x0 x1 x2 a0 false))))
   else (
    if decide (x1.resp=3)=true then (
     if a0.parted=true then (
      Yg x0 x1 x2 a0 true)
     else (
      if decide (x0.holder=x1.who)=true then (
       Yg x0 x1 x2 a0 true)
      else (
       if x1.second=true then (
        Yg x0 x1 x2 a0 x0.addr.live)
       else (
        Yg x0 x1 x2 a0 false))))
    else (
     if x1.second=true then (
      Yg x0 x1 x2 a0 x0.addr.live)
     else (
      Yg x0 x1 x2 a0 false)))))
def Zcp (x0:Za) (x1:Zg) (x2:Bool):Option Bool:=
 if (!x1.live)=true then (
  some ((x1.live == false)&&(decide (x1.who=0)&&(decide (x1.beat=0)&&((x1.first == false)&&(decide (x1.by_=0)&&(decide (x1.left=0)&&(decide (x1.resp=0)&&((x1.second == false)&&true)))))))))
 else (
  (Z5 x1.who 0 (Y8 (x0.m.length:Int) 1)).bind λr2=>
  if (!r2)=true then (
   Q3 x0 x1 x2 true)
  else (
   (Z5 x1.by_ 1 3).bind λr3=>
   if (!r3)=true then (
    Q3 x0 x1 x2 true)
   else (
    (idx x0.splits x1.who).bind λa1=>
    Q3 x0 x1 x2 (decide (a1 > 0)))))
def Zbq (x0:Za)  (v0:Bool):Option Bool:=
 if v0=true then (
  some false)
 else (
  (idx x0.m x0.holder).bind λa0=>
  if decide ((a0.queue.length:Int) > 0)=true then (
   (idx a0.queue 0).bind λa1=>
   if a1.lock=true then (
    if (!a0.broken)=true then (
     (idx x0.splits x0.holder).bind λa2=>
     some (decide (a2=0)))
    else (
     some false))
   else (
    some false))
  else (
   some false))
def Zix (x0:Za)  (k:Int->Option Bool) (v1:Int):Option Bool:=
 if decide (v1 < (x0.m.length:Int))=true then (
  (idx x0.m v1).bind λa3=>
  if decide (a3.beat > 0)=true then (
   (idx a3.queue 0).bind λa4=>
   if a4.lock=true then (
    if (!a3.broken)=true then (
     if decide (x0.holder≠v1)=true then (
      some false)
     else (
      k (Zt v1 1)))
    else (
     k (Zt v1 1)))
   else (
    k (Zt v1 1)))
  else (
   k (Zt v1 1)))
 else (
  if decide (x0.holder=(-1))=true then (
   some (decide (x0.held=0)))
  else (
   (Z5 x0.holder 0 (Y8 (x0.m.length:Int) 1)).bind λr0=>
   if (!r0)=true then (
    Zbq x0 true)
   else (
    (Z5 x0.held 0 x0.conf.lockMost).bind λr1=>
    Zbq x0 (!r1))))
def Zsa (x0:Za)  : Nat->Int->Option Bool
 | 0,_=>none
 | m+1,v1=>Zix x0  (Zsa x0  m) v1
def Zox (x0:Za):Option Bool:=
 Zsa x0 FU 0
def Zlu (x0:Za)  (k:Int->Option Bool) (v0:Int):Option Bool:=
 if decide (v0 < (x0.log.length:Int))=true then (
  (idx x0.log v0).bind λa0=>
  (Z5 a0.cycle 0 (Y8 x0.now 1)).bind λr0=>
  if (!r0)=true then (
   some false)
  else (
   if decide (v0 > 0)=true then (
    (idx x0.log (Y8 v0 1)).bind λa1=>
    if decide (a0.cycle<=a1.cycle)=true then (
     some false)
    else (
     (Z5 a0.who 0 (Y8 (x0.m.length:Int) 1)).bind λr1=>
     if (!r1)=true then (
      some false)
     else (
      (Za7 a0.addr a0.size).bind λr2=>
      if (!r2)=true then (
       some false)
      else (
       (Z5 a0.addr 0 511).bind λr3=>
       if (!r3)=true then (
        some false)
       else (
        (Qn a0.size).bind λr4=>
        (Z5 a0.value 0 (Y8 r4 1)).bind λr5=>
        if (!r5)=true then (
         some false)
        else (
         (Z5 a0.resp 0 1).bind λr6=>
         if (!r6)=true then (
          some false)
         else (
          k (Zt v0 1))))))))
   else (
    (Z5 a0.who 0 (Y8 (x0.m.length:Int) 1)).bind λr1=>
    if (!r1)=true then (
     some false)
    else (
     (Za7 a0.addr a0.size).bind λr2=>
     if (!r2)=true then (
      some false)
     else (
      (Z5 a0.addr 0 511).bind λr3=>
      if (!r3)=true then (
       some false)
      else (
       (Qn a0.size).bind λr4=>
       (Z5 a0.value 0 (Y8 r4 1)).bind λr5=>
       if (!r5)=true then (
        some false)
       else (
        (Z5 a0.resp 0 1).bind λr6=>
        if (!r6)=true then (
         some false)
        else (
         k (Zt v0 1)))))))))
 else (
  some true)
def Zn2 (x0:Za)  : Nat->Int->Option Bool
 | 0,_=>none
 | m+1,v0=>Zlu x0  (Zn2 x0  m) v0
def Zto (x0:Za):Option Bool:=
 Zn2 x0 FU 0
def Zol (x0:Za)  (k:Int->Option Bool) (v0:Int):Option Bool:=
 if decide (v0 < (x0.conf.masters.length:Int))=true then (
  (idx x0.m v0).bind λa0=>
  (Z7e a0 x0.conf).bind λr0=>
  if (!r0)=true then (
   some false)
  else (
   (idx x0.buckets v0).bind λa1=>
   (idx x0.conf.masters v0).bind λa2=>
   (Zem a1 a2).bind λr1=>
   if (!r1)=true then (
    some false)
   else (
    (idx x0.splits v0).bind λa3=>
    (Z5 a3 0 x0.conf.maxSplit).bind λr2=>
    if (!r2)=true then (
     some false)
    else (
     (Zuu x0 v0).bind λr3=>
     if decide ((Y8 a0.beat a0.done)≠r3)=true then (
      some false)
     else (
      k (Zt v0 1))))))
 else (
  (Zcp x0 x0.data_ true).bind λr4=>
  if r4=true then (
   (Zcp x0 x0.addr false).bind λr5=>
   if r5=true then (
    (Zox x0).bind λr6=>
    if r6=true then (
     (Zto x0).bind λr7=>
     some r7)
    else (
     some false))
   else (
    some false))
  else (
   some false))
def Zp4 (x0:Za)  : Nat->Int->Option Bool
 | 0,_=>none
 | m+1,v0=>Zol x0  (Zp4 x0  m) v0
def Wy (x0:Za)  (v1:Bool):Option Bool:=
 if v1=true then (
  some false)
 else (
  Zp4 x0 FU 0)
def Znc (x0:Za):Option Bool:=
 (Zin x0.conf).bind λr8=>
 if (!r8)=true then (
  Wy x0 true)
 else (
  (Z5 x0.now 0 4000).bind λr9=>
  if (!r9)=true then (
   Wy x0 true)
  else (
   if decide ((x0.m.length:Int)≠(x0.conf.masters.length:Int))=true then (
    Wy x0 true)
   else (
    if decide ((x0.buckets.length:Int)≠(x0.conf.masters.length:Int))=true then (
     Wy x0 true)
    else (
     if decide ((x0.splits.length:Int)≠(x0.conf.masters.length:Int))=true then (
      Wy x0 true)
     else (
      (Zq4 x0.arb x0.conf).bind λr10=>
      if (!r10)=true then (
       Wy x0 true)
      else (
       (Z5 x0.last (-1) (Y8 (x0.conf.masters.length:Int) 1)).bind λr11=>
       if (!r11)=true then (
        Wy x0 true)
       else (
        (Zo9 x0.model).bind λr12=>
        if (!r12)=true then (
         Wy x0 true)
        else (
         if decide (x0.picks < 0)=true then (
          Wy x0 true)
         else (
          Wy x0 (decide (x0.picks > x0.now)))))))))))
def Zli (x0:Zb) (x1:Int)  (v0:Bool):Option Int:=
 if v0=true then (
  some (-1))
 else (
  (idx x0.queue 0).bind λa0=>
  (Zia a0.addr a0.size a0.burst).bind λr0=>
  (idx r0 x1).bind λa1=>
  some a1)
def Zgu (x0:Zb) (x1:Int):Option Int:=
 (Zbo x0).bind λr1=>
 if (!r1)=true then (
  Zli x0 x1 true)
 else (
  (Zc0 x0).bind λr2=>
  (Z5 x1 0 (Y8 r2 1)).bind λr3=>
  Zli x0 x1 (!r3))
def Zf3 (x0:Za)  (vb0:Zp):Option Zp:=
 if x0.data_.live=true then (
  (idx x0.m x0.data_.who).bind λa0=>
  (Zgu a0 x0.data_.beat).bind λr0=>
  some {vb0 with data_:=r0,from_:=x0.data_.who})
 else (
  some vb0)
def Zvm (x0:Za):Option Zp:=
 if x0.addr.live=true then (
  (idx x0.m x0.addr.who).bind λa1=>
  (Zgu a1 x0.addr.beat).bind λr1=>
  if x0.addr.first=true then (
   Zf3 x0 (Zp.mk x0.now r1 2 x0.addr.who (-1) (-1) true 0 (-1)))
  else (
   Zf3 x0 (Zp.mk x0.now r1 3 x0.addr.who (-1) (-1) true 0 (-1))))
 else (
  Zf3 x0 (Zp.mk x0.now (-1) 0 (-1) (-1) (-1) true 0 (-1)))
def Zio (x0:Zi) (x1:Int)  (k:(List Zl)->Int->Option (List Zl)) (v0:List Zl) (v1:Int):Option (List Zl):=
 if decide (v1 < (x0.posts.length:Int))=true then (
  (idx x0.posts v1).bind λa0=>
  if decide (a0.at_=x1)=true then (
   (Zi1 a0.req).bind λr0=>
   (Wd 80 v0 [{a0 with req:=r0}]).bind λz0=>
   k z0 (Zt v1 1))
  else (
   k v0 (Zt v1 1)))
 else (
  some v0)
def Zln (x0:Zi) (x1:Int)  : Nat->(List Zl)->Int->Option (List Zl)
 | 0,_,_=>none
 | m+1,v0,v1=>Zio x0 x1  (Zln x0 x1  m) v0 v1
def Zvn (x0:Zi) (x1:Int):Option (List Zl):=
 Zln x0 x1 FU [] 0
def Zfv (x0:Zb) (x1:Zf)  (vb0:Zb) (v0:Bool):Option (Zb×Bool):=
 if v0=true then (
  some (vb0,false))
 else (
  (Zi1 x1).bind λr0=>
  (Wd 64 vb0.queue [r0]).bind λz0=>
  some ({vb0 with queue:=z0},true))
def Zu6 (x0:Zb) (x1:Zf):Option (Zb×Bool):=
 (Zd3 x0).bind λr1=>
 (Zbo x0).bind λr2=>
 if (!r2)=true then (
  Zfv x0 x1 r1 true)
 else (
  (Zv5 x1).bind λr3=>
  if (!r3)=true then (
   Zfv x0 x1 r1 true)
  else (
   Zfv x0 x1 r1 (decide ((x0.queue.length:Int)=4))))
def Zfu (x0:Zc) (x1:Zd)  (v0:Bool):Option Zc:=
 if v0=true then (
  some x0)
 else (
  if decide ((Zt x0.count 1)=x1.every)=true then (
   some (Zc.mk (Zjq x1.cap (Zt x0.tokens 1)) 0))
  else (
   some (Zc.mk x0.tokens (Zt x0.count 1))))
def Zok (x0:Zc) (x1:Zd):Option Zc:=
 if (!x1.prio)=true then (
  Zfu x0 x1 true)
 else (
  (Zem x0 x1).bind λr0=>
  Zfu x0 x1 (!r0))
def Zkr (x0:Zb)  (vb0:Zb) (v0:Bool):Option (Zb×Bool):=
 if v0=true then (
  some (vb0,false))
 else (
  some ({vb0 with beat:=(Y8 vb0.beat 1)},true))
def Zu1 (x0:Zb):Option (Zb×Bool):=
 (Zd3 x0).bind λr0=>
 (Zbo x0).bind λr1=>
 if (!r1)=true then (
  Zkr x0 r0 true)
 else (
  Zkr x0 r0 (decide (x0.beat=x0.done)))
def Zgg (x0:Zc) (x1:Zd)  (v0:Bool):Option Zc:=
 if v0=true then (
  some (Zc.mk (Zjq x1.cap (Zt x0.tokens 1)) x0.count))
 else (
  some x0)
def Zn1 (x0:Zc) (x1:Zd):Option Zc:=
 if x1.prio=true then (
  (Zem x0 x1).bind λr0=>
  Zgg x0 x1 r0)
 else (
  Zgg x0 x1 false)
def Zkq (x0:Z2) (x1:Zk) (x2:Int)  (v0:Bool):Option Z2:=
 if v0=true then (
  (Zjf x1 x2).bind λr0=>
  some (Z2.mk x0.at_ (Zjq r0 (Zt x0.credit 1))))
 else (
  some x0)
def Zvc (x0:Z2) (x1:Zk) (x2:Int):Option Z2:=
 (Zq4 x0 x1).bind λr1=>
 if r1=true then (
  Zkq x0 x1 x2 (decide (x0.at_=x2)))
 else (
  Zkq x0 x1 x2 false)
def Zkd (x0:Za) (x1:Zg):Option Za:=
 (idx x0.m x1.who).bind λa0=>
 (Zu1 a0).bind λr0=>
 (W7 x0.m x1.who r0.1).bind λy0=>
 if decide (x1.by_=1)=true then (
  (idx x0.buckets x1.who).bind λa1=>
  (idx x0.conf.masters x1.who).bind λa2=>
  (Zn1 a1 a2).bind λr1=>
  (W7 x0.buckets x1.who r1).bind λy1=>
  some {x0 with m:=y0,buckets:=y1})
 else (
  if decide (x1.by_=2)=true then (
   (Zvc x0.arb x0.conf x1.who).bind λr2=>
   some {x0 with m:=y0,arb:=r2})
  else (
   some {x0 with m:=y0}))
def Zy0 (x0:List Int) (x1:Int)  (v0:Bool):Option Int:=
 if v0=true then (
  some 0)
 else (
  (nzI (x0.length:Int)).bind λn0=>
  (idx x0 (Za1 x1 (x0.length:Int))).bind λa0=>
  some a0)
def Zyo (x0:List Int) (x1:Int):Option Int:=
 if decide ((x0.length:Int)=0)=true then (
  Zy0 x0 x1 true)
 else (
  Zy0 x0 x1 (decide (x1 < 0)))
def Zuw (x0:Zk) (x1:Zi) (x2:Int):Option Int:=
 (Zyo x1.waits x2).bind λr0=>
 some (Z2n 1 (Zjq x0.maxSplit (Zt (Zjq r0 99) 1)))
def Zl8 (x0:Zf) (x1:Int):Option Int:=
 if (!x0.write)=true then (
  some 0)
 else (
  (idx x0.data_ x1).bind λa0=>
  some a0)
def Zrw (x0:Int)  (v0:Bool):Option Int:=
 if v0=true then (
  some 0)
 else (
  if decide (x0 < 128)=true then (
   some 1)
  else (
   if decide (x0 < 192)=true then (
    some 2)
   else (
    some 3)))
def Zvs (x0:Int):Option Int:=
 if decide (x0 < 0)=true then (
  Zrw x0 true)
 else (
  Zrw x0 (decide (x0≥224)))
def Zs4 (x0:List Int) (x1:Int) (x2:Int):Option Bool:=
 (Zow x0).bind λr0=>
 if r0=true then (
  (Za7 x1 x2).bind λr1=>
  if r1=true then (
   (Jo x2).bind λr2=>
   some (decide (x1<=(Y8 (x0.length:Int) r2))))
  else (
   some false))
 else (
  some false)
def Zgf (x0:List Int) (x1:Int) (x2:Int) (x3:Int)  (k:Int->(List Int)->Int->Option (List Int×Bool)) (v0:Int) (v1:List Int) (v2:Int):Option (List Int×Bool):=
 (Jo x2).bind λr0=>
 if decide (v2 < r0)=true then (
  (idx v1 (Zt x1 v2)).bind λa0=>
  (W7 v1 (Zt x1 v2) (Za1 v0 256)).bind λy0=>
  k (Zsy v0 256) y0 (Zt v2 1))
 else (
  some (v1,true))
def Zn9 (x0:List Int) (x1:Int) (x2:Int) (x3:Int)  : Nat->Int->(List Int)->Int->Option (List Int×Bool)
 | 0,_,_,_=>none
 | m+1,v0,v1,v2=>Zgf x0 x1 x2 x3  (Zn9 x0 x1 x2 x3  m) v0 v1 v2
def Zoa (x0:List Int) (x1:Int) (x2:Int) (x3:Int)  (v1:List Int) (v3:Bool):Option (List Int×Bool):=
 if v3=true then (
  some (v1,false))
 else (
  Zn9 x0 x1 x2 x3 FU x3 v1 0)
def Zx5 (x0:List Int) (x1:Int) (x2:Int) (x3:Int):Option (List Int×Bool):=
 (Wd 8 [] x0).bind λz0=>
 (Zs4 x0 x1 x2).bind λr1=>
 if (!r1)=true then (
  Zoa x0 x1 x2 x3 z0 true)
 else (
  (Qn x2).bind λr2=>
  (Z5 x3 0 (Y8 r2 1)).bind λr3=>
  Zoa x0 x1 x2 x3 z0 (!r3))
def Zjx (x0:Zn) (x1:Bool) (x2:Int) (x3:Int)  (vb0:Zn) (v0:Bool):Option (Zn×Int×Bool):=
 if v0=true then (
  (idx vb0.fifo 0).bind λa0=>
  (Zab vb0.fifo 1 (vb0.fifo.length:Int)).bind λs0=>
  some ({vb0 with fifo:=s0},a0,true))
 else (
  some (vb0,0,false))
def Zj2 (x0:Zn) (x1:Bool) (x2:Int) (x3:Int)  (vb0:Zn) (v1:Bool):Option (Zn×Int×Bool):=
 if v1=true then (
  (Wd 8 vb0.fifo [x3]).bind λz0=>
  some ({vb0 with fifo:=z0},x3,true))
 else (
  if decide (x2=20)=true then (
   if (!x1)=true then (
    Zjx x0 x1 x2 x3 vb0 (decide ((vb0.fifo.length:Int) > 0)))
   else (
    Zjx x0 x1 x2 x3 vb0 false))
  else (
   Zjx x0 x1 x2 x3 vb0 false))
def Zpx (x0:Zn) (x1:Bool) (x2:Int) (x3:Int)  (vb0:Zn) (v2:Bool):Option (Zn×Int×Bool):=
 if v2=true then (
  some ({vb0 with timer:=x3},x3,true))
 else (
  if decide (x2=16)=true then (
   (Qn 2).bind λr0=>
   (nzI r0).bind λn0=>
   some ({vb0 with timer:=(Za1 (Zt vb0.timer 1) r0)},vb0.timer,true))
  else (
   if decide (x2=20)=true then (
    if x1=true then (
     Zj2 x0 x1 x2 x3 vb0 (decide ((vb0.fifo.length:Int) < 4)))
    else (
     Zj2 x0 x1 x2 x3 vb0 false))
   else (
    Zj2 x0 x1 x2 x3 vb0 false)))
def Zp0 (x0:Zn) (x1:Bool) (x2:Int) (x3:Int)  (vb0:Zn) (v3:Bool):Option (Zn×Int×Bool):=
 if v3=true then (
  (idx vb0.regs (Zsy x2 4)).bind λa1=>
  (W7 vb0.regs (Zsy x2 4) x3).bind λy0=>
  some ({vb0 with regs:=y0},x3,true))
 else (
  (Z5 x2 0 12).bind λr1=>
  if r1=true then (
   (idx vb0.regs (Zsy x2 4)).bind λa2=>
   some (vb0,a2,true))
  else (
   if decide (x2=16)=true then (
    Zpx x0 x1 x2 x3 vb0 x1)
   else (
    Zpx x0 x1 x2 x3 vb0 false)))
def Zac (x0:Zn) (x1:Bool) (x2:Int) (x3:Int)  (vb0:Zn) (v4:Bool):Option (Zn×Int×Bool):=
 if v4=true then (
  some (vb0,0,false))
 else (
  (Z5 x2 0 12).bind λr2=>
  if r2=true then (
   Zp0 x0 x1 x2 x3 vb0 x1)
  else (
   Zp0 x0 x1 x2 x3 vb0 false))
def Z1f (x0:Zn) (x1:Bool) (x2:Int) (x3:Int):Option (Zn×Int×Bool):=
 (Zse x0).bind λr3=>
 (Zwl x0).bind λr4=>
 if (!r4)=true then (
  Zac x0 x1 x2 x3 r3 true)
 else (
  if decide ((Za1 x2 4)≠0)=true then (
   Zac x0 x1 x2 x3 r3 true)
  else (
   if x1=true then (
    (Qn 2).bind λr5=>
    (Z5 x3 0 (Y8 r5 1)).bind λr6=>
    Zac x0 x1 x2 x3 r3 (!r6))
   else (
    Zac x0 x1 x2 x3 r3 false)))
def Zgo (x0:List Int) (x1:Int) (x2:Int)  (k:Int->Int->Option (Int×Bool)) (v0:Int) (v1:Int):Option (Int×Bool):=
 if decide (v1≥0)=true then (
  (idx x0 (Zt x1 v1)).bind λa0=>
  k (Zt (Jr v0 256) a0) (Y8 v1 1))
 else (
  some (v0,true))
def Zoj (x0:List Int) (x1:Int) (x2:Int)  : Nat->Int->Int->Option (Int×Bool)
 | 0,_,_=>none
 | m+1,v0,v1=>Zgo x0 x1 x2  (Zoj x0 x1 x2  m) v0 v1
def Zx0 (x0:List Int) (x1:Int) (x2:Int):Option (Int×Bool):=
 (Zs4 x0 x1 x2).bind λr0=>
 if (!r0)=true then (
  some (0,false))
 else (
  (Jo x2).bind λr1=>
  Zoj x0 x1 x2 FU 0 (Y8 r1 1))
def Zlt (x0:Zh) (x1:Bool) (x2:Int) (x3:Int) (x4:Int)  (vb0:Zh) (vb1:Zn) (v0:Int) (v1:Bool):Option (Zh×Int×Int):=
 if v1=true then (
  some ((Zh.mk vb0.mem vb1),v0,0))
 else (
  some (vb0,0,1))
def Zla (x0:Zh) (x1:Bool) (x2:Int) (x3:Int) (x4:Int)  (vb2:Zh) (v2:Int) (v3:Bool):Option (Zh×Int×Int):=
 if v3=true then (
  if x1=true then (
   (Zx5 x0.mem x2 x3 x4).bind λr0=>
   some ((Zh.mk r0.1 vb2.dev),x4,0))
  else (
   (Zx0 x0.mem x2 x3).bind λr1=>
   some (vb2,r1.1,0)))
 else (
  if decide (v2=3)=true then (
   (Z1f x0.dev x1 (Y8 x2 192) x4).bind λr2=>
   if decide (x3=2)=true then (
    Zlt x0 x1 x2 x3 x4 vb2 r2.1 r2.2.1 r2.2.2)
   else (
    Zlt x0 x1 x2 x3 x4 vb2 r2.1 r2.2.1 false))
  else (
   some (vb2,0,1)))
def Kx (x0:Zh) (x1:Bool) (x2:Int) (x3:Int) (x4:Int)  (vb2:Zh) (v4:Bool):Option (Zh×Int×Int):=
 if v4=true then (
  some (vb2,0,1))
 else (
  (Zvs x2).bind λr3=>
  if decide (r3=1)=true then (
   Zla x0 x1 x2 x3 x4 vb2 r3 (decide (r3=1)))
  else (
   Zla x0 x1 x2 x3 x4 vb2 r3 (decide (r3=2))))
def Zo3 (x0:Zh) (x1:Bool) (x2:Int) (x3:Int) (x4:Int):Option (Zh×Int×Int):=
 (Zs0 x0).bind λr4=>
 (Zo9 x0).bind λr5=>
 if (!r5)=true then (
  Kx x0 x1 x2 x3 x4 r4 true)
 else (
  (Za7 x2 x3).bind λr6=>
  if (!r6)=true then (
   Kx x0 x1 x2 x3 x4 r4 true)
  else (
   if x1=true then (
    (Qn x3).bind λr7=>
    (Z5 x4 0 (Y8 r7 1)).bind λr8=>
    Kx x0 x1 x2 x3 x4 r4 (!r8))
   else (
    Kx x0 x1 x2 x3 x4 r4 false)))
def Zng (x0:Zb)  (vb0:Zb) (v0:Bool):Option (Zb×Bool):=
 if v0=true then (
  some (vb0,false))
 else (
  (Zc0 x0).bind λr0=>
  if decide ((Zt vb0.done 1)=r0)=true then (
   (Zab vb0.queue 1 (vb0.queue.length:Int)).bind λs0=>
   some ((Zb.mk s0 0 0 0 false false),true))
  else (
   some ((Zb.mk vb0.queue vb0.beat (Zt vb0.done 1) 0 false vb0.broken),true)))
def Zx4 (x0:Zb):Option (Zb×Bool):=
 (Zd3 x0).bind λr1=>
 (Zbo x0).bind λr2=>
 if (!r2)=true then (
  Zng x0 r1 true)
 else (
  Zng x0 r1 (decide (x0.beat=x0.done)))
def Zds (x0:Za) (x1:Zi)  (vb0:Za) (vb1:Zb) (vb2:Zm):Option Za:=
 (Wd 56 vb0.log [vb2]).bind λz0=>
 (Zx4 vb1).bind λr0=>
 (idx vb0.m x0.data_.who).bind λa0=>
 (W7 vb0.m x0.data_.who r0.1).bind λy0=>
 if decide (vb0.holder=x0.data_.who)=true then (
  if decide (r0.1.done=0)=true then (
   some {vb0 with m:=y0,holder:=(-1),held:=0,log:=z0})
  else (
   some {vb0 with m:=y0,log:=z0}))
 else (
  some {vb0 with m:=y0,log:=z0})
def Zp5 (x0:Za) (x1:Zi):Option Za:=
 (idx x0.m x0.data_.who).bind λa1=>
 if decide (x0.data_.resp=2)=true then (
  (W7 x0.m x0.data_.who {a1 with tries:=(Zt a1.tries 1)}).bind λy1=>
  (Zkd {x0 with m:=y1,data_:=Zg.z0} x0.data_).bind λr1=>
  some r1)
 else (
  if decide (x0.data_.resp=3)=true then (
   (W7 x0.m x0.data_.who {a1 with parted:=true}).bind λy2=>
   (Zuw x0.conf x1 x0.picks).bind λr2=>
   (idx x0.splits x0.data_.who).bind λa2=>
   (W7 x0.splits x0.data_.who r2).bind λy3=>
   (Zkd {x0 with m:=y2,splits:=y3,data_:=Zg.z0} x0.data_).bind λr3=>
   some r3)
  else (
   (idx a1.queue 0).bind λa3=>
   (Zgu a1 x0.data_.beat).bind λr4=>
   if decide (x0.data_.resp=0)=true then (
    (Zl8 a3 x0.data_.beat).bind λr5=>
    (Zo3 x0.model a3.write r4 a3.size r5).bind λr6=>
    Zds x0 x1 {x0 with data_:=Zg.z0,model:=r6.1} a1 (Zm.mk x0.now x0.data_.who a3.write r4 a3.size r6.2.1 x0.data_.resp))
   else (
    Zds x0 x1 {x0 with data_:=Zg.z0} a1 (Zm.mk x0.now x0.data_.who a3.write r4 a3.size 0 x0.data_.resp))))
def Zxr (x0:Zi) (x1:Int):Option Int:=
 (Zyo x0.says x1).bind λr0=>
 if decide (r0=2)=true then (
  some r0)
 else (
  if decide (r0=3)=true then (
   some r0)
  else (
   some 0))
def Zxv (x0:Zk) (x1:Zi) (x2:Int):Option Int:=
 (Zyo x1.waits x2).bind λr0=>
 some (Z2n 0 (Zjq x0.maxWait r0))
def Zel (x0:Za) (x1:Zi)  (vb0:Zg):Option Za:=
 some {x0 with addr:=Zg.z0,data_:=vb0,picks:=(Zt x0.picks 1)}
def Kk (x0:Za) (x1:Zi)  (vb0:Zg) (v0:Bool):Option Za:=
 if v0=true then (
  Zel x0 x1 {vb0 with resp:=3})
 else (
  Zel x0 x1 vb0)
def Zci (x0:Za) (x1:Zi)  (vb0:Zg) (vb1:Zb) (v1:Int) (v2:Int):Option Za:=
 if (!vb1.broken)=true then (
  if decide (v2=3)=true then (
   if decide (v1=2)=true then (
    if (!vb1.parted)=true then (
     Kk x0 x1 vb0 (decide (x0.holder≠vb0.who)))
    else (
     Kk x0 x1 vb0 false))
   else (
    Kk x0 x1 vb0 false))
  else (
   Kk x0 x1 vb0 false))
 else (
  Kk x0 x1 vb0 false)
def Kn (x0:Za) (x1:Zi)  (vb0:Zg) (vb1:Zb) (v1:Int) (v2:Int) (v3:Bool):Option Za:=
 if v3=true then (
  Zci x0 x1 {vb0 with resp:=2} vb1 v1 v2)
 else (
  Zci x0 x1 vb0 vb1 v1 v2)
def Zcc (x0:Za) (x1:Zi)  (vb0:Zg) (vb1:Zb) (v1:Int) (v2:Int):Option Za:=
 if (!vb1.broken)=true then (
  if decide (v2=2)=true then (
   if decide (v1=1)=true then (
    Kn x0 x1 vb0 vb1 v1 v2 (decide (vb1.tries < x0.conf.maxRetry)))
   else (
    if decide (v1=2)=true then (
     Kn x0 x1 vb0 vb1 v1 v2 (decide (vb1.tries < x0.conf.maxRetry)))
    else (
     Kn x0 x1 vb0 vb1 v1 v2 false)))
  else (
   Kn x0 x1 vb0 vb1 v1 v2 false))
 else (
  Kn x0 x1 vb0 vb1 v1 v2 false)
def Zb8 (x0:Za) (x1:Zi)  (vb0:Zg) (vb1:Zb) (v1:Int) (v2:Int) (v4:Bool):Option Za:=
 if v4=true then (
  Zcc x0 x1 {vb0 with left:=(Zt vb0.left 2)} vb1 v1 v2)
 else (
  Zcc x0 x1 vb0 vb1 v1 v2)
def Zck (x0:Za) (x1:Zi)  (vb0:Zg) (vb1:Zb) (v1:Int) (v2:Int):Option Za:=
 if decide (v1=3)=true then (
  Zb8 x0 x1 vb0 vb1 v1 v2 (!vb1.broken))
 else (
  Zb8 x0 x1 vb0 vb1 v1 v2 false)
def Zcj (x0:Za) (x1:Zi)  (vb2:Zb) (vb3:Zf) (v5:Int) (v1:Int) (v2:Int) (v6:Bool):Option Za:=
 if v6=true then (
  Zck x0 x1 {x0.addr with resp:=1} vb2 v1 v2)
 else (
  (Zxv x0.conf x1 x0.picks).bind λr0=>
  (Zl8 vb3 x0.addr.beat).bind λr1=>
  (Zo3 x0.model vb3.write v5 vb3.size r1).bind λr2=>
  Zck x0 x1 {x0.addr with left:=r0,resp:=r2.2.2} vb2 v1 v2)
def Zr4 (x0:Za) (x1:Zi):Option Za:=
 if (!x0.addr.live)=true then (
  some {x0 with addr:=Zg.z0})
 else (
  (idx x0.m x0.addr.who).bind λa0=>
  (idx a0.queue 0).bind λa1=>
  (Zgu a0 x0.addr.beat).bind λr3=>
  (Zvs r3).bind λr4=>
  (Zxr x1 x0.picks).bind λr5=>
  if a0.broken=true then (
   Zcj x0 x1 a0 a1 r3 r4 r5 true)
  else (
   Zcj x0 x1 a0 a1 r3 r4 r5 (decide (r4=0))))
def Zmd (x0:Zb):Option Bool:=
 (Zbo x0).bind λr0=>
 if r0=true then (
  (Zc0 x0).bind λr1=>
  some (decide (x0.beat < r1)))
 else (
  some false)
def Zc4 (x0:Zc) (x1:Zd)  (v0:Bool):Option (Zc×Bool):=
 if v0=true then (
  some (x0,false))
 else (
  some ((Zc.mk (Y8 x0.tokens 1) x0.count),true))
def Zoe (x0:Zc) (x1:Zd):Option (Zc×Bool):=
 if (!x1.prio)=true then (
  Zc4 x0 x1 true)
 else (
  (Zem x0 x1).bind λr0=>
  if (!r0)=true then (
   Zc4 x0 x1 true)
  else (
   Zc4 x0 x1 (decide (x0.tokens=0))))
def Zjd (x0:Zb)  (vb0:Zb) (v0:Bool):Option (Zb×Bool):=
 if v0=true then (
  some (vb0,false))
 else (
  some ({vb0 with beat:=(Zt vb0.beat 1)},true))
def Zsg (x0:Zb):Option (Zb×Bool):=
 (Zd3 x0).bind λr0=>
 (Zmd x0).bind λr1=>
 if (!r1)=true then (
  Zjd x0 r0 true)
 else (
  Zjd x0 r0 (decide (x0.beat=(Zt x0.done 2))))
def Zqd (x0:Z2) (x1:Zk) (x2:List Bool)  (k:Int->Option (Z2×Int)) (v0:Int):Option (Z2×Int):=
 if decide (v0<=(x2.length:Int))=true then (
  (nzI (x2.length:Int)).bind λn0=>
  (idx x2 (Za1 (Zt x0.at_ v0) (x2.length:Int))).bind λa0=>
  if a0=true then (
   (Zjf x1 (Za1 (Zt x0.at_ v0) (x2.length:Int))).bind λr0=>
   some ((Z2.mk (Za1 (Zt x0.at_ v0) (x2.length:Int)) (Y8 r0 1)),(Za1 (Zt x0.at_ v0) (x2.length:Int))))
  else (
   k (Zt v0 1)))
 else (
  some ((Z2.mk x0.at_ 0),(-1)))
def Zky (x0:Z2) (x1:Zk) (x2:List Bool)  : Nat->Int->Option (Z2×Int)
 | 0,_=>none
 | m+1,v0=>Zqd x0 x1 x2  (Zky x0 x1 x2  m) v0
def Zlc (x0:Z2) (x1:Zk) (x2:List Bool)  (v1:Bool):Option (Z2×Int):=
 if v1=true then (
  some ((Z2.mk x0.at_ (Y8 x0.credit 1)),x0.at_))
 else (
  Zky x0 x1 x2 FU 1)
def Zly (x0:Z2) (x1:Zk) (x2:List Bool)  (v2:Bool):Option (Z2×Int):=
 if v2=true then (
  some (x0,(-1)))
 else (
  if decide (x0.credit > 0)=true then (
   (idx x2 x0.at_).bind λa1=>
   Zlc x0 x1 x2 a1)
  else (
   Zlc x0 x1 x2 false))
def Zvg (x0:Z2) (x1:Zk) (x2:List Bool):Option (Z2×Int):=
 (Zq4 x0 x1).bind λr1=>
 if (!r1)=true then (
  Zly x0 x1 x2 true)
 else (
  Zly x0 x1 x2 (decide ((x2.length:Int)≠(x1.masters.length:Int))))
def Zjs (x0:Za) (k_L2:Za->Zg->(List Bool)->Int->Option Za) (vb0:Za) (vb1:Zg) (v0:List Bool) (v1:Int) (v2:Bool):Option Za:=
 if v2=true then (
  (idx vb0.buckets v1).bind λa0=>
  (idx vb0.conf.masters v1).bind λa1=>
  (Zoe a0 a1).bind λr0=>
  (W7 vb0.buckets v1 r0.1).bind λy0=>
  k_L2 {vb0 with buckets:=y0} (Zg.mk false v1 0 false 1 0 0 false) v0 (Zt v1 1))
 else (
  k_L2 vb0 vb1 v0 (Zt v1 1))
def Zhb (x0:Za)  (vb0:Za) (vb1:Zg) (vb2:Zb):Option Za:=
 (Zsg vb2).bind λr1=>
 (idx vb0.m vb1.who).bind λa2=>
 (W7 vb0.m vb1.who r1.1).bind λy1=>
 some {vb0 with m:=y1,last:=vb1.who,addr:=vb1}
def Zdp (x0:Za)  (vb0:Za) (vb1:Zg) (vb2:Zb) (v3:Bool):Option Za:=
 if v3=true then (
  Zhb x0 {vb0 with holder:=vb1.who,held:=0} vb1 vb2)
 else (
  Zhb x0 vb0 vb1 vb2)
def Zey (x0:Za)  (vb0:Za) (vb1:Zg) (vb2:Zb):Option Za:=
 (idx vb2.queue 0).bind λa3=>
 if a3.lock=true then (
  if (!vb2.broken)=true then (
   Zdp x0 vb0 vb1 vb2 (decide (vb0.holder < 0)))
  else (
   Zdp x0 vb0 vb1 vb2 false))
 else (
  Zdp x0 vb0 vb1 vb2 false)
def Ja (x0:Za)  (vb0:Za) (vb1:Zg):Option Za:=
 if decide (vb1.who < 0)=true then (
  some vb0)
 else (
  (idx vb0.m vb1.who).bind λa4=>
  if decide (a4.beat=0)=true then (
   Zey x0 vb0 {vb1 with live:=true,beat:=a4.beat,first:=true} a4)
  else (
   Zey x0 vb0 {vb1 with live:=true,beat:=a4.beat,first:=(decide (vb0.last≠vb1.who))} a4))
def Ze8 (x0:Za)  (vb0:Za) (vb1:Zg) (v0:List Bool) (v4:Bool):Option Za:=
 if v4=true then (
  (Zvg vb0.arb vb0.conf v0).bind λr2=>
  Ja x0 {vb0 with arb:=r2.1} {vb1 with who:=r2.2,by_:=2})
 else (
  Ja x0 vb0 vb1)
def Zcg (x0:Za) (k_L2:Za->Zg->(List Bool)->Int->Option Za) (vb0:Za) (vb1:Zg) (v0:List Bool) (v1:Int) (v5:Bool):Option Za:=
 if v5=true then (
  (idx v0 v1).bind λa5=>
  if a5=true then (
   (idx vb0.buckets v1).bind λa6=>
   Zjs x0 k_L2 vb0 vb1 v0 v1 (decide (a6.tokens > 0)))
  else (
   Zjs x0 k_L2 vb0 vb1 v0 v1 false))
 else (
  if decide (vb1.who < 0)=true then (
   Ze8 x0 vb0 vb1 v0 (decide (vb0.holder < 0)))
  else (
   Ze8 x0 vb0 vb1 v0 false))
def Jx (x0:Za)  (k:Za->Zg->(List Bool)->Int->Option Za) (vb0:Za) (vb1:Zg) (v0:List Bool) (v1:Int):Option Za:=
 if decide (v1 < (vb0.m.length:Int))=true then (
  Zcg x0 k vb0 vb1 v0 v1 (decide (vb1.who < 0)))
 else (
  Zcg x0 k vb0 vb1 v0 v1 false)
def Zal (x0:Za)  : Nat->Za->Zg->(List Bool)->Int->Option Za
 | 0,_,_,_,_=>none
 | m+1,vb0,vb1,v0,v1=>Jx x0  (Zal x0  m) vb0 vb1 v0 v1
def Zi7 (x0:Za)  (vb1:Zg) (v0:List Bool):Option Za:=
 Zal x0 FU x0 vb1 v0 0
def Zjh (x0:Za)  (v0:List Bool) (v6:Bool):Option Za:=
 if v6=true then (
  Zi7 x0 (Zg.mk false x0.holder 0 false 3 0 0 false) v0)
 else (
  Zi7 x0 (Zg.mk false (-1) 0 false 0 0 0 false) v0)
def Zhk (x0:Za)  (k:(List Bool)->Int->Option Za) (v0:List Bool) (v7:Int):Option Za:=
 if decide (v7 < (x0.m.length:Int))=true then (
  (idx x0.m v7).bind λa7=>
  (Zmd a7).bind λr3=>
  if r3=true then (
   (idx x0.splits v7).bind λa8=>
   if decide (a8=0)=true then (
    if decide (x0.holder < 0)=true then (
     (Wd 1 v0 [true]).bind λz0=>
     k z0 (Zt v7 1))
    else (
     (Wd 1 v0 [decide (x0.holder=v7)]).bind λz0=>
     k z0 (Zt v7 1)))
   else (
    (Wd 1 v0 [false]).bind λz0=>
    k z0 (Zt v7 1)))
  else (
   (Wd 1 v0 [false]).bind λz0=>
   k z0 (Zt v7 1)))
 else (
  if decide (x0.holder≥0)=true then (
   (idx v0 x0.holder).bind λa9=>
   Zjh x0 v0 a9)
  else (
   Zjh x0 v0 false))
def Zi3 (x0:Za)  : Nat->(List Bool)->Int->Option Za
 | 0,_,_=>none
 | m+1,v0,v7=>Zhk x0  (Zi3 x0  m) v0 v7
def Zsh (x0:Za):Option Za:=
 Zi3 x0 FU [] 0
def Zdb (x0:Za) (x1:Zi)  (vb0:Za) (vb1:Zp):Option (Za×Zp):=
 some ({vb0 with now:=(Zt vb0.now 1)},vb1)
def Zdg (x0:Za) (x1:Zi)  (vb0:Za) (vb2:Zp):Option (Za×Zp):=
 (Zr4 vb0 x1).bind λr0=>
 (Zsh r0).bind λr1=>
 if r1.addr.live=true then (
  Zdb x0 x1 r1 {vb2 with got:=r1.addr.who})
 else (
  Zdb x0 x1 r1 vb2)
def J2 (x0:Za) (x1:Zi)  (vb0:Za) (vb2:Zp) (v0:Bool):Option (Za×Zp):=
 if v0=true then (
  (idx vb0.m vb0.holder).bind λa0=>
  (W7 vb0.m vb0.holder {a0 with broken:=true}).bind λy0=>
  Zdg x0 x1 {vb0 with m:=y0,holder:=(-1),held:=0} vb2)
 else (
  Zdg x0 x1 vb0 vb2)
def Q2 (x0:Za) (x1:Zi)  (vb0:Za) (vb2:Zp):Option (Za×Zp):=
 if vb2.ready=true then (
  if decide (vb0.holder≥0)=true then (
   J2 x0 x1 vb0 vb2 (decide (vb0.held≥vb0.conf.lockMost)))
  else (
   J2 x0 x1 vb0 vb2 false))
 else (
  Zdb x0 x1 vb0 vb2)
def J1 (x0:Za) (x1:Zi)  (vb0:Za) (vb2:Zp) (v1:Bool):Option (Za×Zp):=
 if v1=true then (
  if vb0.addr.live=true then (
   (Zkd {vb0 with addr:=Zg.z0,data_:={vb0.data_ with second:=true}} vb0.addr).bind λr2=>
   Q2 x0 x1 r2 {vb2 with ready:=false,resp:=vb0.data_.resp})
  else (
   Q2 x0 x1 {vb0 with data_:={vb0.data_ with second:=true}} {vb2 with ready:=false,resp:=vb0.data_.resp}))
 else (
  if vb0.data_.live=true then (
   (Zp5 vb0 x1).bind λr3=>
   Q2 x0 x1 r3 {vb2 with resp:=vb0.data_.resp})
  else (
   Q2 x0 x1 vb0 vb2))
def Zkt (x0:Za) (x1:Zi)  (vb0:Za) (vb2:Zp) (v2:Bool):Option (Za×Zp):=
 if v2=true then (
  Q2 x0 x1 {vb0 with data_:={vb0.data_ with left:=(Y8 vb0.data_.left 1)}} {vb2 with ready:=false})
 else (
  if vb0.data_.live=true then (
   if decide (vb0.data_.resp≠0)=true then (
    J1 x0 x1 vb0 vb2 (!vb0.data_.second))
   else (
    J1 x0 x1 vb0 vb2 false))
  else (
   J1 x0 x1 vb0 vb2 false))
def J3 (x0:Za) (x1:Zi)  (vb0:Za) (vb2:Zp):Option (Za×Zp):=
 if vb0.data_.live=true then (
  Zkt x0 x1 vb0 vb2 (decide (vb0.data_.left > 0)))
 else (
  Zkt x0 x1 vb0 vb2 false)
def Ziu (x0:Za) (x1:Zi)  (k:Za->Zp->Int->Option (Za×Zp)) (vb0:Za) (vb2:Zp) (v3:Int):Option (Za×Zp):=
 if decide (v3 < (vb0.m.length:Int))=true then (
  (idx vb0.splits v3).bind λa1=>
  (W7 vb0.splits v3 (Z2n 0 (Y8 a1 1))).bind λy1=>
  (idx vb0.buckets v3).bind λa2=>
  (idx vb0.conf.masters v3).bind λa3=>
  (Zok a2 a3).bind λr4=>
  (W7 vb0.buckets v3 r4).bind λy2=>
  k {vb0 with buckets:=y2,splits:=y1} vb2 (Zt v3 1))
 else (
  if decide (vb0.holder≥0)=true then (
   J3 x0 x1 {vb0 with held:=(Zjq vb0.conf.lockMost (Zt vb0.held 1))} vb2)
  else (
   J3 x0 x1 vb0 vb2))
def Zba (x0:Za) (x1:Zi)  : Nat->Za->Zp->Int->Option (Za×Zp)
 | 0,_,_,_=>none
 | m+1,vb0,vb2,v3=>Ziu x0 x1  (Zba x0 x1  m) vb0 vb2 v3
def Zjk (x0:Za) (x1:Zi)  (k:Za->Zp->(List Zl)->Int->Option (Za×Zp)) (vb0:Za) (vb2:Zp) (v4:List Zl) (v5:Int):Option (Za×Zp):=
 if decide (v5 < (v4.length:Int))=true then (
  (idx v4 v5).bind λa4=>
  (Z5 a4.who 0 (Y8 (vb0.m.length:Int) 1)).bind λr5=>
  if r5=true then (
   (idx vb0.m a4.who).bind λa5=>
   (Zu6 a5 a4.req).bind λr6=>
   (W7 vb0.m a4.who r6.1).bind λy3=>
   k {vb0 with m:=y3} vb2 v4 (Zt v5 1))
  else (
   k vb0 vb2 v4 (Zt v5 1)))
 else (
  Zba x0 x1 FU vb0 vb2 0)
def Zfw (x0:Za) (x1:Zi)  : Nat->Za->Zp->(List Zl)->Int->Option (Za×Zp)
 | 0,_,_,_,_=>none
 | m+1,vb0,vb2,v4,v5=>Zjk x0 x1  (Zfw x0 x1  m) vb0 vb2 v4 v5
def Zus (x0:Za) (x1:Zi):Option (Za×Zp):=
 (Zpi x0).bind λr7=>
 (Zvm r7).bind λr8=>
 (Zvn x1 r7.now).bind λr9=>
 Zfw x0 x1 FU r7 r8 r9 0
def Zkx (x0:Za) (x1:Zi)  (v0:Bool):Option (Za×Zp):=
 if v0=true then (
  (Zpi x0).bind λr0=>
  some (r0,Zp.z0))
 else (
  (Zus x0 x1).bind λr1=>
  some (r1.1,r1.2))
def Zu7 (x0:Za) (x1:Zi):Option (Za×Zp):=
 (Znc x0).bind λr2=>
 if (!r2)=true then (
  Zkx x0 x1 true)
 else (
  Zkx x0 x1 (decide (x0.now=4000)))
def Yu (x0:Int) (x1:Int) (x2:Int):Option Bool:=
 if decide (x1<=x0)=true then (
  some (decide (x0<=x2)))
 else (
  some false)
def Zua (x0:Zk)  (v0:Bool):Option Int:=
 if v0=true then (
  some 0)
 else (
  some (Jr (Zt x0.maxRetry 2) (Zt x0.maxWait 6)))
def Zta (x0:Zk):Option Int:=
 (Yu x0.maxRetry 0 3).bind λr0=>
 if (!r0)=true then (
  Zua x0 true)
 else (
  (Yu x0.maxWait 0 3).bind λr1=>
  Zua x0 (!r1))
def Zsq (x0:Zk):Option Int:=
 (Zta x0).bind λr0=>
 if decide (r0=0)=true then (
  some 0)
 else (
  (Yu x0.lockMost 1 40).bind λr1=>
  if (!r1)=true then (
   some 0)
  else (
   (Zta x0).bind λr2=>
   some (Zt (Jr 2 r2) x0.lockMost)))
def Zt4 (x0:Zk)  (k:Int->Int->Option Int) (v0:Int) (v1:Int):Option Int:=
 if decide (v1 < (x0.masters.length:Int))=true then (
  (idx x0.masters v1).bind λa0=>
  if a0.prio=true then (
   k (Zt v0 1) (Zt v1 1))
  else (
   k v0 (Zt v1 1)))
 else (
  some v0)
def Zpr (x0:Zk)  : Nat->Int->Int->Option Int
 | 0,_,_=>none
 | m+1,v0,v1=>Zt4 x0  (Zpr x0  m) v0 v1
def Z0z (x0:Zk):Option Int:=
 Zpr x0 FU 0 0
def Znv (x0:Zk):Option Int:=
 (Zsq x0).bind λr0=>
 (Z0z x0).bind λr1=>
 some (Jr (Jr 2 r0) r1)
def Zr9 (x0:Zd) (x1:Zk):Option Bool:=
 (Yu x0.weight 1 4).bind λr0=>
 if (!r0)=true then (
  some true)
 else (
  if x0.prio=true then (
   (Znv x1).bind λr1=>
   (Yu x0.every r1 1000).bind λr2=>
   if (!r2)=true then (
    some true)
   else (
    (Yu x0.cap 1 8).bind λr3=>
    some (!r3)))
  else (
   if decide (x0.every≠0)=true then (
    some true)
   else (
    some (decide (x0.cap≠0)))))
def W6 (x0:List Zd) (x1c0:Zk)  (k:Int->Option Int) (v0:Int):Option Int:=
 if decide (v0 < (x0.length:Int))=true then (
  (idx x0 v0).bind λa0=>
  (Zr9 a0 x1c0).bind λr0=>
  if r0=true then (
   some v0)
  else (
   k (Zt v0 1)))
 else (
  some (-1))
def Y1 (x0:List Zd) (x1c0:Zk)  : Nat->Int->Option Int
 | 0,_=>none
 | m+1,v0=>W6 x0 x1c0  (Y1 x0 x1c0  m) v0
def Qz (x0:List Zd) (x1c0:Zk):Option Int:=
 Y1 x0 x1c0 FU 0
def X7 (x0:List Zd) (x1c0:Zk):Option Bool:=
 (Qz x0 x1c0).bind λr0=>
 some (decide (r0≥0))
def Znr (x0:Zk):Option Bool:=
 (Yu (x0.masters.length:Int) 1 4).bind λr0=>
 if (!r0)=true then (
  some false)
 else (
  (Yu x0.quantum 1 4).bind λr1=>
  if (!r1)=true then (
   some false)
  else (
   (Yu x0.maxSplit 1 12).bind λr2=>
   if (!r2)=true then (
    some false)
   else (
    (Zsq x0).bind λr3=>
    if decide (r3=0)=true then (
     some false)
    else (
     (X7 x0.masters x0).bind λr4=>
     some (!r4)))))
def Zae (x0:List Zd):Option (List Zd):=Wd 32 [] x0
def Zux (x0:Zk):Option Zk:=
 (Zae x0.masters).bind λr0=>
 some {x0 with masters:=r0}
def Zg5 (x0:Int):Option Int:=
 (Yu x0 0 3).bind λr0=>
 if (!r0)=true then (
  some 0)
 else (
  (idx [1,4,4,8] x0).bind λa0=>
  some a0)
def J8 (x0:Int):Option Int:=
 (Yu x0 0 2).bind λr0=>
 if (!r0)=true then (
  some 0)
 else (
  (nnI x0).bind λn0=>
  some (Ydb 1 x0))
def Zgz (x0:Int) (x1:Int):Option Bool:=
 (Yu x1 0 2).bind λr0=>
 if r0=true then (
  if decide (x0≥0)=true then (
   (J8 x1).bind λr1=>
   (nzI r1).bind λn0=>
   some (decide ((Za1 x0 r1)=0)))
  else (
   some false))
 else (
  some false)
def Zes (x0:Int) (x1:Int) (x2:Int)  (v0:Bool):Option Int:=
 if v0=true then (
  some (-1))
 else (
  (J8 x1).bind λr0=>
  (J8 x1).bind λr1=>
  if decide (x2=2)=true then (
   (nzI (Jr 4 r1)).bind λn0=>
   if decide ((Za1 (Zt x0 r0) (Jr 4 r1))=0)=true then (
    some (Y8 (Zt x0 r0) (Jr 4 r1)))
   else (
    some (Zt x0 r0)))
  else (
   some (Zt x0 r0)))
def Zti (x0:Int) (x1:Int) (x2:Int):Option Int:=
 (Zgz x0 x1).bind λr2=>
 if (!r2)=true then (
  Zes x0 x1 x2 true)
 else (
  if decide (x0≥512)=true then (
   Zes x0 x1 x2 true)
  else (
   (Zg5 x2).bind λr3=>
   Zes x0 x1 x2 (decide (r3=0))))
def Zb2 (x0:Int) (x1:Int) (x2:Int)  (k:Int->(List Int)->Int->Int->Option (List Int)) (v0:Int) (v1:List Int) (v2:Int) (v3:Int):Option (List Int):=
 if decide (v3 < v2)=true then (
  (Zti v0 x1 x2).bind λr0=>
  if decide (r0 < 0)=true then (
   some [])
  else (
   (Wd 8 v1 [v0]).bind λz0=>
   k r0 z0 v2 (Zt v3 1)))
 else (
  some v1)
def Zgm (x0:Int) (x1:Int) (x2:Int)  : Nat->Int->(List Int)->Int->Int->Option (List Int)
 | 0,_,_,_,_=>none
 | m+1,v0,v1,v2,v3=>Zb2 x0 x1 x2  (Zgm x0 x1 x2  m) v0 v1 v2 v3
def Zh3 (x0:Int) (x1:Int) (x2:Int):Option (List Int):=
 (Zg5 x2).bind λr1=>
 Zgm x0 x1 x2 FU x0 [] r1 0
def Zqa (x0:Int) (x1:Int) (x2:Int)  (k:(List Int)->Int->Int->Option Bool) (v0:List Int) (v1:Int) (v2:Int):Option Bool:=
 if decide (v2 < v1)=true then (
  (idx v0 v2).bind λa0=>
  (idx v0 0).bind λa1=>
  if decide ((Zsy a0 64)≠(Zsy a1 64))=true then (
   some false)
  else (
   k v0 v1 (Zt v2 1)))
 else (
  some (decide ((v0.length:Int) > 0)))
def Zlr (x0:Int) (x1:Int) (x2:Int)  : Nat->(List Int)->Int->Int->Option Bool
 | 0,_,_,_=>none
 | m+1,v0,v1,v2=>Zqa x0 x1 x2  (Zlr x0 x1 x2  m) v0 v1 v2
def Zu0 (x0:Int) (x1:Int) (x2:Int):Option Bool:=
 (Zh3 x0 x1 x2).bind λr0=>
 Zlr x0 x1 x2 FU r0 (r0.length:Int) 0
def Zo1 (x0:Int):Option Int:=
 (J8 x0).bind λr0=>
 if decide (r0=0)=true then (
  some 0)
 else (
  (J8 x0).bind λr1=>
  (nnI (Jr 8 r1)).bind λn0=>
  some (Ydb 1 (Jr 8 r1)))
def Zd8 (x0:Int) (x1:Int):Option Bool:=
 (Zo1 x1).bind λr0=>
 (Yu x0 0 (Y8 r0 1)).bind λr1=>
 some r1
def Zun (x0:Int) (x1:Zf):Option Bool:=
 (Zd8 x0 x1.size).bind λr0=>
 some (!r0)
def Zh9 (x0:List Int) (x1c0:Zf)  (k:Int->Option Int) (v0:Int):Option Int:=
 if decide (v0 < (x0.length:Int))=true then (
  (idx x0 v0).bind λa0=>
  (Zun a0 x1c0).bind λr0=>
  if r0=true then (
   some v0)
  else (
   k (Zt v0 1)))
 else (
  some (-1))
def Q7 (x0:List Int) (x1c0:Zf)  : Nat->Int->Option Int
 | 0,_=>none
 | m+1,v0=>Zh9 x0 x1c0  (Q7 x0 x1c0  m) v0
def K4 (x0:List Int) (x1c0:Zf):Option Int:=
 Q7 x0 x1c0 FU 0
def Wt (x0:List Int) (x1c0:Zf):Option Bool:=
 (K4 x0 x1c0).bind λr0=>
 some (decide (r0≥0))
def Zpw (x0:Zf)  (v0:Int):Option Bool:=
 (Zu0 x0.addr x0.size x0.burst).bind λr0=>
 if r0=true then (
  if decide ((x0.data_.length:Int)=v0)=true then (
   (Wt x0.data_ x0).bind λr1=>
   some (!r1))
  else (
   some false))
 else (
  some false)
def Zwa (x0:Zf):Option Bool:=
 if x0.write=true then (
  (Zg5 x0.burst).bind λr2=>
  Zpw x0 r2)
 else (
  Zpw x0 0)
def Xc (x0:List Int):Option (List Int):=Wd 8 [] x0
def Zir (x0:Zf):Option Zf:=
 (Xc x0.data_).bind λr0=>
 some {x0 with data_:=r0}
def Yet (x0:Zb)  (k:(List Zf)->Int->Option Zb) (v0:List Zf) (v1:Int):Option Zb:=
 if decide (v1 < (x0.queue.length:Int))=true then (
  (idx x0.queue v1).bind λa0=>
  (Zir a0).bind λr0=>
  (Wd 64 v0 [r0]).bind λz0=>
  k z0 (Zt v1 1))
 else (
  some {x0 with queue:=v0})
def Znm (x0:Zb)  : Nat->(List Zf)->Int->Option Zb
 | 0,_,_=>none
 | m+1,v0,v1=>Yet x0  (Znm x0  m) v0 v1
def Zf8 (x0:Zb):Option Zb:=
 Znm x0 FU [] 0
def Jp (x0:List Zc):Option (List Zc):=Wd 16 [] x0
def Zrs (x0:Zn):Option Zn:=
 (Xc x0.regs).bind λr0=>
 (Xc x0.fifo).bind λr1=>
 some (Zn.mk r0 x0.timer r1)
def Zh0 (x0:Zh):Option Zh:=
 (Xc x0.mem).bind λr0=>
 (Zrs x0.dev).bind λr1=>
 some (Zh.mk r0 r1)
def Zbp (x0:List Zm):Option (List Zm):=Wd 56 [] x0
def Zk2 (x0:Za)  (k:Za->(List Zb)->Int->Option Za) (vb0:Za) (v0:List Zb) (v1:Int):Option Za:=
 if decide (v1 < (x0.m.length:Int))=true then (
  (idx x0.m v1).bind λa0=>
  (Zf8 a0).bind λr0=>
  (Wd 56 v0 [r0]).bind λz0=>
  k vb0 z0 (Zt v1 1))
 else (
  (Jp vb0.buckets).bind λr1=>
  (Xc vb0.splits).bind λr2=>
  (Zh0 vb0.model).bind λr3=>
  (Zbp vb0.log).bind λr4=>
  some {vb0 with m:=v0,buckets:=r1,splits:=r2,model:=r3,log:=r4})
def Zh1 (x0:Za)  : Nat->Za->(List Zb)->Int->Option Za
 | 0,_,_,_=>none
 | m+1,vb0,v0,v1=>Zk2 x0  (Zh1 x0  m) vb0 v0 v1
def Ztj (x0:Za):Option Za:=
 (Zux x0.conf).bind λr5=>
 Zh1 x0 FU {x0 with conf:=r5} [] 0
def Zf4 (x0:Zf):Option Bool:=
 (Zwa x0).bind λr0=>
 some (!r0)
def Zej (x0:List Zf)  (k:Int->Option Int) (v0:Int):Option Int:=
 if decide (v0 < (x0.length:Int))=true then (
  (idx x0 v0).bind λa0=>
  (Zf4 a0).bind λr0=>
  if r0=true then (
   some v0)
  else (
   k (Zt v0 1)))
 else (
  some (-1))
def W3 (x0:List Zf)  : Nat->Int->Option Int
 | 0,_=>none
 | m+1,v0=>Zej x0  (W3 x0  m) v0
def Qo (x0:List Zf):Option Int:=
 W3 x0 FU 0
def X2 (x0:List Zf):Option Bool:=
 (Qo x0).bind λr0=>
 some (decide (r0≥0))
def Zbx (x0:Zb):Option Int:=
 if decide ((x0.queue.length:Int)=0)=true then (
  some 0)
 else (
  (idx x0.queue 0).bind λa0=>
  (Zg5 a0.burst).bind λr0=>
  some r0)
def Wq (x0:Zb)  (v0:Bool):Option Bool:=
 if v0=true then (
  some false)
 else (
  if decide ((x0.queue.length:Int)=0)=true then (
   if decide (x0.beat=0)=true then (
    if decide (x0.done=0)=true then (
     if decide (x0.tries=0)=true then (
      if (!x0.parted)=true then (
       some (!x0.broken))
      else (
       some false))
     else (
      some false))
    else (
     some false))
   else (
    some false))
  else (
   (Zbx x0).bind λr0=>
   (Yu x0.done 0 (Y8 r0 1)).bind λr1=>
   if r1=true then (
    (Zbx x0).bind λr2=>
    (Yu x0.beat x0.done (Zjq (Zt x0.done 2) r2)).bind λr3=>
    some r3)
   else (
    some false)))
def Kg (x0:Zb):Option Bool:=
 if decide ((x0.queue.length:Int) > 4)=true then (
  Wq x0 true)
 else (
  if decide (x0.tries < 0)=true then (
   Wq x0 true)
  else (
   (X2 x0.queue).bind λr4=>
   Wq x0 r4))
def Zm9 (x0:Zc) (x1:Zd):Option Bool:=
 if (!x1.prio)=true then (
  some (decide (x0.tokens=0)&&(decide (x0.count=0)&&true)))
 else (
  (Yu x0.tokens 0 x1.cap).bind λr0=>
  if r0=true then (
   if decide (x0.count≥0)=true then (
    some (decide (x0.count < x1.every)))
   else (
    some false))
  else (
   some false))
def Zb1 (x0:Za)  (k:Int->Option Bool) (v0:Int):Option Bool:=
 if decide (v0 < (x0.m.length:Int))=true then (
  (idx x0.m v0).bind λa0=>
  (Kg a0).bind λr0=>
  if (!r0)=true then (
   some false)
  else (
   if decide (a0.tries > x0.conf.maxRetry)=true then (
    some false)
   else (
    (idx x0.buckets v0).bind λa1=>
    (idx x0.conf.masters v0).bind λa2=>
    (Zm9 a1 a2).bind λr1=>
    if (!r1)=true then (
     some false)
    else (
     (idx x0.splits v0).bind λa3=>
     (Yu a3 0 x0.conf.maxSplit).bind λr2=>
     if (!r2)=true then (
      some false)
     else (
      k (Zt v0 1))))))
 else (
  some true)
def Zgt (x0:Za)  : Nat->Int->Option Bool
 | 0,_=>none
 | m+1,v0=>Zb1 x0  (Zgt x0  m) v0
def Qr (x0:Za)  (v1:Bool):Option Bool:=
 if v1=true then (
  some false)
 else (
  Zgt x0 FU 0)
def Zge (x0:Za):Option Bool:=
 if decide ((x0.m.length:Int)≠(x0.conf.masters.length:Int))=true then (
  Qr x0 true)
 else (
  if decide ((x0.buckets.length:Int)≠(x0.conf.masters.length:Int))=true then (
   Qr x0 true)
  else (
   Qr x0 (decide ((x0.splits.length:Int)≠(x0.conf.masters.length:Int)))))
def K9 (x0:Zk) (x1:Int):Option Bool:=
 (Yu x1 0 (Y8 (x0.masters.length:Int) 1)).bind λr0=>
 some r0
def Zub (x0:Zk) (x1:Int)  (v0:Bool):Option Int:=
 if v0=true then (
  some 0)
 else (
  (idx x0.masters x1).bind λa0=>
  some (Jr a0.weight x0.quantum))
def Zop (x0:Zk) (x1:Int):Option Int:=
 (Znr x0).bind λr0=>
 if (!r0)=true then (
  Zub x0 x1 true)
 else (
  (K9 x0 x1).bind λr1=>
  Zub x0 x1 (!r1))
def Zmo (x0:Z2) (x1:Zk):Option Bool:=
 (Znr x1).bind λr0=>
 if r0=true then (
  (K9 x1 x0.at_).bind λr1=>
  if r1=true then (
   (Zop x1 x0.at_).bind λr2=>
   (Yu x0.credit 0 r2).bind λr3=>
   some r3)
  else (
   some false))
 else (
  some false)
def Zxo (x0:Int):Option Bool:=
 (Yu x0 0 255).bind λr0=>
 some (!r0)
def Zih (x0:List Int)  (k:Int->Option Int) (v0:Int):Option Int:=
 if decide (v0 < (x0.length:Int))=true then (
  (idx x0 v0).bind λa0=>
  (Zxo a0).bind λr0=>
  if r0=true then (
   some v0)
  else (
   k (Zt v0 1)))
 else (
  some (-1))
def Kl (x0:List Int)  : Nat->Int->Option Int
 | 0,_=>none
 | m+1,v0=>Zih x0  (Kl x0  m) v0
def Jd (x0:List Int):Option Int:=
 Kl x0 FU 0
def Wz (x0:List Int):Option Bool:=
 (Jd x0).bind λr0=>
 some (decide (r0≥0))
def Zt6 (x0:List Int) (x1:Int) (x2:Int):Option Bool:=
 if decide ((x0.length:Int)<=512)=true then (
  (Wz x0).bind λr0=>
  if (!r0)=true then (
   (Zgz x1 x2).bind λr1=>
   if r1=true then (
    (J8 x2).bind λr2=>
    some (decide (x1<=(Y8 (x0.length:Int) r2))))
   else (
    some false))
  else (
   some false))
 else (
  some false)
def Zvo (x0:Int):Option Bool:=
 (Zd8 x0 2).bind λr0=>
 some (!r0)
def Zhs (x0:List Int)  (k:Int->Option Int) (v0:Int):Option Int:=
 if decide (v0 < (x0.length:Int))=true then (
  (idx x0 v0).bind λa0=>
  (Zvo a0).bind λr0=>
  if r0=true then (
   some v0)
  else (
   k (Zt v0 1)))
 else (
  some (-1))
def Q6 (x0:List Int)  : Nat->Int->Option Int
 | 0,_=>none
 | m+1,v0=>Zhs x0  (Q6 x0  m) v0
def K6 (x0:List Int):Option Int:=
 Q6 x0 FU 0
def Xy (x0:List Int):Option Bool:=
 (K6 x0).bind λr0=>
 some (decide (r0≥0))
def Zwd (x0:Zn):Option Bool:=
 if decide ((x0.regs.length:Int)=4)=true then (
  if decide ((x0.fifo.length:Int)<=4)=true then (
   (Xy x0.regs).bind λr0=>
   if (!r0)=true then (
    (Xy x0.fifo).bind λr1=>
    if (!r1)=true then (
     (Zd8 x0.timer 2).bind λr2=>
     some r2)
    else (
     some false))
   else (
    some false))
  else (
   some false))
 else (
  some false)
def Zgy (x0:Zh):Option Bool:=
 if decide ((x0.mem.length:Int)=192)=true then (
  (Zt6 x0.mem 0 0).bind λr0=>
  if r0=true then (
   (Zwd x0.dev).bind λr1=>
   some r1)
  else (
   some false))
 else (
  some false)
def Znj (x0:Zg):Option Bool:=
 some (!x0.live)
def Zfi (x0:List Zg)  (k:Int->Option Int) (v0:Int):Option Int:=
 if decide (v0 < (x0.length:Int))=true then (
  (idx x0 v0).bind λa0=>
  (Znj a0).bind λr0=>
  if r0=true then (
   some v0)
  else (
   k (Zt v0 1)))
 else (
  some (-1))
def Qe (x0:List Zg)  : Nat->Int->Option Int
 | 0,_=>none
 | m+1,v0=>Zfi x0  (Qe x0  m) v0
def Qw (x0:List Zg):Option Int:=
 Qe x0 FU 0
def Zep (x0:List Zg)  (k:(List Zg)->Int->Int->Option (List Zg)) (v0:List Zg) (v1:Int) (v2:Int):Option (List Zg):=
 if decide (v2 < (v0.length:Int))=true then (
  (idx v0 v2).bind λa0=>
  (Znj a0).bind λr0=>
  if (!r0)=true then (
   (idx v0 v1).bind λa1=>
   (W7 v0 v1 a0).bind λy0=>
   k y0 (Zt v1 1) (Zt v2 1))
  else (
   k v0 v1 (Zt v2 1)))
 else (
  (Zab v0 v1 (v0.length:Int)).bind λs0=>
  (Z25 Zg.z0 v0 v1 (v0.length:Int)).bind λy1=>
  (Zab y1 0 v1).bind λs1=>
  some s1)
def W8 (x0:List Zg)  : Nat->(List Zg)->Int->Int->Option (List Zg)
 | 0,_,_,_=>none
 | m+1,v0,v1,v2=>Zep x0  (W8 x0  m) v0 v1 v2
def Wi (x0:List Zg):Option (List Zg):=
 (Qw x0).bind λr1=>
 if decide (r1=(-1))=true then (
  some x0)
 else (
  W8 x0 FU x0 r1 (Zt r1 1))
def Zrz (x0:Za):Option (List Zg):=
 (Wi [x0.addr,x0.data_]).bind λr0=>
 some r0
def Ki (x0:Za) (k_L1:(List Int)->(List Zg)->Int->Int->Option Bool) (vb0:Zg) (v0:List Int) (v1:List Zg) (v2:Int) (v3:Int) (v4:Bool):Option Bool:=
 if v4=true then (
  some false)
 else (
  (idx v0 vb0.who).bind λa0=>
  (W7 v0 vb0.who (Zt a0 1)).bind λy0=>
  k_L1 y0 v1 v2 (Zt v3 1))
def Qg (x0:Za)  (v5:Bool):Option Bool:=
 if v5=true then (
  some false)
 else (
  if (!x0.data_.second)=true then (
   some true)
  else (
   if decide (x0.data_.left=0)=true then (
    if decide (x0.data_.resp≠0)=true then (
     some (!x0.addr.live))
    else (
     some false))
   else (
    some false)))
def Zbc (x0:Za)  (vb1:Zb) (v6:Bool):Option Bool:=
 if v6=true then (
  some false)
 else (
  if decide (x0.data_.resp=3)=true then (
   if vb1.parted=true then (
    Qg x0 true)
   else (
    Qg x0 (decide (x0.data_.who=x0.holder))))
  else (
   Qg x0 false))
def Jv (x0:Za)  (vb1:Zb) (v7:Bool):Option Bool:=
 if v7=true then (
  some false)
 else (
  if decide (x0.data_.resp=2)=true then (
   Zbc x0 vb1 (decide (vb1.tries≥x0.conf.maxRetry)))
  else (
   Zbc x0 vb1 false))
def Xe (x0:Za)  (v8:Bool):Option Bool:=
 if v8=true then (
  some false)
 else (
  if (!x0.data_.live)=true then (
   some ((x0.data_.live == false)&&(decide (x0.data_.who=0)&&(decide (x0.data_.beat=0)&&((x0.data_.first == false)&&(decide (x0.data_.by_=0)&&(decide (x0.data_.left=0)&&(decide (x0.data_.resp=0)&&((x0.data_.second == false)&&true)))))))))
  else (
   (idx x0.m x0.data_.who).bind λa1=>
   if decide (x0.data_.beat≠a1.done)=true then (
    Jv x0 a1 true)
   else (
    (Yu x0.data_.left 0 (Zt x0.conf.maxWait 2)).bind λr0=>
    if (!r0)=true then (
     Jv x0 a1 true)
    else (
     (Yu x0.data_.resp 0 3).bind λr1=>
     Jv x0 a1 (!r1)))))
def Wn (x0:Za)  (k:(List Int)->Int->Option Bool) (v0:List Int) (v9:Int):Option Bool:=
 if decide (v9 < (x0.m.length:Int))=true then (
  (idx x0.m v9).bind λa2=>
  (idx v0 v9).bind λa3=>
  if decide ((Y8 a2.beat a2.done)≠a3)=true then (
   some false)
  else (
   k v0 (Zt v9 1)))
 else (
  if x0.addr.live=true then (
   (idx x0.m x0.addr.who).bind λa4=>
   if decide (x0.addr.beat≠(Y8 a4.beat 1))=true then (
    Xe x0 true)
   else (
    if decide (x0.addr.left≠0)=true then (
     Xe x0 true)
    else (
     if decide (x0.addr.resp≠0)=true then (
      Xe x0 true)
     else (
      if x0.addr.second=true then (
       Xe x0 true)
      else (
       if (!x0.addr.live)=true then (
        Xe x0 (!((x0.addr.live == false)&&(decide (x0.addr.who=0)&&(decide (x0.addr.beat=0)&&((x0.addr.first == false)&&(decide (x0.addr.by_=0)&&(decide (x0.addr.left=0)&&(decide (x0.addr.resp=0)&&((x0.addr.second == false)&&true))))))))))
       else (
        Xe x0 false))))))
  else (
   if (!x0.addr.live)=true then (
    Xe x0 (!((x0.addr.live == false)&&(decide (x0.addr.who=0)&&(decide (x0.addr.beat=0)&&((x0.addr.first == false)&&(decide (x0.addr.by_=0)&&(decide (x0.addr.left=0)&&(decide (x0.addr.resp=0)&&((x0.addr.second == false)&&true))))))))))
   else (
    Xe x0 false)))
def Zbf (x0:Za)  : Nat->(List Int)->Int->Option Bool
 | 0,_,_=>none
 | m+1,v0,v9=>Wn x0  (Zbf x0  m) v0 v9
def Wm (x0:Za)  (k:(List Int)->(List Zg)->Int->Int->Option Bool) (v0:List Int) (v1:List Zg) (v2:Int) (v3:Int):Option Bool:=
 if decide (v3 < v2)=true then (
  (idx v1 v3).bind λa5=>
  (K9 x0.conf a5.who).bind λr2=>
  if (!r2)=true then (
   Ki x0 k a5 v0 v1 v2 v3 true)
  else (
   (Yu a5.by_ 1 3).bind λr3=>
   if (!r3)=true then (
    Ki x0 k a5 v0 v1 v2 v3 true)
   else (
    (idx x0.splits a5.who).bind λa6=>
    Ki x0 k a5 v0 v1 v2 v3 (decide (a6≠0)))))
 else (
  Zbf x0 FU v0 0)
def Zdz (x0:Za)  : Nat->(List Int)->(List Zg)->Int->Int->Option Bool
 | 0,_,_,_,_=>none
 | m+1,v0,v1,v2,v3=>Wm x0  (Zdz x0  m) v0 v1 v2 v3
def Zch (x0:Za):Option Bool:=
 (mkI 8 (x0.m.length:Int) 0).bind λm0=>
 (Zrz x0).bind λr4=>
 Zdz x0 FU m0 r4 (r4.length:Int) 0
def Zqx (x0:Zb):Option Bool:=
 if decide ((x0.queue.length:Int) > 0)=true then (
  (idx x0.queue 0).bind λa0=>
  if a0.lock=true then (
   some (!x0.broken))
  else (
   some false))
 else (
  some false)
def Zfb (x0:Za)  (k:Int->Option Bool) (v0:Int):Option Bool:=
 if decide (v0 < (x0.m.length:Int))=true then (
  (idx x0.m v0).bind λa0=>
  if decide (a0.beat > 0)=true then (
   (Zqx a0).bind λr0=>
   if r0=true then (
    if decide (x0.holder≠v0)=true then (
     some false)
    else (
     k (Zt v0 1)))
   else (
    k (Zt v0 1)))
  else (
   k (Zt v0 1)))
 else (
  if decide (x0.holder=(-1))=true then (
   some (decide (x0.held=0)))
  else (
   (K9 x0.conf x0.holder).bind λr1=>
   if r1=true then (
    (idx x0.m x0.holder).bind λa1=>
    (Zqx a1).bind λr2=>
    if r2=true then (
     (idx x0.splits x0.holder).bind λa2=>
     if decide (a2=0)=true then (
      (Yu x0.held 0 x0.conf.lockMost).bind λr3=>
      some r3)
     else (
      some false))
    else (
     some false))
   else (
    some false)))
def Zl7 (x0:Za)  : Nat->Int->Option Bool
 | 0,_=>none
 | m+1,v0=>Zfb x0  (Zl7 x0  m) v0
def Zef (x0:Za):Option Bool:=
 Zl7 x0 FU 0
def Zdi (x0:Za)  (k:Int->Int->Option Bool) (v0:Int) (v1:Int):Option Bool:=
 if decide (v1 < (x0.log.length:Int))=true then (
  (idx x0.log v1).bind λa0=>
  if decide (a0.cycle<=v0)=true then (
   some false)
  else (
   if decide (a0.cycle≥x0.now)=true then (
    some false)
   else (
    (K9 x0.conf a0.who).bind λr0=>
    if (!r0)=true then (
     some false)
    else (
     (Zgz a0.addr a0.size).bind λr1=>
     if (!r1)=true then (
      some false)
     else (
      if decide (a0.addr≥512)=true then (
       some false)
      else (
       (Zd8 a0.value a0.size).bind λr2=>
       if (!r2)=true then (
        some false)
       else (
        if decide (a0.resp≠0)=true then (
         if decide (a0.resp≠1)=true then (
          some false)
         else (
          k a0.cycle (Zt v1 1)))
        else (
         k a0.cycle (Zt v1 1)))))))))
 else (
  some true)
def Zdx (x0:Za)  : Nat->Int->Int->Option Bool
 | 0,_,_=>none
 | m+1,v0,v1=>Zdi x0  (Zdx x0  m) v0 v1
def Zcl (x0:Za):Option Bool:=
 Zdx x0 FU (-1) 0
def Zqt (x0:Za):Option Bool:=
 (Znr x0.conf).bind λr0=>
 if r0=true then (
  (Yu x0.now 0 4000).bind λr1=>
  if r1=true then (
   (Zge x0).bind λr2=>
   if r2=true then (
    (Zmo x0.arb x0.conf).bind λr3=>
    if r3=true then (
     if decide (x0.last=(-1))=true then (
      (Zgy x0.model).bind λr4=>
      if r4=true then (
       (Yu x0.picks 0 x0.now).bind λr5=>
       if r5=true then (
        (Zch x0).bind λr6=>
        if r6=true then (
         (Zef x0).bind λr7=>
         if r7=true then (
          (Zcl x0).bind λr8=>
          some r8)
         else (
          some false))
        else (
         some false))
       else (
        some false))
      else (
       some false))
     else (
      (K9 x0.conf x0.last).bind λr9=>
      if r9=true then (
       (Zgy x0.model).bind λr4=>
       if r4=true then (
        (Yu x0.picks 0 x0.now).bind λr5=>
        if r5=true then (
         (Zch x0).bind λr6=>
         if r6=true then (
          (Zef x0).bind λr7=>
          if r7=true then (
           (Zcl x0).bind λr8=>
           some r8)
          else (
           some false))
         else (
          some false))
        else (
         some false))
       else (
        some false))
      else (
       some false)))
    else (
     some false))
   else (
    some false))
  else (
   some false))
 else (
  some false)
def Zlq (x0:Zb) (x1:Int)  (v0:Bool):Option Int:=
 if v0=true then (
  some (-1))
 else (
  (idx x0.queue 0).bind λa0=>
  (Zh3 a0.addr a0.size a0.burst).bind λr0=>
  (idx r0 x1).bind λa1=>
  some a1)
def Zd5 (x0:Zb) (x1:Int):Option Int:=
 (Kg x0).bind λr1=>
 if (!r1)=true then (
  Zlq x0 x1 true)
 else (
  (Zbx x0).bind λr2=>
  (Yu x1 0 (Y8 r2 1)).bind λr3=>
  Zlq x0 x1 (!r3))
def Ziz (x0:Zi) (x1:Int)  (k:(List Zl)->Int->Option (List Zl)) (v0:List Zl) (v1:Int):Option (List Zl):=
 if decide (v1 < (x0.posts.length:Int))=true then (
  (idx x0.posts v1).bind λa0=>
  if decide (a0.at_=x1)=true then (
   (Zir a0.req).bind λr0=>
   (Wd 80 v0 [{a0 with req:=r0}]).bind λz0=>
   k z0 (Zt v1 1))
  else (
   k v0 (Zt v1 1)))
 else (
  some v0)
def Zkl (x0:Zi) (x1:Int)  : Nat->(List Zl)->Int->Option (List Zl)
 | 0,_,_=>none
 | m+1,v0,v1=>Ziz x0 x1  (Zkl x0 x1  m) v0 v1
def Zve (x0:Zi) (x1:Int):Option (List Zl):=
 Zkl x0 x1 FU [] 0
def Zgl (x0:Zb) (x1:Zf)  (vb0:Zb) (v0:Bool):Option (Zb×Bool):=
 if v0=true then (
  some (vb0,false))
 else (
  (Zir x1).bind λr0=>
  (Wd 64 vb0.queue [r0]).bind λz0=>
  some ({vb0 with queue:=z0},true))
def Zul (x0:Zb) (x1:Zf):Option (Zb×Bool):=
 (Zf8 x0).bind λr1=>
 (Kg x0).bind λr2=>
 if (!r2)=true then (
  Zgl x0 x1 r1 true)
 else (
  (Zwa x1).bind λr3=>
  if (!r3)=true then (
   Zgl x0 x1 r1 true)
  else (
   Zgl x0 x1 r1 (decide ((x0.queue.length:Int)=4))))
def Zny (x0:Zc) (x1:Zd):Option Bool:=
 if x1.prio=true then (
  (Zm9 x0 x1).bind λr0=>
  some r0)
 else (
  some false)
def Zof (x0:Zc) (x1:Zd):Option Zc:=
 (Zny x0 x1).bind λr0=>
 if (!r0)=true then (
  some x0)
 else (
  if decide ((Zt x0.count 1)=x1.every)=true then (
   some (Zc.mk (Zjq (Zt x0.tokens 1) x1.cap) 0))
  else (
   some (Zc.mk x0.tokens (Zt x0.count 1))))
def Zkw (x0:Zb)  (vb0:Zb) (v0:Bool):Option (Zb×Bool):=
 if v0=true then (
  some (vb0,false))
 else (
  some ({vb0 with beat:=(Y8 vb0.beat 1)},true))
def Zvq (x0:Zb):Option (Zb×Bool):=
 (Zf8 x0).bind λr0=>
 (Kg x0).bind λr1=>
 if (!r1)=true then (
  Zkw x0 r0 true)
 else (
  Zkw x0 r0 (decide (x0.beat=x0.done)))
def Znq (x0:Zc) (x1:Zd):Option Zc:=
 (Zny x0 x1).bind λr0=>
 if r0=true then (
  if decide (x0.tokens < x1.cap)=true then (
   some (Zc.mk (Zt x0.tokens 1) x0.count))
  else (
   some x0))
 else (
  some x0)
def Zkv (x0:Z2) (x1:Zk) (x2:Int)  (v0:Bool):Option Z2:=
 if v0=true then (
  (Zop x1 x2).bind λr0=>
  some (Z2.mk x0.at_ (Zjq (Zt x0.credit 1) r0)))
 else (
  some x0)
def Zu5 (x0:Z2) (x1:Zk) (x2:Int):Option Z2:=
 (Zmo x0 x1).bind λr1=>
 if r1=true then (
  Zkv x0 x1 x2 (decide (x2=x0.at_)))
 else (
  Zkv x0 x1 x2 false)
def Zeh (x0:Za) (x1:Zg):Option Za:=
 (idx x0.m x1.who).bind λa0=>
 (Zvq a0).bind λr0=>
 (W7 x0.m x1.who r0.1).bind λy0=>
 if decide (x1.by_=1)=true then (
  (idx x0.buckets x1.who).bind λa1=>
  (idx x0.conf.masters x1.who).bind λa2=>
  (Znq a1 a2).bind λr1=>
  (W7 x0.buckets x1.who r1).bind λy1=>
  some {x0 with m:=y0,buckets:=y1})
 else (
  if decide (x1.by_=2)=true then (
   (Zu5 x0.arb x0.conf x1.who).bind λr2=>
   some {x0 with m:=y0,arb:=r2})
  else (
   some {x0 with m:=y0}))
def Zk6 (x0:List Int) (x1:Int)  (v0:Bool):Option Int:=
 if v0=true then (
  some 0)
 else (
  (nzI (x0.length:Int)).bind λn0=>
  (idx x0 (Za1 x1 (x0.length:Int))).bind λa0=>
  some a0)
def Zka (x0:List Int) (x1:Int):Option Int:=
 if decide ((x0.length:Int)=0)=true then (
  Zk6 x0 x1 true)
 else (
  Zk6 x0 x1 (decide (x1 < 0)))
def Zva (x0:Zk) (x1:Zi) (x2:Int):Option Int:=
 (Zka x1.waits x2).bind λr0=>
 some (Z2n 1 (Zjq (Zt (Z2n 0 (Zjq r0 99)) 1) x0.maxSplit))
def Zoc (x0:Zb) (x1:Int):Option Int:=
 (idx x0.queue 0).bind λa0=>
 if a0.write=true then (
  (idx a0.data_ x1).bind λa1=>
  some a1)
 else (
  some 0)
def Zlg (x0:Int)  (v0:Bool):Option Int:=
 if v0=true then (
  some 0)
 else (
  if decide (x0 < 128)=true then (
   some 1)
  else (
   if decide (x0 < 192)=true then (
    some 2)
   else (
    some 3)))
def Zpl (x0:Int):Option Int:=
 if decide (x0 < 0)=true then (
  Zlg x0 true)
 else (
  Zlg x0 (decide (x0≥224)))
def Zj5 (x0:Zn) (x1:Bool) (x2:Int) (x3:Int)  (vb0:Zn) (v0:Bool):Option (Zn×Int×Bool):=
 if v0=true then (
  some (vb0,0,false))
 else (
  if x1=true then (
   (idx vb0.regs (Zsy x2 4)).bind λa0=>
   (W7 vb0.regs (Zsy x2 4) x3).bind λy0=>
   some ({vb0 with regs:=y0},x3,true))
  else (
   (idx x0.regs (Zsy x2 4)).bind λa1=>
   some (vb0,a1,true)))
def Zjv (x0:Zn) (x1:Bool) (x2:Int) (x3:Int)  (vb0:Zn) (v1:Bool):Option (Zn×Int×Bool):=
 if v1=true then (
  (idx x0.fifo 0).bind λa2=>
  (Zab x0.fifo 1 (x0.fifo.length:Int)).bind λs0=>
  (Xc s0).bind λr0=>
  some ({vb0 with fifo:=r0},a2,true))
 else (
  if decide (x2≥16)=true then (
   Zj5 x0 x1 x2 x3 vb0 true)
  else (
   if decide (x2 < 0)=true then (
    Zj5 x0 x1 x2 x3 vb0 true)
   else (
    Zj5 x0 x1 x2 x3 vb0 (decide ((Za1 x2 4)≠0)))))
def Zj0 (x0:Zn) (x1:Bool) (x2:Int) (x3:Int)  (vb0:Zn) (v2:Bool):Option (Zn×Int×Bool):=
 if v2=true then (
  (Wd 8 vb0.fifo [x3]).bind λz0=>
  some ({vb0 with fifo:=z0},x3,true))
 else (
  if decide (x2=20)=true then (
   if (!x1)=true then (
    Zjv x0 x1 x2 x3 vb0 (decide ((x0.fifo.length:Int) > 0)))
   else (
    Zjv x0 x1 x2 x3 vb0 false))
  else (
   Zjv x0 x1 x2 x3 vb0 false))
def Zps (x0:Zn) (x1:Bool) (x2:Int) (x3:Int)  (vb0:Zn) (v3:Bool):Option (Zn×Int×Bool):=
 if v3=true then (
  some ({vb0 with timer:=x3},x3,true))
 else (
  if decide (x2=16)=true then (
   (Zo1 2).bind λr1=>
   (nzI r1).bind λn0=>
   some ({vb0 with timer:=(Za1 (Zt x0.timer 1) r1)},x0.timer,true))
  else (
   if decide (x2=20)=true then (
    if x1=true then (
     Zj0 x0 x1 x2 x3 vb0 (decide ((x0.fifo.length:Int) < 4)))
    else (
     Zj0 x0 x1 x2 x3 vb0 false))
   else (
    Zj0 x0 x1 x2 x3 vb0 false)))
def Zdm (x0:Zn) (x1:Bool) (x2:Int) (x3:Int)  (vb0:Zn) (v4:Bool):Option (Zn×Int×Bool):=
 if v4=true then (
  some (vb0,0,false))
 else (
  if decide (x2=16)=true then (
   Zps x0 x1 x2 x3 vb0 x1)
  else (
   Zps x0 x1 x2 x3 vb0 false))
def Z1v (x0:Zn) (x1:Bool) (x2:Int) (x3:Int):Option (Zn×Int×Bool):=
 (Zrs x0).bind λr2=>
 (Zwd x0).bind λr3=>
 if (!r3)=true then (
  Zdm x0 x1 x2 x3 r2 true)
 else (
  if x1=true then (
   (Zd8 x3 2).bind λr4=>
   Zdm x0 x1 x2 x3 r2 (!r4))
  else (
   Zdm x0 x1 x2 x3 r2 false))
def Zgh (x0:List Int) (x1:Int) (x2:Int) (x3:Int)  (k:(List Int)->Int->Int->Option (List Int×Bool)) (v0:List Int) (v1:Int) (v2:Int):Option (List Int×Bool):=
 if decide (v2 < v1)=true then (
  (nnI (Jr 8 v2)).bind λn0=>
  (idx v0 (Zt x1 v2)).bind λa0=>
  (W7 v0 (Zt x1 v2) (andW (shrW x3 (Jr 8 v2)) 255)).bind λy0=>
  k y0 v1 (Zt v2 1))
 else (
  some (v0,true))
def Zno (x0:List Int) (x1:Int) (x2:Int) (x3:Int)  : Nat->(List Int)->Int->Int->Option (List Int×Bool)
 | 0,_,_,_=>none
 | m+1,v0,v1,v2=>Zgh x0 x1 x2 x3  (Zno x0 x1 x2 x3  m) v0 v1 v2
def Znx (x0:List Int) (x1:Int) (x2:Int) (x3:Int)  (v0:List Int) (v3:Bool):Option (List Int×Bool):=
 if v3=true then (
  some (v0,false))
 else (
  (J8 x2).bind λr0=>
  Zno x0 x1 x2 x3 FU v0 r0 0)
def Zxl (x0:List Int) (x1:Int) (x2:Int) (x3:Int):Option (List Int×Bool):=
 (Xc x0).bind λr1=>
 (Zt6 x0 x1 x2).bind λr2=>
 if (!r2)=true then (
  Znx x0 x1 x2 x3 r1 true)
 else (
  (Zd8 x3 x2).bind λr3=>
  Znx x0 x1 x2 x3 r1 (!r3))
def Zgn (x0:List Int) (x1:Int) (x2:Int)  (k:Int->Int->Int->Option (Int×Bool)) (v0:Int) (v1:Int) (v2:Int):Option (Int×Bool):=
 if decide (v2 < v1)=true then (
  (idx x0 (Zt x1 v2)).bind λa0=>
  (nnI (Jr 8 v2)).bind λn0=>
  k (orW v0 (Ydb a0 (Jr 8 v2))) v1 (Zt v2 1))
 else (
  some (v0,true))
def Znp (x0:List Int) (x1:Int) (x2:Int)  : Nat->Int->Int->Int->Option (Int×Bool)
 | 0,_,_,_=>none
 | m+1,v0,v1,v2=>Zgn x0 x1 x2  (Znp x0 x1 x2  m) v0 v1 v2
def Zxg (x0:List Int) (x1:Int) (x2:Int):Option (Int×Bool):=
 (Zt6 x0 x1 x2).bind λr0=>
 if (!r0)=true then (
  some (0,false))
 else (
  (J8 x2).bind λr1=>
  Znp x0 x1 x2 FU 0 r1 0)
def Zdf (x0:Zh) (x1:Bool) (x2:Int) (x3:Int) (x4:Int)  (vb0:Zh) (v0:Int) (v1:Bool):Option (Zh×Int×Int):=
 if (!v1)=true then (
  (Zh0 x0).bind λr0=>
  some (r0,0,1))
 else (
  some (vb0,v0,0))
def Zk8 (x0:Zh) (x1:Bool) (x2:Int) (x3:Int) (x4:Int)  (vb0:Zh) (v2:Bool):Option (Zh×Int×Int):=
 if v2=true then (
  if x1=true then (
   (Zxl x0.mem x2 x3 x4).bind λr1=>
   Zdf x0 x1 x2 x3 x4 (Zh.mk r1.1 vb0.dev) x4 r1.2)
  else (
   (Zxg x0.mem x2 x3).bind λr2=>
   Zdf x0 x1 x2 x3 x4 vb0 r2.1 r2.2))
 else (
  Zdf x0 x1 x2 x3 x4 vb0 x4 false)
def Zks (x0:Zh) (x1:Bool) (x2:Int) (x3:Int) (x4:Int)  (vb0:Zh) (v3:Int) (v4:Bool):Option (Zh×Int×Int):=
 if v4=true then (
  (Z1v x0.dev x1 (Y8 x2 192) x4).bind λr3=>
  Zdf x0 x1 x2 x3 x4 (Zh.mk vb0.mem r3.1) r3.2.1 r3.2.2)
 else (
  if decide (v3=1)=true then (
   Zk8 x0 x1 x2 x3 x4 vb0 true)
  else (
   Zk8 x0 x1 x2 x3 x4 vb0 (decide (v3=2))))
def K0 (x0:Zh) (x1:Bool) (x2:Int) (x3:Int) (x4:Int)  (vb0:Zh) (v5:Bool):Option (Zh×Int×Int):=
 if v5=true then (
  some (vb0,0,1))
 else (
  (Zpl x2).bind λr4=>
  if decide (r4=3)=true then (
   Zks x0 x1 x2 x3 x4 vb0 r4 (decide (x3=2)))
  else (
   Zks x0 x1 x2 x3 x4 vb0 r4 false))
def Zvf (x0:Zh) (x1:Bool) (x2:Int) (x3:Int) (x4:Int):Option (Zh×Int×Int):=
 (Zh0 x0).bind λr5=>
 (Zgy x0).bind λr6=>
 if (!r6)=true then (
  K0 x0 x1 x2 x3 x4 r5 true)
 else (
  (Zgz x2 x3).bind λr7=>
  if (!r7)=true then (
   K0 x0 x1 x2 x3 x4 r5 true)
  else (
   if x1=true then (
    (Zd8 x4 x3).bind λr8=>
    K0 x0 x1 x2 x3 x4 r5 (!r8))
   else (
    K0 x0 x1 x2 x3 x4 r5 false)))
def Ztn (x0:Za) (x1:Zg):Option (Zh×Int×Int):=
 (idx x0.m x1.who).bind λa0=>
 (idx a0.queue 0).bind λa1=>
 (Zd5 a0 x1.beat).bind λr0=>
 (Zoc a0 x1.beat).bind λr1=>
 (Zvf x0.model a1.write r0 a1.size r1).bind λr2=>
 some (r2.1,r2.2.1,r2.2.2)
def Zog (x0:Zb)  (vb0:Zb) (v0:Bool):Option (Zb×Bool):=
 if v0=true then (
  some (vb0,false))
 else (
  (Zbx {vb0 with done:=(Zt vb0.done 1)}).bind λr0=>
  if decide ((Zt vb0.done 1)=r0)=true then (
   (Zab vb0.queue 1 (vb0.queue.length:Int)).bind λs0=>
   some ((Zb.mk s0 0 0 0 false false),true))
  else (
   some ((Zb.mk vb0.queue vb0.beat (Zt vb0.done 1) 0 false vb0.broken),true)))
def Zxu (x0:Zb):Option (Zb×Bool):=
 (Zf8 x0).bind λr1=>
 (Kg x0).bind λr2=>
 if (!r2)=true then (
  Zog x0 r1 true)
 else (
  Zog x0 r1 (decide (x0.beat=x0.done)))
def Zmf (x0:Za):Option Za:=
 some {x0 with holder:=(-1),held:=0}
def Zd1 (x0:Za) (x1:Zg)  (vb0:Za) (vb1:Zb):Option Za:=
 (idx vb0.m x1.who).bind λa0=>
 (W7 vb0.m x1.who vb1).bind λy0=>
 some {vb0 with m:=y0}
def Zd0 (x0:Za) (x1:Zg)  (vb0:Za) (vb1:Zb) (v0:Bool):Option Za:=
 if v0=true then (
  (Zmf vb0).bind λr0=>
  Zd1 x0 x1 r0 vb1)
 else (
  Zd1 x0 x1 vb0 vb1)
def Zbh (x0:Za) (x1:Zg)  (vb0:Za) (vb1:Zb) (vb2:Zm):Option Za:=
 (Wd 56 vb0.log [vb2]).bind λz0=>
 (Zxu vb1).bind λr1=>
 if decide (vb0.holder=x1.who)=true then (
  Zd0 x0 x1 {vb0 with log:=z0} r1.1 (decide ((r1.1.queue.length:Int) < (vb1.queue.length:Int))))
 else (
  Zd0 x0 x1 {vb0 with log:=z0} r1.1 false)
def Zi2 (x0:Za) (x1:Zg):Option Za:=
 (idx x0.m x1.who).bind λa1=>
 (idx a1.queue 0).bind λa2=>
 (Zd5 a1 x1.beat).bind λr2=>
 if decide (x1.resp=0)=true then (
  (Ztn x0 x1).bind λr3=>
  Zbh x0 x1 {x0 with model:=r3.1} a1 (Zm.mk x0.now x1.who a2.write r2 a2.size r3.2.1 x1.resp))
 else (
  Zbh x0 x1 x0 a1 (Zm.mk x0.now x1.who a2.write r2 a2.size 0 x1.resp))
def Zf6 (x0:Za) (x1:Zi) (x2:Zp)  (vb0:Za):Option (Bool×Za×Zp):=
 some (false,vb0,{x2 with resp:=x0.data_.resp})
def Zaq (x0:Za) (x1:Zi) (x2:Zp)  (v0:Bool):Option (Bool×Za×Zp):=
 if v0=true then (
  if x0.addr.live=true then (
   (Zeh {x0 with data_:={x0.data_ with second:=true}} x0.addr).bind λr0=>
   Zf6 x0 x1 x2 {r0 with addr:=Zg.z0})
  else (
   Zf6 x0 x1 x2 {x0 with data_:={x0.data_ with second:=true}}))
 else (
  if decide (x0.data_.resp=2)=true then (
   (idx x0.m x0.data_.who).bind λa0=>
   (W7 x0.m x0.data_.who {a0 with tries:=(Zt a0.tries 1)}).bind λy0=>
   (Zeh {x0 with m:=y0,data_:=Zg.z0} x0.data_).bind λr1=>
   some (true,r1,{x2 with resp:=x0.data_.resp}))
  else (
   if decide (x0.data_.resp=3)=true then (
    (idx x0.m x0.data_.who).bind λa1=>
    (W7 x0.m x0.data_.who {a1 with parted:=true}).bind λy1=>
    (Zva x0.conf x1 x0.picks).bind λr2=>
    (idx x0.splits x0.data_.who).bind λa2=>
    (W7 x0.splits x0.data_.who r2).bind λy2=>
    (Zeh {x0 with m:=y1,splits:=y2,data_:=Zg.z0} x0.data_).bind λr3=>
    some (true,r3,{x2 with resp:=x0.data_.resp}))
   else (
    (Zi2 {x0 with data_:=Zg.z0} x0.data_).bind λr4=>
    some (true,r4,{x2 with resp:=x0.data_.resp}))))
def Zoi (x0:Za) (x1:Zi) (x2:Zp):Option (Bool×Za×Zp):=
 if (!x0.data_.live)=true then (
  some (true,x0,x2))
 else (
  if decide (x0.data_.left > 0)=true then (
   some (false,{x0 with data_:={x0.data_ with left:=(Y8 x0.data_.left 1)}},x2))
  else (
   if decide (x0.data_.resp≠0)=true then (
    Zaq x0 x1 x2 (!x0.data_.second))
   else (
    Zaq x0 x1 x2 false)))
def Zxn (x0:Zk) (x1:Zi) (x2:Int):Option Int:=
 (Zka x1.waits x2).bind λr0=>
 some (Z2n 0 (Zjq r0 x0.maxWait))
def Zya (x0:Zi) (x1:Int):Option Int:=
 (Zka x0.says x1).bind λr0=>
 if decide (r0=2)=true then (
  some r0)
 else (
  if decide (r0=3)=true then (
   some r0)
  else (
   some 0))
def Ka (x0:Za) (x1:Zi) (x2:Zg)  (vb0:Zb) (v0:Int) (v1:Int) (v2:Int) (v3:Int) (v4:Bool):Option (Int×Int):=
 if v4=true then (
  some (2,v2))
 else (
  if decide (v3=3)=true then (
   if decide (v0=2)=true then (
    if (!vb0.parted)=true then (
     if decide (x2.who≠x0.holder)=true then (
      some (3,v2))
     else (
      some (v1,v2)))
    else (
     some (v1,v2)))
   else (
    some (v1,v2)))
  else (
   some (v1,v2)))
def Zc7 (x0:Za) (x1:Zi) (x2:Zg)  (vb1:Zb) (v0:Int) (v1:Int) (v2:Int):Option (Int×Int):=
 (Zya x1 x0.picks).bind λr0=>
 if decide (r0=2)=true then (
  if decide (v0≠3)=true then (
   Ka x0 x1 x2 vb1 v0 v1 v2 r0 (decide (vb1.tries < x0.conf.maxRetry)))
  else (
   Ka x0 x1 x2 vb1 v0 v1 v2 r0 false))
 else (
  Ka x0 x1 x2 vb1 v0 v1 v2 r0 false)
def Jh (x0:Za) (x1:Zi) (x2:Zg)  (vb1:Zb) (v0:Int) (v5:Bool):Option (Int×Int):=
 if v5=true then (
  some (1,0))
 else (
  (Ztn x0 x2).bind λr1=>
  (Zxn x0.conf x1 x0.picks).bind λr2=>
  if decide (v0=3)=true then (
   Zc7 x0 x1 x2 vb1 v0 r1.2.2 (Zt r2 2))
  else (
   Zc7 x0 x1 x2 vb1 v0 r1.2.2 r2))
def Zni (x0:Za) (x1:Zi) (x2:Zg):Option (Int×Int):=
 (idx x0.m x2.who).bind λa0=>
 (Zd5 a0 x2.beat).bind λr3=>
 (Zpl r3).bind λr4=>
 if a0.broken=true then (
  Jh x0 x1 x2 a0 r4 true)
 else (
  Jh x0 x1 x2 a0 r4 (decide (r4=0)))
def Zme (x0:Zb):Option Bool:=
 (Kg x0).bind λr0=>
 if r0=true then (
  (Zbx x0).bind λr1=>
  some (decide (x0.beat < r1)))
 else (
  some false)
def Zgc (x0:Zc) (x1:Zd)  (v0:Bool):Option (Zc×Bool):=
 if v0=true then (
  some (x0,false))
 else (
  some ((Zc.mk (Y8 x0.tokens 1) x0.count),true))
def Zn5 (x0:Zc) (x1:Zd):Option (Zc×Bool):=
 (Zny x0 x1).bind λr0=>
 if (!r0)=true then (
  Zgc x0 x1 true)
 else (
  Zgc x0 x1 (decide (x0.tokens=0)))
def Zqo (x0:Z2) (x1:Zk) (x2:List Bool)  (k:Int->Option (Z2×Int)) (v0:Int):Option (Z2×Int):=
 if decide (v0<=(x1.masters.length:Int))=true then (
  (nzI (x1.masters.length:Int)).bind λn0=>
  (idx x2 (Za1 (Zt x0.at_ v0) (x1.masters.length:Int))).bind λa0=>
  if a0=true then (
   (Zop x1 (Za1 (Zt x0.at_ v0) (x1.masters.length:Int))).bind λr0=>
   some ((Z2.mk (Za1 (Zt x0.at_ v0) (x1.masters.length:Int)) (Y8 r0 1)),(Za1 (Zt x0.at_ v0) (x1.masters.length:Int))))
  else (
   k (Zt v0 1)))
 else (
  some ((Z2.mk x0.at_ 0),(-1)))
def Zkm (x0:Z2) (x1:Zk) (x2:List Bool)  : Nat->Int->Option (Z2×Int)
 | 0,_=>none
 | m+1,v0=>Zqo x0 x1 x2  (Zkm x0 x1 x2  m) v0
def Zk9 (x0:Z2) (x1:Zk) (x2:List Bool)  (v1:Bool):Option (Z2×Int):=
 if v1=true then (
  some ((Z2.mk x0.at_ (Y8 x0.credit 1)),x0.at_))
 else (
  Zkm x0 x1 x2 FU 1)
def Zk3 (x0:Z2) (x1:Zk) (x2:List Bool)  (v2:Bool):Option (Z2×Int):=
 if v2=true then (
  some (x0,(-1)))
 else (
  if decide (x0.credit > 0)=true then (
   (idx x2 x0.at_).bind λa1=>
   Zk9 x0 x1 x2 a1)
  else (
   Zk9 x0 x1 x2 false))
def Zvh (x0:Z2) (x1:Zk) (x2:List Bool):Option (Z2×Int):=
 (Zmo x0 x1).bind λr1=>
 if (!r1)=true then (
  Zk3 x0 x1 x2 true)
 else (
  Zk3 x0 x1 x2 (decide ((x2.length:Int)≠(x1.masters.length:Int))))
def Zdt (x0:Za)  (k:(List Bool)->Int->Int->Option (Int×Int×Za)) (v0:List Bool) (v1:Int) (v2:Int):Option (Int×Int×Za):=
 if decide (v2 < v1)=true then (
  (idx v0 v2).bind λa0=>
  if (!a0)=true then (
   k v0 v1 (Zt v2 1))
  else (
   (idx x0.buckets v2).bind λa1=>
   (idx x0.conf.masters v2).bind λa2=>
   (Zn5 a1 a2).bind λr0=>
   if r0.2=true then (
    (W7 x0.buckets v2 r0.1).bind λy0=>
    some (v2,1,{x0 with buckets:=y0}))
   else (
    k v0 v1 (Zt v2 1))))
 else (
  if decide (x0.holder≠(-1))=true then (
   some ((-1),0,x0))
  else (
   (Zvh x0.arb x0.conf v0).bind λr1=>
   some (r1.2,2,{x0 with arb:=r1.1})))
def Ze2 (x0:Za)  : Nat->(List Bool)->Int->Int->Option (Int×Int×Za)
 | 0,_,_,_=>none
 | m+1,v0,v1,v2=>Zdt x0  (Ze2 x0  m) v0 v1 v2
def Zjn (x0:Za)  (v0:List Bool) (v3:Bool):Option (Int×Int×Za):=
 if v3=true then (
  some (x0.holder,3,x0))
 else (
  Ze2 x0 FU v0 (v0.length:Int) 0)
def Zhp (x0:Za)  (k:(List Bool)->Int->Option (Int×Int×Za)) (v0:List Bool) (v4:Int):Option (Int×Int×Za):=
 if decide (v4 < (x0.m.length:Int))=true then (
  (idx x0.m v4).bind λa3=>
  (Zme a3).bind λr2=>
  if r2=true then (
   (idx x0.splits v4).bind λa4=>
   if decide (a4=0)=true then (
    if decide (x0.holder=(-1))=true then (
     (Wd 1 v0 [true]).bind λz0=>
     k z0 (Zt v4 1))
    else (
     (Wd 1 v0 [decide (x0.holder=v4)]).bind λz0=>
     k z0 (Zt v4 1)))
   else (
    (Wd 1 v0 [false]).bind λz0=>
    k z0 (Zt v4 1)))
  else (
   (Wd 1 v0 [false]).bind λz0=>
   k z0 (Zt v4 1)))
 else (
  if decide (x0.holder≠(-1))=true then (
   (idx v0 x0.holder).bind λa5=>
   Zjn x0 v0 a5)
  else (
   Zjn x0 v0 false))
def Zjo (x0:Za)  : Nat->(List Bool)->Int->Option (Int×Int×Za)
 | 0,_,_=>none
 | m+1,v0,v4=>Zhp x0  (Zjo x0  m) v0 v4
def Zrr (x0:Za):Option (Int×Int×Za):=
 Zjo x0 FU [] 0
def Zji (x0:Zb)  (vb0:Zb) (v0:Bool):Option (Zb×Bool):=
 if v0=true then (
  some (vb0,false))
 else (
  some ({vb0 with beat:=(Zt vb0.beat 1)},true))
def Zrq (x0:Zb):Option (Zb×Bool):=
 (Zf8 x0).bind λr0=>
 (Zme x0).bind λr1=>
 if (!r1)=true then (
  Zji x0 r0 true)
 else (
  Zji x0 r0 (decide (x0.beat=(Zt x0.done 2))))
def Zhj (x0:Za)  (vb0:Za) (vb1:Zb) (v0:Int):Option (Int×Za):=
 (Zrq vb1).bind λr0=>
 (idx vb0.m v0).bind λa0=>
 (W7 vb0.m v0 r0.1).bind λy0=>
 some (v0,{vb0 with m:=y0,last:=v0})
def Zhe (x0:Za)  (vb0:Za) (vb1:Zb) (v0:Int) (v1:Bool):Option (Int×Za):=
 if v1=true then (
  Zhj x0 {vb0 with holder:=v0,held:=0} vb1 v0)
 else (
  Zhj x0 vb0 vb1 v0)
def Jy (x0:Za)  (vb0:Za) (vb1:Zb) (v0:Int):Option (Int×Za):=
 (Zqx vb1).bind λr1=>
 if r1=true then (
  Zhe x0 vb0 vb1 v0 (decide (vb0.holder=(-1))))
 else (
  Zhe x0 vb0 vb1 v0 false)
def Zpv (x0:Za):Option (Int×Za):=
 (Zrr x0).bind λr2=>
 if decide (r2.1 < 0)=true then (
  some ((-1),r2.2.2))
 else (
  (idx r2.2.2.m r2.1).bind λa1=>
  if decide (a1.beat=0)=true then (
   Jy x0 {r2.2.2 with addr:=(Zg.mk true r2.1 a1.beat true r2.2.1 0 0 false)} a1 r2.1)
  else (
   Jy x0 {r2.2.2 with addr:=(Zg.mk true r2.1 a1.beat (decide (r2.2.2.last≠r2.1)) r2.2.1 0 0 false)} a1 r2.1))
def Zez (x0:Za) (x1:Zi)  (vb0:Za) (vb1:Zp):Option (Zp×Za):=
 some (vb1,{vb0 with now:=(Zt vb0.now 1)})
def Ze0 (x0:Za) (x1:Zi)  (vb0:Za) (vb1:Zp):Option (Zp×Za):=
 (Zpv vb0).bind λr0=>
 Zez x0 x1 r0.2 {vb1 with got:=r0.1}
def Zb9 (x0:Za) (x1:Zi)  (vb0:Za) (vb2:Zp):Option (Zp×Za):=
 if vb0.addr.live=true then (
  (Zni vb0 x1 vb0.addr).bind λr1=>
  Ze0 x0 x1 {vb0 with addr:=Zg.z0,data_:={vb0.addr with left:=r1.2,resp:=r1.1},picks:=(Zt vb0.picks 1)} vb2)
 else (
  Ze0 x0 x1 vb0 vb2)
def Jc (x0:Za) (x1:Zi)  (vb0:Za) (vb2:Zp) (v0:Bool):Option (Zp×Za):=
 if v0=true then (
  (idx vb0.m vb0.holder).bind λa0=>
  (W7 vb0.m vb0.holder {a0 with broken:=true}).bind λy0=>
  (Zmf {vb0 with m:=y0}).bind λr2=>
  Zb9 x0 x1 r2 vb2)
 else (
  Zb9 x0 x1 vb0 vb2)
def Jf (x0:Za) (x1:Zi)  (vb0:Za) (vb2:Zp):Option (Zp×Za):=
 (Zoi vb0 x1 vb2).bind λr3=>
 if r3.1=true then (
  if decide (r3.2.1.holder≠(-1))=true then (
   Jc x0 x1 r3.2.1 {r3.2.2 with ready:=r3.1} (decide (r3.2.1.held=r3.2.1.conf.lockMost)))
  else (
   Jc x0 x1 r3.2.1 {r3.2.2 with ready:=r3.1} false))
 else (
  Zez x0 x1 r3.2.1 {r3.2.2 with ready:=r3.1})
def Zhq (x0:Za) (x1:Zi)  (k:Za->Zp->Int->Int->Option (Zp×Za)) (vb0:Za) (vb2:Zp) (v1:Int) (v2:Int):Option (Zp×Za):=
 if decide (v2 < v1)=true then (
  (idx vb0.splits v2).bind λa1=>
  (W7 vb0.splits v2 (Z2n (Y8 a1 1) 0)).bind λy1=>
  (idx vb0.buckets v2).bind λa2=>
  (idx vb0.conf.masters v2).bind λa3=>
  (Zof a2 a3).bind λr4=>
  (W7 vb0.buckets v2 r4).bind λy2=>
  k {vb0 with buckets:=y2,splits:=y1} vb2 v1 (Zt v2 1))
 else (
  if decide (vb0.holder≠(-1))=true then (
   Jf x0 x1 {vb0 with held:=(Zjq (Zt vb0.held 1) vb0.conf.lockMost)} vb2)
  else (
   Jf x0 x1 vb0 vb2))
def Zan (x0:Za) (x1:Zi)  : Nat->Za->Zp->Int->Int->Option (Zp×Za)
 | 0,_,_,_,_=>none
 | m+1,vb0,vb2,v1,v2=>Zhq x0 x1  (Zan x0 x1  m) vb0 vb2 v1 v2
def Zhi (x0:Za) (x1:Zi)  (k:Za->Zp->(List Zl)->Int->Int->Option (Zp×Za)) (vb0:Za) (vb2:Zp) (v3:List Zl) (v4:Int) (v5:Int):Option (Zp×Za):=
 if decide (v5 < v4)=true then (
  (idx v3 v5).bind λa4=>
  (K9 vb0.conf a4.who).bind λr5=>
  if r5=true then (
   (idx vb0.m a4.who).bind λa5=>
   (Zul a5 a4.req).bind λr6=>
   (W7 vb0.m a4.who r6.1).bind λy3=>
   k {vb0 with m:=y3} vb2 v3 v4 (Zt v5 1))
  else (
   k vb0 vb2 v3 v4 (Zt v5 1)))
 else (
  Zan x0 x1 FU vb0 vb2 (vb0.splits.length:Int) 0)
def Zer (x0:Za) (x1:Zi)  : Nat->Za->Zp->(List Zl)->Int->Int->Option (Zp×Za)
 | 0,_,_,_,_,_=>none
 | m+1,vb0,vb2,v3,v4,v5=>Zhi x0 x1  (Zer x0 x1  m) vb0 vb2 v3 v4 v5
def Zeo (x0:Za) (x1:Zi)  (vb2:Zp):Option (Zp×Za):=
 (Zve x1 x0.now).bind λr7=>
 Zer x0 x1 FU x0 vb2 r7 (r7.length:Int) 0
def Ze7 (x0:Za) (x1:Zi)  (vb2:Zp):Option (Zp×Za):=
 if x0.data_.live=true then (
  (idx x0.m x0.data_.who).bind λa6=>
  (Zd5 a6 x0.data_.beat).bind λr8=>
  Zeo x0 x1 {vb2 with data_:=r8,from_:=x0.data_.who})
 else (
  Zeo x0 x1 vb2)
def Zmx (x0:Za) (x1:Zi):Option (Zp×Za):=
 if x0.addr.live=true then (
  (idx x0.m x0.addr.who).bind λa7=>
  (Zd5 a7 x0.addr.beat).bind λr9=>
  if x0.addr.first=true then (
   Ze7 x0 x1 (Zp.mk x0.now r9 2 x0.addr.who (-1) (-1) true 0 (-1)))
  else (
   Ze7 x0 x1 (Zp.mk x0.now r9 3 x0.addr.who (-1) (-1) true 0 (-1))))
 else (
  Ze7 x0 x1 (Zp.mk x0.now (-1) 0 (-1) (-1) (-1) true 0 (-1)))
def Zld (x0:Za) (x1:Zi)  (vb0:Za) (v0:Bool):Option (Za×Zp):=
 if v0=true then (
  some (vb0,Zp.z0))
 else (
  (Zmx vb0 x1).bind λr0=>
  (Ztj r0.2).bind λr1=>
  some (r1,r0.1))
def Zut (x0:Za) (x1:Zi):Option (Za×Zp):=
 (Ztj x0).bind λr2=>
 (Zqt x0).bind λr3=>
 if (!r3)=true then (
  Zld x0 x1 r2 true)
 else (
  Zld x0 x1 r2 (decide (x0.now=4000)))
def Zr1 (x0:Zm) (x1:Zm):Option Bool:=
 if decide (x0.cycle≠x1.cycle)=true then (
  some false)
 else (
  if decide (x0.who≠x1.who)=true then (
   some false)
  else (
   if (x0.write != x1.write)=true then (
    some false)
   else (
    if decide (x0.addr≠x1.addr)=true then (
     some false)
    else (
     if decide (x0.size≠x1.size)=true then (
      some false)
     else (
      if decide (x0.value≠x1.value)=true then (
       some false)
      else (
       if decide (x0.resp≠x1.resp)=true then (
        some false)
       else (
        some true)))))))
def Ydl (x0:List Zm) (x1:List Zm)  (k:Int->Option Bool) (v0:Int):Option Bool:=
 if decide (v0 < (x0.length:Int))=true then (
  (idx x0 v0).bind λa0=>
  (idx x1 v0).bind λa1=>
  (Zr1 a0 a1).bind λr0=>
  if (!r0)=true then (
   some false)
  else (
   k (Zt v0 1)))
 else (
  some true)
def Zkk (x0:List Zm) (x1:List Zm)  : Nat->Int->Option Bool
 | 0,_=>none
 | m+1,v0=>Ydl x0 x1  (Zkk x0 x1  m) v0
def Zvl (x0:List Zm) (x1:List Zm):Option Bool:=
 if decide ((x0.length:Int)≠(x1.length:Int))=true then (
  some false)
 else (
  Zkk x0 x1 FU 0)
def Zo8 (x0:Zd) (x1:Zd):Option Bool:=
 if decide (x0.weight≠x1.weight)=true then (
  some false)
 else (
  if (x0.prio != x1.prio)=true then (
   some false)
  else (
   if decide (x0.every≠x1.every)=true then (
    some false)
   else (
    if decide (x0.cap≠x1.cap)=true then (
     some false)
    else (
     some true))))
def Yaz (x0:List Zd) (x1:List Zd)  (k:Int->Option Bool) (v0:Int):Option Bool:=
 if decide (v0 < (x0.length:Int))=true then (
  (idx x0 v0).bind λa0=>
  (idx x1 v0).bind λa1=>
  (Zo8 a0 a1).bind λr0=>
  if (!r0)=true then (
   some false)
  else (
   k (Zt v0 1)))
 else (
  some true)
def Zja (x0:List Zd) (x1:List Zd)  : Nat->Int->Option Bool
 | 0,_=>none
 | m+1,v0=>Yaz x0 x1  (Zja x0 x1  m) v0
def Zte (x0:List Zd) (x1:List Zd):Option Bool:=
 if decide ((x0.length:Int)≠(x1.length:Int))=true then (
  some false)
 else (
  Zja x0 x1 FU 0)
def Zyb (x0:Zk) (x1:Zk):Option Bool:=
 (Zte x0.masters x1.masters).bind λr0=>
 if (!r0)=true then (
  some false)
 else (
  if decide (x0.quantum≠x1.quantum)=true then (
   some false)
  else (
   if decide (x0.maxWait≠x1.maxWait)=true then (
    some false)
   else (
    if decide (x0.maxRetry≠x1.maxRetry)=true then (
     some false)
    else (
     if decide (x0.maxSplit≠x1.maxSplit)=true then (
      some false)
     else (
      if decide (x0.lockMost≠x1.lockMost)=true then (
       some false)
      else (
       some true))))))
def Zk4 (x0:List Int) (x1:List Int)  (k:Int->Option Bool) (v0:Int):Option Bool:=
 if decide (v0 < (x0.length:Int))=true then (
  (idx x0 v0).bind λa0=>
  (idx x1 v0).bind λa1=>
  if decide (a0≠a1)=true then (
   some false)
  else (
   k (Zt v0 1)))
 else (
  some true)
def Zoo (x0:List Int) (x1:List Int)  : Nat->Int->Option Bool
 | 0,_=>none
 | m+1,v0=>Zk4 x0 x1  (Zoo x0 x1  m) v0
def Zcs (x0:List Int) (x1:List Int):Option Bool:=
 if decide ((x0.length:Int)≠(x1.length:Int))=true then (
  some false)
 else (
  Zoo x0 x1 FU 0)
def Zqu (x0:Zf) (x1:Zf):Option Bool:=
 if (x0.write != x1.write)=true then (
  some false)
 else (
  if decide (x0.addr≠x1.addr)=true then (
   some false)
  else (
   if decide (x0.size≠x1.size)=true then (
    some false)
   else (
    if decide (x0.burst≠x1.burst)=true then (
     some false)
    else (
     if (x0.lock != x1.lock)=true then (
      some false)
     else (
      (Zcs x0.data_ x1.data_).bind λr0=>
      if (!r0)=true then (
       some false)
      else (
       some true))))))
def Yfr (x0:List Zf) (x1:List Zf)  (k:Int->Option Bool) (v0:Int):Option Bool:=
 if decide (v0 < (x0.length:Int))=true then (
  (idx x0 v0).bind λa0=>
  (idx x1 v0).bind λa1=>
  (Zqu a0 a1).bind λr0=>
  if (!r0)=true then (
   some false)
  else (
   k (Zt v0 1)))
 else (
  some true)
def Zoh (x0:List Zf) (x1:List Zf)  : Nat->Int->Option Bool
 | 0,_=>none
 | m+1,v0=>Yfr x0 x1  (Zoh x0 x1  m) v0
def Zxi (x0:List Zf) (x1:List Zf):Option Bool:=
 if decide ((x0.length:Int)≠(x1.length:Int))=true then (
  some false)
 else (
  Zoh x0 x1 FU 0)
def Z0r (x0:Zb) (x1:Zb):Option Bool:=
 (Zxi x0.queue x1.queue).bind λr0=>
 if (!r0)=true then (
  some false)
 else (
  if decide (x0.beat≠x1.beat)=true then (
   some false)
  else (
   if decide (x0.done≠x1.done)=true then (
    some false)
   else (
    if decide (x0.tries≠x1.tries)=true then (
     some false)
    else (
     if (x0.parted != x1.parted)=true then (
      some false)
     else (
      if (x0.broken != x1.broken)=true then (
       some false)
      else (
       some true))))))
def Yg8 (x0:List Zb) (x1:List Zb)  (k:Int->Option Bool) (v0:Int):Option Bool:=
 if decide (v0 < (x0.length:Int))=true then (
  (idx x0 v0).bind λa0=>
  (idx x1 v0).bind λa1=>
  (Z0r a0 a1).bind λr0=>
  if (!r0)=true then (
   some false)
  else (
   k (Zt v0 1)))
 else (
  some true)
def Zod (x0:List Zb) (x1:List Zb)  : Nat->Int->Option Bool
 | 0,_=>none
 | m+1,v0=>Yg8 x0 x1  (Zod x0 x1  m) v0
def Zxw (x0:List Zb) (x1:List Zb):Option Bool:=
 if decide ((x0.length:Int)≠(x1.length:Int))=true then (
  some false)
 else (
  Zod x0 x1 FU 0)
def Z15 (x0:Z2) (x1:Z2):Option Bool:=
 if decide (x0.at_≠x1.at_)=true then (
  some false)
 else (
  if decide (x0.credit≠x1.credit)=true then (
   some false)
  else (
   some true))
def Zs8 (x0:Zc) (x1:Zc):Option Bool:=
 if decide (x0.tokens≠x1.tokens)=true then (
  some false)
 else (
  if decide (x0.count≠x1.count)=true then (
   some false)
  else (
   some true))
def Z80 (x0:List Zc) (x1:List Zc)  (k:Int->Option Bool) (v0:Int):Option Bool:=
 if decide (v0 < (x0.length:Int))=true then (
  (idx x0 v0).bind λa0=>
  (idx x1 v0).bind λa1=>
  (Zs8 a0 a1).bind λr0=>
  if (!r0)=true then (
   some false)
  else (
   k (Zt v0 1)))
 else (
  some true)
def Zhl (x0:List Zc) (x1:List Zc)  : Nat->Int->Option Bool
 | 0,_=>none
 | m+1,v0=>Z80 x0 x1  (Zhl x0 x1  m) v0
def Zp3 (x0:List Zc) (x1:List Zc):Option Bool:=
 if decide ((x0.length:Int)≠(x1.length:Int))=true then (
  some false)
 else (
  Zhl x0 x1 FU 0)
def Zro (x0:Zg) (x1:Zg):Option Bool:=
 if (x0.live != x1.live)=true then (
  some false)
 else (
  if decide (x0.who≠x1.who)=true then (
   some false)
  else (
   if decide (x0.beat≠x1.beat)=true then (
    some false)
   else (
    if (x0.first != x1.first)=true then (
     some false)
    else (
     if decide (x0.by_≠x1.by_)=true then (
      some false)
     else (
      if decide (x0.left≠x1.left)=true then (
       some false)
      else (
       if decide (x0.resp≠x1.resp)=true then (
        some false)
       else (
        if (x0.second != x1.second)=true then (
         some false)
        else (
         some true))))))))
def Z74 (x0:Zn) (x1:Zn):Option Bool:=
 (Zcs x0.regs x1.regs).bind λr0=>
 if (!r0)=true then (
  some false)
 else (
  if decide (x0.timer≠x1.timer)=true then (
   some false)
  else (
   (Zcs x0.fifo x1.fifo).bind λr1=>
   if (!r1)=true then (
    some false)
   else (
    some true)))
def Zvd (x0:Zh) (x1:Zh):Option Bool:=
 (Zcs x0.mem x1.mem).bind λr0=>
 if (!r0)=true then (
  some false)
 else (
  (Z74 x0.dev x1.dev).bind λr1=>
  if (!r1)=true then (
   some false)
  else (
   some true))
def Zqz (x0:Za) (x1:Za):Option Bool:=
 (Zyb x0.conf x1.conf).bind λr0=>
 if (!r0)=true then (
  some false)
 else (
  if decide (x0.now≠x1.now)=true then (
   some false)
  else (
   (Zxw x0.m x1.m).bind λr1=>
   if (!r1)=true then (
    some false)
   else (
    (Z15 x0.arb x1.arb).bind λr2=>
    if (!r2)=true then (
     some false)
    else (
     (Zp3 x0.buckets x1.buckets).bind λr3=>
     if (!r3)=true then (
      some false)
     else (
      (Zcs x0.splits x1.splits).bind λr4=>
      if (!r4)=true then (
       some false)
      else (
       if decide (x0.holder≠x1.holder)=true then (
        some false)
       else (
        if decide (x0.held≠x1.held)=true then (
         some false)
        else (
         if decide (x0.last≠x1.last)=true then (
          some false)
         else (
          (Zro x0.addr x1.addr).bind λr5=>
          if (!r5)=true then (
           some false)
          else (
           (Zro x0.data_ x1.data_).bind λr6=>
           if (!r6)=true then (
            some false)
           else (
            (Zvd x0.model x1.model).bind λr7=>
            if (!r7)=true then (
             some false)
            else (
             if decide (x0.picks≠x1.picks)=true then (
              some false)
             else (
              (Zvl x0.log x1.log).bind λr8=>
              if (!r8)=true then (
               some false)
              else (
               some true))))))))))))))
def Zs5 (x0:Zl) (x1:Zl):Option Bool:=
 if decide (x0.at_≠x1.at_)=true then (
  some false)
 else (
  if decide (x0.who≠x1.who)=true then (
   some false)
  else (
   (Zqu x0.req x1.req).bind λr0=>
   if (!r0)=true then (
    some false)
   else (
    some true)))
def Yd1 (x0:List Zl) (x1:List Zl)  (k:Int->Option Bool) (v0:Int):Option Bool:=
 if decide (v0 < (x0.length:Int))=true then (
  (idx x0 v0).bind λa0=>
  (idx x1 v0).bind λa1=>
  (Zs5 a0 a1).bind λr0=>
  if (!r0)=true then (
   some false)
  else (
   k (Zt v0 1)))
 else (
  some true)
def Zk1 (x0:List Zl) (x1:List Zl)  : Nat->Int->Option Bool
 | 0,_=>none
 | m+1,v0=>Yd1 x0 x1  (Zk1 x0 x1  m) v0
def Zur (x0:List Zl) (x1:List Zl):Option Bool:=
 if decide ((x0.length:Int)≠(x1.length:Int))=true then (
  some false)
 else (
  Zk1 x0 x1 FU 0)
def Zri (x0:Zi) (x1:Zi):Option Bool:=
 (Zur x0.posts x1.posts).bind λr0=>
 if (!r0)=true then (
  some false)
 else (
  (Zcs x0.waits x1.waits).bind λr1=>
  if (!r1)=true then (
   some false)
  else (
   (Zcs x0.says x1.says).bind λr2=>
   if (!r2)=true then (
    some false)
   else (
    some true)))
def Zxz (x0:Zp) (x1:Zp):Option Bool:=
 if decide (x0.cycle≠x1.cycle)=true then (
  some false)
 else (
  if decide (x0.addr≠x1.addr)=true then (
   some false)
  else (
   if decide (x0.kind≠x1.kind)=true then (
    some false)
   else (
    if decide (x0.who≠x1.who)=true then (
     some false)
    else (
     if decide (x0.data_≠x1.data_)=true then (
      some false)
     else (
      if decide (x0.from_≠x1.from_)=true then (
       some false)
      else (
       if (x0.ready != x1.ready)=true then (
        some false)
       else (
        if decide (x0.resp≠x1.resp)=true then (
         some false)
        else (
         if decide (x0.got≠x1.got)=true then (
          some false)
         else (
          some true)))))))))
def Zf9 (x0:List Zm) (x1:Int)  (k:Int->Int->Option Int) (v0:Int) (v1:Int):Option Int:=
 if decide (v1 < (x0.length:Int))=true then (
  (idx x0 v1).bind λa0=>
  if decide (a0.cycle≠v0)=true then (
   some (-1))
  else (
   if decide (a0.who≠(Zt v0 1))=true then (
    some (-1))
   else (
    if (a0.write != decide ((Za1 (Zt (Zt v0 1) 1) 3)=0))=true then (
     some (-1))
    else (
     if decide (a0.addr≠(Zt (Zt (Zt v0 1) 1) 1))=true then (
      some (-1))
     else (
      if decide (a0.size≠(Zt (Zt (Zt (Zt v0 1) 1) 1) 1))=true then (
       some (-1))
      else (
       if decide (a0.value≠(Zt (Zt (Zt (Zt (Zt v0 1) 1) 1) 1) 1))=true then (
        some (-1))
       else (
        if decide (a0.resp≠(Zt (Zt (Zt (Zt (Zt (Zt v0 1) 1) 1) 1) 1) 1))=true then (
         some (-1))
        else (
         k (Zt (Zt (Zt (Zt (Zt (Zt (Zt v0 1) 1) 1) 1) 1) 1) 1) (Zt v1 1)))))))))
 else (
  some v0)
def Zou (x0:List Zm) (x1:Int)  : Nat->Int->Int->Option Int
 | 0,_,_=>none
 | m+1,v0,v1=>Zf9 x0 x1  (Zou x0 x1  m) v0 v1
def Zpp (x0:List Zm) (x1:Int):Option Int:=
 Zou x0 x1 FU x1 0
def Zfc (x0:List Zd) (x1:Int)  (k:Int->Int->Option Int) (v0:Int) (v1:Int):Option Int:=
 if decide (v1 < (x0.length:Int))=true then (
  (idx x0 v1).bind λa0=>
  if decide (a0.weight≠v0)=true then (
   some (-1))
  else (
   if (a0.prio != decide ((Za1 (Zt v0 1) 3)=0))=true then (
    some (-1))
   else (
    if decide (a0.every≠(Zt (Zt v0 1) 1))=true then (
     some (-1))
    else (
     if decide (a0.cap≠(Zt (Zt (Zt v0 1) 1) 1))=true then (
      some (-1))
     else (
      k (Zt (Zt (Zt (Zt v0 1) 1) 1) 1) (Zt v1 1))))))
 else (
  some v0)
def Zmk (x0:List Zd) (x1:Int)  : Nat->Int->Int->Option Int
 | 0,_,_=>none
 | m+1,v0,v1=>Zfc x0 x1  (Zmk x0 x1  m) v0 v1
def Znt (x0:List Zd) (x1:Int):Option Int:=
 Zmk x0 x1 FU x1 0
def Zyp (x0:Zk) (x1:Int):Option Int:=
 (Znt x0.masters x1).bind λr0=>
 if decide (r0 < 0)=true then (
  some (-1))
 else (
  some r0)
def Zhm (x0:List Int) (x1:Int)  (k:Int->Int->Option Int) (v0:Int) (v1:Int):Option Int:=
 if decide (v1 < (x0.length:Int))=true then (
  (idx x0 v1).bind λa0=>
  if decide (a0≠v0)=true then (
   some (-1))
  else (
   k (Zt v0 1) (Zt v1 1)))
 else (
  some v0)
def Zqh (x0:List Int) (x1:Int)  : Nat->Int->Int->Option Int
 | 0,_,_=>none
 | m+1,v0,v1=>Zhm x0 x1  (Zqh x0 x1  m) v0 v1
def Zc8 (x0:List Int) (x1:Int):Option Int:=
 Zqh x0 x1 FU x1 0
def Zhg (x0:List Zf) (x1:Int)  (k:Int->Int->Option Int) (v0:Int) (v1:Int):Option Int:=
 if decide (v1 < (x0.length:Int))=true then (
  (idx x0 v1).bind λa0=>
  if (a0.write != decide ((Za1 v0 3)=0))=true then (
   some (-1))
  else (
   if decide (a0.addr≠(Zt v0 1))=true then (
    some (-1))
   else (
    if decide (a0.size≠(Zt (Zt v0 1) 1))=true then (
     some (-1))
    else (
     if decide (a0.burst≠(Zt (Zt (Zt v0 1) 1) 1))=true then (
      some (-1))
     else (
      if (a0.lock != decide ((Za1 (Zt (Zt (Zt (Zt v0 1) 1) 1) 1) 3)=0))=true then (
       some (-1))
      else (
       (Zc8 a0.data_ (Zt (Zt (Zt (Zt (Zt v0 1) 1) 1) 1) 1)).bind λr0=>
       if decide (r0 < 0)=true then (
        some (-1))
       else (
        k r0 (Zt v1 1))))))))
 else (
  some v0)
def Zqq (x0:List Zf) (x1:Int)  : Nat->Int->Int->Option Int
 | 0,_,_=>none
 | m+1,v0,v1=>Zhg x0 x1  (Zqq x0 x1  m) v0 v1
def Zsz (x0:List Zf) (x1:Int):Option Int:=
 Zqq x0 x1 FU x1 0
def Zhn (x0:List Zb) (x1:Int)  (k:Int->Int->Option Int) (v0:Int) (v1:Int):Option Int:=
 if decide (v1 < (x0.length:Int))=true then (
  (idx x0 v1).bind λa0=>
  (Zsz a0.queue v0).bind λr0=>
  if decide (r0 < 0)=true then (
   some (-1))
  else (
   if decide (a0.beat≠r0)=true then (
    some (-1))
   else (
    if decide (a0.done≠(Zt r0 1))=true then (
     some (-1))
    else (
     if decide (a0.tries≠(Zt (Zt r0 1) 1))=true then (
      some (-1))
     else (
      if (a0.parted != decide ((Za1 (Zt (Zt (Zt r0 1) 1) 1) 3)=0))=true then (
       some (-1))
      else (
       if (a0.broken != decide ((Za1 (Zt (Zt (Zt (Zt r0 1) 1) 1) 1) 3)=0))=true then (
        some (-1))
       else (
        k (Zt (Zt (Zt (Zt (Zt r0 1) 1) 1) 1) 1) (Zt v1 1))))))))
 else (
  some v0)
def Zql (x0:List Zb) (x1:Int)  : Nat->Int->Int->Option Int
 | 0,_,_=>none
 | m+1,v0,v1=>Zhn x0 x1  (Zql x0 x1  m) v0 v1
def Ztf (x0:List Zb) (x1:Int):Option Int:=
 Zql x0 x1 FU x1 0
def Zdy (x0:List Zc) (x1:Int)  (k:Int->Int->Option Int) (v0:Int) (v1:Int):Option Int:=
 if decide (v1 < (x0.length:Int))=true then (
  (idx x0 v1).bind λa0=>
  if decide (a0.tokens≠v0)=true then (
   some (-1))
  else (
   if decide (a0.count≠(Zt v0 1))=true then (
    some (-1))
   else (
    k (Zt (Zt v0 1) 1) (Zt v1 1))))
 else (
  some v0)
def Zkh (x0:List Zc) (x1:Int)  : Nat->Int->Int->Option Int
 | 0,_,_=>none
 | m+1,v0,v1=>Zdy x0 x1  (Zkh x0 x1  m) v0 v1
def Zll (x0:List Zc) (x1:Int):Option Int:=
 Zkh x0 x1 FU x1 0
def Z22 (x0:Zn) (x1:Int):Option Int:=
 (Zc8 x0.regs x1).bind λr0=>
 if decide (r0 < 0)=true then (
  some (-1))
 else (
  (Zc8 x0.fifo r0).bind λr1=>
  if decide (r1 < 0)=true then (
   some (-1))
  else (
   some r1))
def Zw6 (x0:Zh) (x1:Int):Option Int:=
 (Zc8 x0.mem x1).bind λr0=>
 if decide (r0 < 0)=true then (
  some (-1))
 else (
  (Z22 x0.dev r0).bind λr1=>
  if decide (r1 < 0)=true then (
   some (-1))
  else (
   some r1))
def Zph (x0:Za) (x1:Int):Option Int:=
 (Zyp x0.conf x1).bind λr0=>
 if decide (r0 < 0)=true then (
  some (-1))
 else (
  (Ztf x0.m r0).bind λr1=>
  if decide (r1 < 0)=true then (
   some (-1))
  else (
   (Zll x0.buckets r1).bind λr2=>
   if decide (r2 < 0)=true then (
    some (-1))
   else (
    (Zc8 x0.splits r2).bind λr3=>
    if decide (r3 < 0)=true then (
     some (-1))
    else (
     (Zw6 x0.model r3).bind λr4=>
     if decide (r4 < 0)=true then (
      some (-1))
     else (
      (Zpp x0.log r4).bind λr5=>
      if decide (r5 < 0)=true then (
       some (-1))
      else (
       some r5))))))
end Go.Proofs.YtagdmghmblplbaaGreat.Ev
namespace Go.Proofs.YtagdmghmblplbaaGreat.Ev
open Go Go.Proofs Go.RowKit
def Zd.enc (x:Zd):List V:=[.lit (.int .i64 x.weight),.lit (.bool x.prio),.lit (.int .i64 x.every),.lit (.int .i64 x.cap)]
theorem Zd.enc_len (x:Zd):(Zd.enc x).length=4:=rfl
theorem Zd.enc_lit (x:Zd):(Zd.enc x).all Zx6=true:=rfl
def Zk.enc (x:Zk):List V:=[.tr (x.masters.map Zd.enc),.lit (.int .i64 x.quantum),.lit (.int .i64 x.maxWait),.lit (.int .i64 x.maxRetry),.lit (.int .i64 x.maxSplit),.lit (.int .i64 x.lockMost)]
def Zf.enc (x:Zf):List V:=[.lit (.bool x.write),.lit (.int .i64 x.addr),.lit (.int .i64 x.size),.lit (.int .i64 x.burst),.lit (.bool x.lock),.tr (x.data_.map Ze)]
theorem Zf.enc_len (x:Zf):(Zf.enc x).length=6:=rfl
def Zl.enc (x:Zl):List V:=[.lit (.int .i64 x.at_),.lit (.int .i64 x.who),.lit (.bool x.req.write),.lit (.int .i64 x.req.addr),.lit (.int .i64 x.req.size),.lit (.int .i64 x.req.burst),.lit (.bool x.req.lock),.tr (x.req.data_.map Ze)]
theorem Zl.enc_len (x:Zl):(Zl.enc x).length=8:=rfl
def Zi.enc (x:Zi):List V:=[.tr (x.posts.map Zl.enc),.tr (x.waits.map Ze),.tr (x.says.map Ze)]
def Zb.enc (x:Zb):List V:=[.tr (x.queue.map Zf.enc),.lit (.int .i64 x.beat),.lit (.int .i64 x.done),.lit (.int .i64 x.tries),.lit (.bool x.parted),.lit (.bool x.broken)]
theorem Zb.enc_len (x:Zb):(Zb.enc x).length=6:=rfl
def Z2.enc (x:Z2):List V:=[.lit (.int .i64 x.at_),.lit (.int .i64 x.credit)]
def Zc.enc (x:Zc):List V:=[.lit (.int .i64 x.tokens),.lit (.int .i64 x.count)]
theorem Zc.enc_len (x:Zc):(Zc.enc x).length=2:=rfl
theorem Zc.enc_lit (x:Zc):(Zc.enc x).all Zx6=true:=rfl
def Zg.enc (x:Zg):List V:=[.lit (.bool x.live),.lit (.int .i64 x.who),.lit (.int .i64 x.beat),.lit (.bool x.first),.lit (.int .i64 x.by_),.lit (.int .i64 x.left),.lit (.int .i64 x.resp),.lit (.bool x.second)]
theorem Zg.enc_len (x:Zg):(Zg.enc x).length=8:=rfl
def Zn.enc (x:Zn):List V:=[.tr (x.regs.map Ze),.lit (.int .i64 x.timer),.tr (x.fifo.map Ze)]
def Zh.enc (x:Zh):List V:=[.tr (x.mem.map Ze),.tr (x.dev.regs.map Ze),.lit (.int .i64 x.dev.timer),.tr (x.dev.fifo.map Ze)]
def Zm.enc (x:Zm):List V:=[.lit (.int .i64 x.cycle),.lit (.int .i64 x.who),.lit (.bool x.write),.lit (.int .i64 x.addr),.lit (.int .i64 x.size),.lit (.int .i64 x.value),.lit (.int .i64 x.resp)]
theorem Zm.enc_len (x:Zm):(Zm.enc x).length=7:=rfl
theorem Zm.enc_lit (x:Zm):(Zm.enc x).all Zx6=true:=rfl
def Za.enc (x:Za):List V:=[.tr (x.conf.masters.map Zd.enc),.lit (.int .i64 x.conf.quantum),.lit (.int .i64 x.conf.maxWait),.lit (.int .i64 x.conf.maxRetry),.lit (.int .i64 x.conf.maxSplit),.lit (.int .i64 x.conf.lockMost),.lit (.int .i64 x.now),.tr (x.m.map Zb.enc),.lit (.int .i64 x.arb.at_),.lit (.int .i64 x.arb.credit),.tr (x.buckets.map Zc.enc),.tr (x.splits.map Ze),.lit (.int .i64 x.holder),.lit (.int .i64 x.held),.lit (.int .i64 x.last),.lit (.bool x.addr.live),.lit (.int .i64 x.addr.who),.lit (.int .i64 x.addr.beat),.lit (.bool x.addr.first),.lit (.int .i64 x.addr.by_),.lit (.int .i64 x.addr.left),.lit (.int .i64 x.addr.resp),.lit (.bool x.addr.second),.lit (.bool x.data_.live),.lit (.int .i64 x.data_.who),.lit (.int .i64 x.data_.beat),.lit (.bool x.data_.first),.lit (.int .i64 x.data_.by_),.lit (.int .i64 x.data_.left),.lit (.int .i64 x.data_.resp),.lit (.bool x.data_.second),.tr (x.model.mem.map Ze),.tr (x.model.dev.regs.map Ze),.lit (.int .i64 x.model.dev.timer),.tr (x.model.dev.fifo.map Ze),.lit (.int .i64 x.picks),.tr (x.log.map Zm.enc)]
def Zp.enc (x:Zp):List V:=[.lit (.int .i64 x.cycle),.lit (.int .i64 x.addr),.lit (.int .i64 x.kind),.lit (.int .i64 x.who),.lit (.int .i64 x.data_),.lit (.int .i64 x.from_),.lit (.bool x.ready),.lit (.int .i64 x.resp),.lit (.int .i64 x.got)]
def Za.ow (x:Za):List V:=[.own 150 (x.conf.masters.map Zd.enc),il x.conf.quantum,il x.conf.maxWait,il x.conf.maxRetry,il x.conf.maxSplit,il x.conf.lockMost,il x.now,.own 156 (x.m.map Zb.enc),il x.arb.at_,il x.arb.credit,.own 158 (x.buckets.map Zc.enc),.own 3 (x.splits.map Ze),il x.holder,il x.held,il x.last,bl x.addr.live,il x.addr.who,il x.addr.beat,bl x.addr.first,il x.addr.by_,il x.addr.left,il x.addr.resp,bl x.addr.second,bl x.data_.live,il x.data_.who,il x.data_.beat,bl x.data_.first,il x.data_.by_,il x.data_.left,il x.data_.resp,bl x.data_.second,.own 3 (x.model.mem.map Ze),.own 3 (x.model.dev.regs.map Ze),il x.model.dev.timer,.own 3 (x.model.dev.fifo.map Ze),il x.picks,.own 113 (x.log.map Zm.enc)]
def Za.rl (x:Za) (n:Nat):List V:=[.sl (1,n) 0 (x.conf.masters.map Zd.enc).length,il x.conf.quantum,il x.conf.maxWait,il x.conf.maxRetry,il x.conf.maxSplit,il x.conf.lockMost,il x.now,.sl (1,n+1) 0 (x.m.map Zb.enc).length,il x.arb.at_,il x.arb.credit,.sl (1,n+2) 0 (x.buckets.map Zc.enc).length,.sl (1,n+3) 0 (x.splits.map Ze).length,il x.holder,il x.held,il x.last,bl x.addr.live,il x.addr.who,il x.addr.beat,bl x.addr.first,il x.addr.by_,il x.addr.left,il x.addr.resp,bl x.addr.second,bl x.data_.live,il x.data_.who,il x.data_.beat,bl x.data_.first,il x.data_.by_,il x.data_.left,il x.data_.resp,bl x.data_.second,.sl (1,n+4) 0 (x.model.mem.map Ze).length,.sl (1,n+5) 0 (x.model.dev.regs.map Ze).length,il x.model.dev.timer,.sl (1,n+6) 0 (x.model.dev.fifo.map Ze).length,il x.picks,.sl (1,n+7) 0 (x.log.map Zm.enc).length]
def Za.bk (x:Za) (n:Nat):List (Id×Blk):=[((1,n),⟨false,true,true,150,(x.conf.masters.map Zd.enc)⟩),((1,n+1),⟨false,true,true,156,(x.m.map Zb.enc)⟩),((1,n+2),⟨false,true,true,158,(x.buckets.map Zc.enc)⟩),((1,n+3),⟨false,true,true,3,(x.splits.map Ze)⟩),((1,n+4),⟨false,true,true,3,(x.model.mem.map Ze)⟩),((1,n+5),⟨false,true,true,3,(x.model.dev.regs.map Ze)⟩),((1,n+6),⟨false,true,true,3,(x.model.dev.fifo.map Ze)⟩),((1,n+7),⟨false,true,true,113,(x.log.map Zm.enc)⟩)]
def Za.ff (n e b:Nat):List (Id×Id):=[((1,n),(e,b)),((1,n+1),(e,b+7)),((1,n+2),(e,b+10)),((1,n+3),(e,b+11)),((1,n+4),(e,b+31)),((1,n+5),(e,b+32)),((1,n+6),(e,b+34)),((1,n+7),(e,b+36))]
def Za.nm (x:Za):List O:=[.num (x.conf.masters.map Zd.enc).length 0 0 [],.num (x.m.map Zb.enc).length 0 0 [],.num (x.buckets.map Zc.enc).length 0 0 [],.num (x.splits.map Ze).length 0 0 [],.num (x.model.mem.map Ze).length 0 0 [],.num (x.model.dev.regs.map Ze).length 0 0 [],.num (x.model.dev.fifo.map Ze).length 0 0 [],.num (x.log.map Zm.enc).length 0 0 []]
theorem Za.so (x:Za) {q:List O} {p:Prop} (h:Scr q p):Scr q ((x.conf.masters.map Zd.enc).length=(x.conf.masters.map Zd.enc).length/\(x.m.map Zb.enc).length=(x.m.map Zb.enc).length/\(x.buckets.map Zc.enc).length=(x.buckets.map Zc.enc).length/\(x.splits.map Ze).length=(x.splits.map Ze).length/\(x.model.mem.map Ze).length=(x.model.mem.map Ze).length/\(x.model.dev.regs.map Ze).length=(x.model.dev.regs.map Ze).length/\(x.model.dev.fifo.map Ze).length=(x.model.dev.fifo.map Ze).length/\(x.log.map Zm.enc).length=(x.log.map Zm.enc).length/\p):=⟨rfl,rfl,rfl,rfl,rfl,rfl,rfl,rfl,h⟩
theorem Za.sc (x:Za) {q:List O} {p:Prop} (h:Scr q p):Scr (Za.nm x++q) ((x.conf.masters.map Zd.enc).length=(x.conf.masters.map Zd.enc).length/\(x.m.map Zb.enc).length=(x.m.map Zb.enc).length/\(x.buckets.map Zc.enc).length=(x.buckets.map Zc.enc).length/\(x.splits.map Ze).length=(x.splits.map Ze).length/\(x.model.mem.map Ze).length=(x.model.mem.map Ze).length/\(x.model.dev.regs.map Ze).length=(x.model.dev.regs.map Ze).length/\(x.model.dev.fifo.map Ze).length=(x.model.dev.fifo.map Ze).length/\(x.log.map Zm.enc).length=(x.log.map Zm.enc).length/\p):=⟨rfl,rfl,rfl,rfl,rfl,rfl,rfl,rfl,h⟩
def Zn.ow (x:Zn):List V:=[.own 3 (x.regs.map Ze),il x.timer,.own 3 (x.fifo.map Ze)]
def Zn.rl (x:Zn) (n:Nat):List V:=[.sl (1,n) 0 (x.regs.map Ze).length,il x.timer,.sl (1,n+1) 0 (x.fifo.map Ze).length]
def Zn.bk (x:Zn) (n:Nat):List (Id×Blk):=[((1,n),⟨false,true,true,3,(x.regs.map Ze)⟩),((1,n+1),⟨false,true,true,3,(x.fifo.map Ze)⟩)]
def Zn.ff (n e b:Nat):List (Id×Id):=[((1,n),(e,b)),((1,n+1),(e,b+2))]
def Zn.nm (x:Zn):List O:=[.num (x.regs.map Ze).length 0 0 [],.num (x.fifo.map Ze).length 0 0 []]
theorem Zn.so (x:Zn) {q:List O} {p:Prop} (h:Scr q p):Scr q ((x.regs.map Ze).length=(x.regs.map Ze).length/\(x.fifo.map Ze).length=(x.fifo.map Ze).length/\p):=⟨rfl,rfl,h⟩
theorem Zn.sc (x:Zn) {q:List O} {p:Prop} (h:Scr q p):Scr (Zn.nm x++q) ((x.regs.map Ze).length=(x.regs.map Ze).length/\(x.fifo.map Ze).length=(x.fifo.map Ze).length/\p):=⟨rfl,rfl,h⟩
def Zh.ow (x:Zh):List V:=[.own 3 (x.mem.map Ze),.own 3 (x.dev.regs.map Ze),il x.dev.timer,.own 3 (x.dev.fifo.map Ze)]
def Zh.rl (x:Zh) (n:Nat):List V:=[.sl (1,n) 0 (x.mem.map Ze).length,.sl (1,n+1) 0 (x.dev.regs.map Ze).length,il x.dev.timer,.sl (1,n+2) 0 (x.dev.fifo.map Ze).length]
def Zh.bk (x:Zh) (n:Nat):List (Id×Blk):=[((1,n),⟨false,true,true,3,(x.mem.map Ze)⟩),((1,n+1),⟨false,true,true,3,(x.dev.regs.map Ze)⟩),((1,n+2),⟨false,true,true,3,(x.dev.fifo.map Ze)⟩)]
def Zh.ff (n e b:Nat):List (Id×Id):=[((1,n),(e,b)),((1,n+1),(e,b+1)),((1,n+2),(e,b+3))]
def Zh.nm (x:Zh):List O:=[.num (x.mem.map Ze).length 0 0 [],.num (x.dev.regs.map Ze).length 0 0 [],.num (x.dev.fifo.map Ze).length 0 0 []]
theorem Zh.so (x:Zh) {q:List O} {p:Prop} (h:Scr q p):Scr q ((x.mem.map Ze).length=(x.mem.map Ze).length/\(x.dev.regs.map Ze).length=(x.dev.regs.map Ze).length/\(x.dev.fifo.map Ze).length=(x.dev.fifo.map Ze).length/\p):=⟨rfl,rfl,rfl,h⟩
theorem Zh.sc (x:Zh) {q:List O} {p:Prop} (h:Scr q p):Scr (Zh.nm x++q) ((x.mem.map Ze).length=(x.mem.map Ze).length/\(x.dev.regs.map Ze).length=(x.dev.regs.map Ze).length/\(x.dev.fifo.map Ze).length=(x.dev.fifo.map Ze).length/\p):=⟨rfl,rfl,rfl,h⟩
def Zi.ow (x:Zi):List V:=[.own 106 (x.posts.map Zl.enc),.own 3 (x.waits.map Ze),.own 3 (x.says.map Ze)]
def ffi (n:Nat):Nat->List (Id×Id)
 | 0=>[]
 | m+1=>((1,n),(1,n))::ffi (n+1) m
abbrev bx (n:Nat) (r:List V):Id×Blk:=((1,n),⟨true,true,true,0,[r]⟩)
abbrev rx (n t:Nat) (R:List (List V)):Id×Blk:=((1,n),⟨false,true,true,t,R⟩)
end Go.Proofs.YtagdmghmblplbaaGreat.Ev
