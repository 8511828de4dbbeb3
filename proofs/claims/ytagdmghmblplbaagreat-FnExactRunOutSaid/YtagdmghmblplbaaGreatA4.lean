/- A part of the proof of FnExactRunOut: see the text YtagdmghmblplbaaGreatLawFnExactRunOut for what is proved and its conditions. Conditions here: those in each line. -/
import Derived.Test.YtagdmghmblplbaaGreatA3
import Derived.KernelRfl
set_option linter.unusedSimpArgs false
set_option linter.unusedVariables false
set_option linter.unusedSectionVars false
namespace Go.Proofs.YtagdmghmblplbaaGreat.Ev
open Go Go.Proofs
structure Zd where
 weight:Int
 prio:Bool
 every:Int
 cap:Int
 deriving DecidableEq
structure Zk where
 masters:List Zd
 quantum:Int
 maxWait:Int
 maxRetry:Int
 maxSplit:Int
 lockMost:Int
 deriving DecidableEq
structure Zg where
 write:Bool
 addr:Int
 size:Int
 burst:Int
 lock:Bool
 data_:List Int
 deriving DecidableEq
structure Zl where
 at_:Int
 who:Int
 req:Zg
 deriving DecidableEq
structure Zf where
 posts:List Zl
 waits:List Int
 says:List Int
 deriving DecidableEq
structure Zb where
 queue:List Zg
 beat:Int
 done:Int
 tries:Int
 parted:Bool
 broken:Bool
 deriving DecidableEq
structure Z2 where
 at_:Int
 credit:Int
 deriving DecidableEq
structure Zc where
 tokens:Int
 count:Int
 deriving DecidableEq
structure Zh where
 live:Bool
 who:Int
 beat:Int
 first:Bool
 by_:Int
 left:Int
 resp:Int
 second:Bool
 deriving DecidableEq
structure Zo where
 regs:List Int
 timer:Int
 fifo:List Int
 deriving DecidableEq
structure Zi where
 mem:List Int
 dev:Zo
 deriving DecidableEq
structure Zm where
 cycle:Int
 who:Int
 write:Bool
 addr:Int
 size:Int
 value:Int
 resp:Int
 deriving DecidableEq
structure Za where
 conf:Zk
 now:Int
 m:List Zb
 arb:Z2
 buckets:List Zc
 splits:List Int
 holder:Int
 held:Int
 last:Int
 addr:Zh
 data_:Zh
 model:Zi
 picks:Int
 log:List Zm
 deriving DecidableEq
structure Zt where
 cycle:Int
 addr:Int
 kind:Int
 who:Int
 data_:Int
 from_:Int
 ready:Bool
 resp:Int
 got:Int
 deriving DecidableEq
def Zd.ok (z:Zd):Prop:=(Lit.int .i64 z.weight).wf=true/\True/\(Lit.int .i64 z.every).wf=true/\(Lit.int .i64 z.cap).wf=true
def Zk.ok (z:Zk):Prop:=(z.masters.length<=maxLen/\∀x∈z.masters,Zd.ok x)/\(Lit.int .i64 z.quantum).wf=true/\(Lit.int .i64 z.maxWait).wf=true/\(Lit.int .i64 z.maxRetry).wf=true/\(Lit.int .i64 z.maxSplit).wf=true/\(Lit.int .i64 z.lockMost).wf=true
def Zg.ok (z:Zg):Prop:=True/\(Lit.int .i64 z.addr).wf=true/\(Lit.int .i64 z.size).wf=true/\(Lit.int .i64 z.burst).wf=true/\True/\(z.data_.length<=maxLen/\∀x∈z.data_,(Lit.int .i64 x).wf=true)
def Zl.ok (z:Zl):Prop:=(Lit.int .i64 z.at_).wf=true/\(Lit.int .i64 z.who).wf=true/\Zg.ok z.req
def Zf.ok (z:Zf):Prop:=(z.posts.length<=maxLen/\∀x∈z.posts,Zl.ok x)/\(z.waits.length<=maxLen/\∀x∈z.waits,(Lit.int .i64 x).wf=true)/\(z.says.length<=maxLen/\∀x∈z.says,(Lit.int .i64 x).wf=true)
def Zb.ok (z:Zb):Prop:=(z.queue.length<=maxLen/\∀x∈z.queue,Zg.ok x)/\(Lit.int .i64 z.beat).wf=true/\(Lit.int .i64 z.done).wf=true/\(Lit.int .i64 z.tries).wf=true/\True/\True
def Z2.ok (z:Z2):Prop:=(Lit.int .i64 z.at_).wf=true/\(Lit.int .i64 z.credit).wf=true
def Zc.ok (z:Zc):Prop:=(Lit.int .i64 z.tokens).wf=true/\(Lit.int .i64 z.count).wf=true
def Zh.ok (z:Zh):Prop:=True/\(Lit.int .i64 z.who).wf=true/\(Lit.int .i64 z.beat).wf=true/\True/\(Lit.int .i64 z.by_).wf=true/\(Lit.int .i64 z.left).wf=true/\(Lit.int .i64 z.resp).wf=true/\True
def Zo.ok (z:Zo):Prop:=(z.regs.length<=maxLen/\∀x∈z.regs,(Lit.int .i64 x).wf=true)/\(Lit.int .i64 z.timer).wf=true/\(z.fifo.length<=maxLen/\∀x∈z.fifo,(Lit.int .i64 x).wf=true)
def Zi.ok (z:Zi):Prop:=(z.mem.length<=maxLen/\∀x∈z.mem,(Lit.int .i64 x).wf=true)/\Zo.ok z.dev
def Zm.ok (z:Zm):Prop:=(Lit.int .i64 z.cycle).wf=true/\(Lit.int .i64 z.who).wf=true/\True/\(Lit.int .i64 z.addr).wf=true/\(Lit.int .i64 z.size).wf=true/\(Lit.int .i64 z.value).wf=true/\(Lit.int .i64 z.resp).wf=true
def Za.ok (z:Za):Prop:=Zk.ok z.conf/\(Lit.int .i64 z.now).wf=true/\(z.m.length<=maxLen/\∀x∈z.m,Zb.ok x)/\Z2.ok z.arb/\(z.buckets.length<=maxLen/\∀x∈z.buckets,Zc.ok x)/\(z.splits.length<=maxLen/\∀x∈z.splits,(Lit.int .i64 x).wf=true)/\(Lit.int .i64 z.holder).wf=true/\(Lit.int .i64 z.held).wf=true/\(Lit.int .i64 z.last).wf=true/\Zh.ok z.addr/\Zh.ok z.data_/\Zi.ok z.model/\(Lit.int .i64 z.picks).wf=true/\(z.log.length<=maxLen/\∀x∈z.log,Zm.ok x)
abbrev Zd.z0:Zd:=⟨0,false,0,0⟩
abbrev Zk.z0:Zk:=⟨[],0,0,0,0,0⟩
abbrev Zg.z0:Zg:=⟨false,0,0,0,false,[]⟩
abbrev Zl.z0:Zl:=⟨0,0,Zg.z0⟩
abbrev Zb.z0:Zb:=⟨[],0,0,0,false,false⟩
abbrev Z2.z0:Z2:=⟨0,0⟩
abbrev Zc.z0:Zc:=⟨0,0⟩
abbrev Zh.z0:Zh:=⟨false,0,0,false,0,0,0,false⟩
abbrev Zo.z0:Zo:=⟨[],0,[]⟩
abbrev Zi.z0:Zi:=⟨[],Zo.z0⟩
abbrev Zm.z0:Zm:=⟨0,0,false,0,0,0,0⟩
abbrev Za.z0:Za:=⟨Zk.z0,0,[],Z2.z0,[],[],0,0,0,Zh.z0,Zh.z0,Zi.z0,0,[]⟩
abbrev Zt.z0:Zt:=⟨0,0,0,0,0,0,false,0,0⟩
def Z8l (x0:List Zd) (x1:Int):Option Int:=
 if decide ((Y8 x1 (x0.length:Int)) < 0)=true then (
  some (-1))
 else (
  some (Y8 x1 (x0.length:Int)))
def Z5c (x0:Zk) (x1:Int):Option Int:=
 (Z8l x0.masters x1).bind λr0=>
 if decide (r0 < 0)=true then (
  some (-1))
 else (
  some r0)
def Zgv (x0:List Int) (x1:Int):Option Int:=
 if decide ((Y8 x1 (x0.length:Int)) < 0)=true then (
  some (-1))
 else (
  some (Y8 x1 (x0.length:Int)))
def Zw2 (x0:Zg) (x1:Int):Option Int:=
 (Zgv x0.data_ x1).bind λr0=>
 if decide (r0 < 0)=true then (
  some (-1))
 else (
  some r0)
def Ygm (x0:List Zg) (x1:Int)  (k:Int->Int->Option Int) (v0:Int) (v1:Int):Option Int:=
 if decide (v1 < (x0.length:Int))=true then (
  (idx x0 v1).bind λa0=>
  (Zw2 a0 v0).bind λr0=>
  if decide (r0 < 0)=true then (
   some (-1))
  else (
   k r0 (Zs v1 1)))
 else (
  some v0)
def Zot (x0:List Zg) (x1:Int)  : Nat->Int->Int->Option Int
 | 0,_,_=>none
 | m+1,v0,v1=>Ygm x0 x1  (Zot x0 x1  m) v0 v1
def Z6v (x0:List Zg) (x1:Int):Option Int:=
 if decide ((Y8 x1 (x0.length:Int)) < 0)=true then (
  some (-1))
 else (
  Zot x0 x1 FU (Y8 x1 (x0.length:Int)) 0)
def Zyj (x0:Zl) (x1:Int):Option Int:=
 (Zw2 x0.req x1).bind λr0=>
 if decide (r0 < 0)=true then (
  some (-1))
 else (
  some r0)
def Yfa (x0:List Zl) (x1:Int)  (k:Int->Int->Option Int) (v0:Int) (v1:Int):Option Int:=
 if decide (v1 < (x0.length:Int))=true then (
  (idx x0 v1).bind λa0=>
  (Zyj a0 v0).bind λr0=>
  if decide (r0 < 0)=true then (
   some (-1))
  else (
   k r0 (Zs v1 1)))
 else (
  some v0)
def Zmi (x0:List Zl) (x1:Int)  : Nat->Int->Int->Option Int
 | 0,_,_=>none
 | m+1,v0,v1=>Yfa x0 x1  (Zmi x0 x1  m) v0 v1
def Z32 (x0:List Zl) (x1:Int):Option Int:=
 if decide ((Y8 x1 (x0.length:Int)) < 0)=true then (
  some (-1))
 else (
  Zmi x0 x1 FU (Y8 x1 (x0.length:Int)) 0)
def Zs7 (x0:Zf) (x1:Int):Option Int:=
 (Z32 x0.posts x1).bind λr0=>
 if decide (r0 < 0)=true then (
  some (-1))
 else (
  (Zgv x0.waits r0).bind λr1=>
  if decide (r1 < 0)=true then (
   some (-1))
  else (
   (Zgv x0.says r1).bind λr2=>
   if decide (r2 < 0)=true then (
    some (-1))
   else (
    some r2)))
def Z1x (x0:Zb) (x1:Int):Option Int:=
 (Z6v x0.queue x1).bind λr0=>
 if decide (r0 < 0)=true then (
  some (-1))
 else (
  some r0)
def Ygu (x0:List Zb) (x1:Int)  (k:Int->Int->Option Int) (v0:Int) (v1:Int):Option Int:=
 if decide (v1 < (x0.length:Int))=true then (
  (idx x0 v1).bind λa0=>
  (Z1x a0 v0).bind λr0=>
  if decide (r0 < 0)=true then (
   some (-1))
  else (
   k r0 (Zs v1 1)))
 else (
  some v0)
def Zob (x0:List Zb) (x1:Int)  : Nat->Int->Int->Option Int
 | 0,_,_=>none
 | m+1,v0,v1=>Ygu x0 x1  (Zob x0 x1  m) v0 v1
def Z55 (x0:List Zb) (x1:Int):Option Int:=
 if decide ((Y8 x1 (x0.length:Int)) < 0)=true then (
  some (-1))
 else (
  Zob x0 x1 FU (Y8 x1 (x0.length:Int)) 0)
def Z7g (x0:List Zc) (x1:Int):Option Int:=
 if decide ((Y8 x1 (x0.length:Int)) < 0)=true then (
  some (-1))
 else (
  some (Y8 x1 (x0.length:Int)))
def Yle (x0:Zo) (x1:Int):Option Int:=
 (Zgv x0.regs x1).bind λr0=>
 if decide (r0 < 0)=true then (
  some (-1))
 else (
  (Zgv x0.fifo r0).bind λr1=>
  if decide (r1 < 0)=true then (
   some (-1))
  else (
   some r1))
def Z30 (x0:Zi) (x1:Int):Option Int:=
 (Zgv x0.mem x1).bind λr0=>
 if decide (r0 < 0)=true then (
  some (-1))
 else (
  (Yle x0.dev r0).bind λr1=>
  if decide (r1 < 0)=true then (
   some (-1))
  else (
   some r1))
def Ycy (x0:List Zm) (x1:Int):Option Int:=
 if decide ((Y8 x1 (x0.length:Int)) < 0)=true then (
  some (-1))
 else (
  some (Y8 x1 (x0.length:Int)))
def Zwu (x0:Za) (x1:Int):Option Int:=
 (Z5c x0.conf x1).bind λr0=>
 if decide (r0 < 0)=true then (
  some (-1))
 else (
  (Z55 x0.m r0).bind λr1=>
  if decide (r1 < 0)=true then (
   some (-1))
  else (
   (Z7g x0.buckets r1).bind λr2=>
   if decide (r2 < 0)=true then (
    some (-1))
   else (
    (Zgv x0.splits r2).bind λr3=>
    if decide (r3 < 0)=true then (
     some (-1))
    else (
     (Z30 x0.model r3).bind λr4=>
     if decide (r4 < 0)=true then (
      some (-1))
     else (
      (Ycy x0.log r4).bind λr5=>
      if decide (r5 < 0)=true then (
       some (-1))
      else (
       some r5))))))
def Z3c (x0:Zd):Option Zd:=
 some x0
def Ybs (x0:List Zd)  (k:(List Zd)->Int->Option (List Zd)) (v0:List Zd) (v1:Int):Option (List Zd):=
 if decide (v1 < (x0.length:Int))=true then (
  (idx x0 v1).bind λa0=>
  (Z3c a0).bind λr0=>
  (idx v0 v1).bind λa1=>
  (Qc v0 v1 r0).bind λy0=>
  k y0 (Zs v1 1))
 else (
  some v0)
def Zi9 (x0:List Zd)  : Nat->(List Zd)->Int->Option (List Zd)
 | 0,_,_=>none
 | m+1,v0,v1=>Ybs x0  (Zi9 x0  m) v0 v1
def Zsq (x0:List Zd):Option (List Zd):=
 (mkI 32 (x0.length:Int) Zd.z0).bind λm0=>
 Zi9 x0 FU m0 0
def Zyq (x0:Zk):Option Zk:=
 (Zsq x0.masters).bind λr0=>
 some {x0 with masters:=r0}
def Yhw (x0:List Int)  (k:(List Int)->Int->Option (List Int)) (v0:List Int) (v1:Int):Option (List Int):=
 if decide (v1 < (x0.length:Int))=true then (
  (idx x0 v1).bind λa0=>
  (idx v0 v1).bind λa1=>
  (Qc v0 v1 a0).bind λy0=>
  k y0 (Zs v1 1))
 else (
  some v0)
def Zpc (x0:List Int)  : Nat->(List Int)->Int->Option (List Int)
 | 0,_,_=>none
 | m+1,v0,v1=>Yhw x0  (Zpc x0  m) v0 v1
def Zcy (x0:List Int):Option (List Int):=
 (mkI 8 (x0.length:Int) 0).bind λm0=>
 Zpc x0 FU m0 0
def Zrq (x0:Zg):Option Zg:=
 (Zcy x0.data_).bind λr0=>
 some {x0 with data_:=r0}
def Yg7 (x0:List Zg)  (k:(List Zg)->Int->Option (List Zg)) (v0:List Zg) (v1:Int):Option (List Zg):=
 if decide (v1 < (x0.length:Int))=true then (
  (idx x0 v1).bind λa0=>
  (Zrq a0).bind λr0=>
  (idx v0 v1).bind λa1=>
  (Qc v0 v1 r0).bind λy0=>
  k y0 (Zs v1 1))
 else (
  some v0)
def Zom (x0:List Zg)  : Nat->(List Zg)->Int->Option (List Zg)
 | 0,_,_=>none
 | m+1,v0,v1=>Yg7 x0  (Zom x0  m) v0 v1
def Zyp (x0:List Zg):Option (List Zg):=
 (mkI 64 (x0.length:Int) Zg.z0).bind λm0=>
 Zom x0 FU m0 0
def Zth (x0:Zl):Option Zl:=
 (Zrq x0.req).bind λr0=>
 some {x0 with req:=r0}
def Yes (x0:List Zl)  (k:(List Zl)->Int->Option (List Zl)) (v0:List Zl) (v1:Int):Option (List Zl):=
 if decide (v1 < (x0.length:Int))=true then (
  (idx x0 v1).bind λa0=>
  (Zth a0).bind λr0=>
  (idx v0 v1).bind λa1=>
  (Qc v0 v1 r0).bind λy0=>
  k y0 (Zs v1 1))
 else (
  some v0)
def Zlq (x0:List Zl)  : Nat->(List Zl)->Int->Option (List Zl)
 | 0,_,_=>none
 | m+1,v0,v1=>Yes x0  (Zlq x0  m) v0 v1
def Zvv (x0:List Zl):Option (List Zl):=
 (mkI 80 (x0.length:Int) Zl.z0).bind λm0=>
 Zlq x0 FU m0 0
def Ztq (x0:Zf):Option Zf:=
 (Zvv x0.posts).bind λr0=>
 (Zcy x0.waits).bind λr1=>
 (Zcy x0.says).bind λr2=>
 some (Zf.mk r0 r1 r2)
def Z2e (x0:Zb):Option Zb:=
 (Zyp x0.queue).bind λr0=>
 some {x0 with queue:=r0}
def Yg4 (x0:List Zb)  (k:(List Zb)->Int->Option (List Zb)) (v0:List Zb) (v1:Int):Option (List Zb):=
 if decide (v1 < (x0.length:Int))=true then (
  (idx x0 v1).bind λa0=>
  (Z2e a0).bind λr0=>
  (idx v0 v1).bind λa1=>
  (Qc v0 v1 r0).bind λy0=>
  k y0 (Zs v1 1))
 else (
  some v0)
def Zod (x0:List Zb)  : Nat->(List Zb)->Int->Option (List Zb)
 | 0,_,_=>none
 | m+1,v0,v1=>Yg4 x0  (Zod x0  m) v0 v1
def Zyo (x0:List Zb):Option (List Zb):=
 (mkI 56 (x0.length:Int) Zb.z0).bind λm0=>
 Zod x0 FU m0 0
def Z8y (x0:Z2):Option Z2:=
 some x0
def Z0e (x0:Zc):Option Zc:=
 some x0
def Z84 (x0:List Zc)  (k:(List Zc)->Int->Option (List Zc)) (v0:List Zc) (v1:Int):Option (List Zc):=
 if decide (v1 < (x0.length:Int))=true then (
  (idx x0 v1).bind λa0=>
  (Z0e a0).bind λr0=>
  (idx v0 v1).bind λa1=>
  (Qc v0 v1 r0).bind λy0=>
  k y0 (Zs v1 1))
 else (
  some v0)
def Zhp (x0:List Zc)  : Nat->(List Zc)->Int->Option (List Zc)
 | 0,_,_=>none
 | m+1,v0,v1=>Z84 x0  (Zhp x0  m) v0 v1
def Zqj (x0:List Zc):Option (List Zc):=
 (mkI 16 (x0.length:Int) Zc.z0).bind λm0=>
 Zhp x0 FU m0 0
def Ztm (x0:Zh):Option Zh:=
 some x0
def Z8a (x0:Zo):Option Zo:=
 (Zcy x0.regs).bind λr0=>
 (Zcy x0.fifo).bind λr1=>
 some (Zo.mk r0 x0.timer r1)
def Zvz (x0:Zi):Option Zi:=
 (Zcy x0.mem).bind λr0=>
 (Z8a x0.dev).bind λr1=>
 some (Zi.mk r0 r1)
def Z53 (x0:Zm):Option Zm:=
 some x0
def Ye6 (x0:List Zm)  (k:(List Zm)->Int->Option (List Zm)) (v0:List Zm) (v1:Int):Option (List Zm):=
 if decide (v1 < (x0.length:Int))=true then (
  (idx x0 v1).bind λa0=>
  (Z53 a0).bind λr0=>
  (idx v0 v1).bind λa1=>
  (Qc v0 v1 r0).bind λy0=>
  k y0 (Zs v1 1))
 else (
  some v0)
def Zmd (x0:List Zm)  : Nat->(List Zm)->Int->Option (List Zm)
 | 0,_,_=>none
 | m+1,v0,v1=>Ye6 x0  (Zmd x0  m) v0 v1
def Zwd (x0:List Zm):Option (List Zm):=
 (mkI 56 (x0.length:Int) Zm.z0).bind λm0=>
 Zmd x0 FU m0 0
def Z2n (x0:Za):Option Za:=
 (Zyq x0.conf).bind λr0=>
 (Zyo x0.m).bind λr1=>
 (Z8y x0.arb).bind λr2=>
 (Zqj x0.buckets).bind λr3=>
 (Zcy x0.splits).bind λr4=>
 (Ztm x0.addr).bind λr5=>
 (Ztm x0.data_).bind λr6=>
 (Zvz x0.model).bind λr7=>
 (Zwd x0.log).bind λr8=>
 some (Za.mk r0 x0.now r1 r2 r3 r4 x0.holder x0.held x0.last r5 r6 r7 x0.picks r8)
def Z5 (x0:Int) (x1:Int) (x2:Int):Option Bool:=
 if decide (x0≥x1)=true then (
  some (decide (x0<=x2)))
 else (
  some false)
def Zoe (x0:Zk)  (v0:Bool):Option Int:=
 if v0=true then (
  some 0)
 else (
  some (Jw (Zs x0.maxRetry 2) (Zs x0.maxWait 6)))
def Zjt (x0:Zk):Option Int:=
 (Z5 x0.maxRetry 0 3).bind λr0=>
 if (!r0)=true then (
  Zoe x0 true)
 else (
  (Z5 x0.maxWait 0 3).bind λr1=>
  Zoe x0 (!r1))
def Zgb (x0:Zk):Option Int:=
 (Zjt x0).bind λr0=>
 if decide (r0=0)=true then (
  some 0)
 else (
  (Z5 x0.lockMost 1 40).bind λr1=>
  if (!r1)=true then (
   some 0)
  else (
   (Zjt x0).bind λr2=>
   some (Zs (Jw 2 r2) x0.lockMost)))
def Ztx (x0:Zk):Option Bool:=
 (Z5 x0.quantum 1 4).bind λr0=>
 if r0=true then (
  (Zjt x0).bind λr1=>
  if decide (r1 > 0)=true then (
   (Z5 x0.maxSplit 1 12).bind λr2=>
   if r2=true then (
    (Z5 x0.lockMost 1 40).bind λr3=>
    some r3)
   else (
    some false))
  else (
   some false))
 else (
  some false)
def Zua (x0:Zk)  (k:Int->Int->Option Bool) (v0:Int) (v1:Int):Option Bool:=
 if decide (v1 < (x0.masters.length:Int))=true then (
  (idx x0.masters v1).bind λa0=>
  (Z5 a0.weight 1 4).bind λr0=>
  if (!r0)=true then (
   some false)
  else (
   if (!a0.prio)=true then (
    if decide (a0.every≠0)=true then (
     some false)
    else (
     if decide (a0.cap≠0)=true then (
      some false)
     else (
      if a0.prio=true then (
       (Zgb x0).bind λr1=>
       (Z5 a0.every (Jw (Jw 2 v0) r1) 1000).bind λr2=>
       if (!r2)=true then (
        some false)
       else (
        (Z5 a0.cap 1 8).bind λr3=>
        if (!r3)=true then (
         some false)
        else (
         k v0 (Zs v1 1))))
      else (
       k v0 (Zs v1 1)))))
   else (
    if a0.prio=true then (
     (Zgb x0).bind λr1=>
     (Z5 a0.every (Jw (Jw 2 v0) r1) 1000).bind λr2=>
     if (!r2)=true then (
      some false)
     else (
      (Z5 a0.cap 1 8).bind λr3=>
      if (!r3)=true then (
       some false)
      else (
       k v0 (Zs v1 1))))
    else (
     k v0 (Zs v1 1)))))
 else (
  (Z5 (x0.masters.length:Int) 1 4).bind λr4=>
  if r4=true then (
   (Ztx x0).bind λr5=>
   some r5)
  else (
   some false))
def Zax (x0:Zk)  : Nat->Int->Int->Option Bool
 | 0,_,_=>none
 | m+1,v0,v1=>Zua x0  (Zax x0  m) v0 v1
def Zso (x0:Zk)  (k:Int->Int->Option Bool) (v0:Int) (v2:Int):Option Bool:=
 if decide (v2 < (x0.masters.length:Int))=true then (
  (idx x0.masters v2).bind λa1=>
  if a1.prio=true then (
   k (Zs v0 1) (Zs v2 1))
  else (
   k v0 (Zs v2 1)))
 else (
  Zax x0 FU v0 0)
def Zn7 (x0:Zk)  : Nat->Int->Int->Option Bool
 | 0,_,_=>none
 | m+1,v0,v2=>Zso x0  (Zn7 x0  m) v0 v2
def Zjm (x0:Zk):Option Bool:=
 Zn7 x0 FU 0 0
def Zba (x0:Int):Option Int:=
 (Z5 x0 0 3).bind λr0=>
 if (!r0)=true then (
  some 0)
 else (
  (idx [1,4,4,8] x0).bind λa0=>
  some a0)
def Jo (x0:Int):Option Int:=
 (Z5 x0 0 2).bind λr0=>
 if (!r0)=true then (
  some 0)
 else (
  (nnI x0).bind λn0=>
  some (Yec 1 x0))
def Zbb (x0:Int) (x1:Int):Option Bool:=
 (Jo x1).bind λr0=>
 if decide (r0 > 0)=true then (
  if decide (x0≥0)=true then (
   (Jo x1).bind λr1=>
   (nzI r1).bind λn0=>
   some (decide ((Za4 x0 r1)=0)))
  else (
   some false))
 else (
  some false)
def Zkd (x0:Int) (x1:Int) (x2:Int)  (v0:Int) (v1:Bool):Option Int:=
 if v1=true then (
  some (Y8 (Zs x0 v0) (Jw 4 v0)))
 else (
  some (Zs x0 v0))
def Zex (x0:Int) (x1:Int) (x2:Int)  (v0:Int) (v2:Bool):Option Int:=
 if v2=true then (
  some (-1))
 else (
  if decide (x2=2)=true then (
   (nzI (Jw 4 v0)).bind λn0=>
   Zkd x0 x1 x2 v0 (decide ((Za4 (Zs x0 v0) (Jw 4 v0))=0)))
  else (
   Zkd x0 x1 x2 v0 false))
def Znh (x0:Int) (x1:Int) (x2:Int):Option Int:=
 (Jo x1).bind λr0=>
 (Zbb x0 x1).bind λr1=>
 if (!r1)=true then (
  Zex x0 x1 x2 r0 true)
 else (
  (Z5 x0 0 511).bind λr2=>
  if (!r2)=true then (
   Zex x0 x1 x2 r0 true)
  else (
   (Zba x2).bind λr3=>
   Zex x0 x1 x2 r0 (decide (r3=0))))
def Zc7 (x0:Int) (x1:Int) (x2:Int) (k_L1:Int->(List Int)->Option (List Int)) (v0:Int) (v1:List Int) (v2:Bool):Option (List Int):=
 if v2=true then (
  (We 8 v1 [v0]).bind λz0=>
  (Znh v0 x1 x2).bind λr0=>
  k_L1 r0 z0)
 else (
  (Zba x2).bind λr1=>
  if decide ((v1.length:Int) < r1)=true then (
   some [])
  else (
   some v1))
def Zcc (x0:Int) (x1:Int) (x2:Int)  (k:Int->(List Int)->Option (List Int)) (v0:Int) (v1:List Int):Option (List Int):=
 (Zba x2).bind λr2=>
 if decide ((v1.length:Int) < r2)=true then (
  (Znh v0 x1 x2).bind λr3=>
  Zc7 x0 x1 x2 k v0 v1 (decide (r3≥0)))
 else (
  Zc7 x0 x1 x2 k v0 v1 false)
def Zgd (x0:Int) (x1:Int) (x2:Int)  : Nat->Int->(List Int)->Option (List Int)
 | 0,_,_=>none
 | m+1,v0,v1=>Zcc x0 x1 x2  (Zgd x0 x1 x2  m) v0 v1
def Ziu (x0:Int) (x1:Int) (x2:Int):Option (List Int):=
 Zgd x0 x1 x2 FU x0 []
def Zq6 (x0:Int) (x1:Int) (x2:Int)  (k:(List Int)->Int->Option Bool) (v0:List Int) (v1:Int):Option Bool:=
 if decide (v1 < (v0.length:Int))=true then (
  (idx v0 v1).bind λa0=>
  (idx v0 0).bind λa1=>
  if decide ((Zss a0 64)≠(Zss a1 64))=true then (
   some false)
  else (
   k v0 (Zs v1 1)))
 else (
  some (decide ((v0.length:Int) > 0)))
def Zls (x0:Int) (x1:Int) (x2:Int)  : Nat->(List Int)->Int->Option Bool
 | 0,_,_=>none
 | m+1,v0,v1=>Zq6 x0 x1 x2  (Zls x0 x1 x2  m) v0 v1
def Zwh (x0:Int) (x1:Int) (x2:Int):Option Bool:=
 (Ziu x0 x1 x2).bind λr0=>
 Zls x0 x1 x2 FU r0 0
def Qr (x0:Int):Option Int:=
 (Jo x0).bind λr0=>
 if decide (r0=0)=true then (
  some 0)
 else (
  (Jo x0).bind λr1=>
  (nnI (Jw 8 r1)).bind λn0=>
  some (Yec 1 (Jw 8 r1)))
def Zuy (x0:Zg)  (k:Int->Option Bool) (v0:Int):Option Bool:=
 if decide (v0 < (x0.data_.length:Int))=true then (
  (idx x0.data_ v0).bind λa0=>
  (Qr x0.size).bind λr0=>
  (Z5 a0 0 (Y8 r0 1)).bind λr1=>
  if (!r1)=true then (
   some false)
  else (
   k (Zs v0 1)))
 else (
  if decide ((x0.data_.length:Int)=0)=true then (
   if (!x0.write)=true then (
    some true)
   else (
    (Zba x0.burst).bind λr2=>
    if decide ((x0.data_.length:Int)=r2)=true then (
     some x0.write)
    else (
     some false)))
  else (
   (Zba x0.burst).bind λr2=>
   if decide ((x0.data_.length:Int)=r2)=true then (
    some x0.write)
   else (
    some false)))
def Zqq (x0:Zg)  : Nat->Int->Option Bool
 | 0,_=>none
 | m+1,v0=>Zuy x0  (Zqq x0  m) v0
def Zww (x0:Zg):Option Bool:=
 (Zwh x0.addr x0.size x0.burst).bind λr3=>
 if (!r3)=true then (
  some false)
 else (
  Zqq x0 FU 0)
def Zyf (x0:Zk):Option Zk:=
 (We 32 [] x0.masters).bind λz0=>
 some {x0 with masters:=z0}
def Ynh (x0:Zd):Option Zc:=
 if (!x0.prio)=true then (
  some Zc.z0)
 else (
  some (Zc.mk (Zm5 0 x0.cap) 0))
def Ygp (x0:Zk)  (k:Za->Int->Option (Za×Bool)) (vb0:Za) (v0:Int):Option (Za×Bool):=
 if decide (v0 < (x0.masters.length:Int))=true then (
  (We 56 vb0.m [Zb.z0]).bind λz0=>
  (idx x0.masters v0).bind λa0=>
  (Ynh a0).bind λr0=>
  (We 16 vb0.buckets [r0]).bind λz1=>
  (We 8 vb0.splits [0]).bind λz2=>
  k {vb0 with m:=z0,buckets:=z1,splits:=z2} (Zs v0 1))
 else (
  some (vb0,true))
def Ykt (x0:Zk)  : Nat->Za->Int->Option (Za×Bool)
 | 0,_,_=>none
 | m+1,vb0,v0=>Ygp x0  (Ykt x0  m) vb0 v0
def Zj1 (x0:Zg):Option Zg:=
 (We 8 [] x0.data_).bind λz0=>
 some {x0 with data_:=z0}
def Yey (x0:Zb)  (k:(List Zg)->Int->Option Zb) (v0:List Zg) (v1:Int):Option Zb:=
 if decide (v1 < (x0.queue.length:Int))=true then (
  (idx x0.queue v1).bind λa0=>
  (Zj1 a0).bind λr0=>
  (We 64 v0 [r0]).bind λz0=>
  k z0 (Zs v1 1))
 else (
  some {x0 with queue:=v0})
def Zlw (x0:Zb)  : Nat->(List Zg)->Int->Option Zb
 | 0,_,_=>none
 | m+1,v0,v1=>Yey x0  (Zlw x0  m) v0 v1
def Zeh (x0:Zb):Option Zb:=
 Zlw x0 FU [] 0
def Ztg (x0:Zo):Option Zo:=
 (We 8 [] x0.regs).bind λz0=>
 (We 8 [] x0.fifo).bind λz1=>
 some (Zo.mk z0 x0.timer z1)
def Zs5 (x0:Zi):Option Zi:=
 (We 8 [] x0.mem).bind λz0=>
 (Ztg x0.dev).bind λr0=>
 some (Zi.mk z0 r0)
def Zjr (x0:Za)  (k:Za->Int->Option Za) (vb0:Za) (v0:Int):Option Za:=
 if decide (v0 < (x0.m.length:Int))=true then (
  (idx x0.m v0).bind λa0=>
  (Zeh a0).bind λr0=>
  (We 56 vb0.m [r0]).bind λz0=>
  k {vb0 with m:=z0} (Zs v0 1))
 else (
  (We 16 [] x0.buckets).bind λz1=>
  (We 8 [] x0.splits).bind λz2=>
  (Zs5 x0.model).bind λr1=>
  (We 56 [] x0.log).bind λz3=>
  some {vb0 with buckets:=z1,splits:=z2,model:=r1,log:=z3})
def Zgs (x0:Za)  : Nat->Za->Int->Option Za
 | 0,_,_=>none
 | m+1,vb0,v0=>Zjr x0  (Zgs x0  m) vb0 v0
def Zp9 (x0:Za):Option Za:=
 (Zyf x0.conf).bind λr2=>
 Zgs x0 FU {x0 with conf:=r2,m:=[]} 0
def Zoa (x0:Zk) (x1:Int)  (v0:Bool):Option Int:=
 if v0=true then (
  some 0)
 else (
  (idx x0.masters x1).bind λa0=>
  some (Jw a0.weight x0.quantum))
def Zke (x0:Zk) (x1:Int):Option Int:=
 (Zjm x0).bind λr0=>
 if (!r0)=true then (
  Zoa x0 x1 true)
 else (
  (Z5 x1 0 (Y8 (x0.masters.length:Int) 1)).bind λr1=>
  Zoa x0 x1 (!r1))
def Zrl (x0:Z2) (x1:Zk):Option Bool:=
 (Zjm x1).bind λr0=>
 if r0=true then (
  (Z5 x0.at_ 0 (Y8 (x1.masters.length:Int) 1)).bind λr1=>
  if r1=true then (
   (Zke x1 x0.at_).bind λr2=>
   (Z5 x0.credit 0 r2).bind λr3=>
   some r3)
  else (
   some false))
 else (
  some false)
def Zra (x0:List Int)  (k:Int->Option Bool) (v0:Int):Option Bool:=
 if decide (v0 < (x0.length:Int))=true then (
  (idx x0 v0).bind λa0=>
  (Z5 a0 0 255).bind λr0=>
  if (!r0)=true then (
   some false)
  else (
   k (Zs v0 1)))
 else (
  some (decide ((x0.length:Int)<=512)))
def Zld (x0:List Int)  : Nat->Int->Option Bool
 | 0,_=>none
 | m+1,v0=>Zra x0  (Zld x0  m) v0
def Zp7 (x0:List Int):Option Bool:=
 Zld x0 FU 0
def Zqx (x0:List Int)  (k:Int->Option Bool) (v0:Int):Option Bool:=
 if decide (v0 < (x0.length:Int))=true then (
  (idx x0 v0).bind λa0=>
  (Qr 2).bind λr0=>
  (Z5 a0 0 (Y8 r0 1)).bind λr1=>
  if (!r1)=true then (
   some false)
  else (
   k (Zs v0 1)))
 else (
  some true)
def Zk8 (x0:List Int)  : Nat->Int->Option Bool
 | 0,_=>none
 | m+1,v0=>Zqx x0  (Zk8 x0  m) v0
def Zpo (x0:List Int):Option Bool:=
 Zk8 x0 FU 0
def Zxb (x0:Zo):Option Bool:=
 if decide ((x0.regs.length:Int)=4)=true then (
  (Zpo x0.regs).bind λr0=>
  if r0=true then (
   (Qr 2).bind λr1=>
   (Z5 x0.timer 0 (Y8 r1 1)).bind λr2=>
   if r2=true then (
    if decide ((x0.fifo.length:Int)<=4)=true then (
     (Zpo x0.fifo).bind λr3=>
     some r3)
    else (
     some false))
   else (
    some false))
  else (
   some false))
 else (
  some false)
def Zpz (x0:Zi):Option Bool:=
 if decide ((x0.mem.length:Int)=192)=true then (
  (Zp7 x0.mem).bind λr0=>
  if r0=true then (
   (Zxb x0.dev).bind λr1=>
   some r1)
  else (
   some false))
 else (
  some false)
def Zc6 (x0:Zb):Option Int:=
 if decide ((x0.queue.length:Int)=0)=true then (
  some 0)
 else (
  (idx x0.queue 0).bind λa0=>
  (Zba a0.burst).bind λr0=>
  some r0)
def Zap (x0:Zb)  (v0:Bool):Option Bool:=
 if v0=true then (
  some false)
 else (
  if decide ((x0.queue.length:Int)=0)=true then (
   if decide (x0.beat=0)=true then (
    if decide (x0.done=0)=true then (
     if decide (x0.tries=0)=true then (
      if (!x0.parted)=true then (
       some (!x0.broken))
      else (
       some false))
     else (
      some false))
    else (
     some false))
   else (
    some false))
  else (
   (Zc6 x0).bind λr0=>
   (Z5 x0.done 0 (Y8 r0 1)).bind λr1=>
   if r1=true then (
    (Zc6 x0).bind λr2=>
    (Z5 x0.beat x0.done (Zje (Zs x0.done 2) r2)).bind λr3=>
    some r3)
   else (
    some false)))
def Zpj (x0:Zb)  (k:Int->Option Bool) (v1:Int):Option Bool:=
 if decide (v1 < (x0.queue.length:Int))=true then (
  (idx x0.queue v1).bind λa0=>
  (Zww a0).bind λr4=>
  if (!r4)=true then (
   some false)
  else (
   k (Zs v1 1)))
 else (
  if decide ((x0.queue.length:Int) > 4)=true then (
   Zap x0 true)
  else (
   Zap x0 (decide (x0.tries < 0))))
def Zjd (x0:Zb)  : Nat->Int->Option Bool
 | 0,_=>none
 | m+1,v1=>Zpj x0  (Zjd x0  m) v1
def Zbt (x0:Zb):Option Bool:=
 Zjd x0 FU 0
def Z81 (x0:Zb) (x1:Zk):Option Bool:=
 (Zjm x1).bind λr0=>
 if r0=true then (
  (Zbt x0).bind λr1=>
  if r1=true then (
   some (decide (x0.tries<=x1.maxRetry)))
  else (
   some false))
 else (
  some false)
def Zfd (x0:Zc) (x1:Zd):Option Bool:=
 if (!x1.prio)=true then (
  some (decide (x0.tokens=0)&&(decide (x0.count=0)&&true)))
 else (
  (Z5 x0.tokens 0 x1.cap).bind λr0=>
  if r0=true then (
   (Z5 x0.count 0 (Y8 x1.every 1)).bind λr1=>
   some r1)
  else (
   some false))
def Zlc (x0:Za) (x1:Int)  (v0:Int):Option Int:=
 if x0.data_.live=true then (
  if decide (x0.data_.who=x1)=true then (
   some (Zs v0 1))
  else (
   some v0))
 else (
  some v0)
def Zlb (x0:Za) (x1:Int)  (v1:Bool):Option Int:=
 if v1=true then (
  Zlc x0 x1 (Zs 0 1))
 else (
  Zlc x0 x1 0)
def Zv0 (x0:Za) (x1:Int):Option Int:=
 if x0.addr.live=true then (
  Zlb x0 x1 (decide (x0.addr.who=x1)))
 else (
  Zlb x0 x1 false)
def Ztw (x0:Int):Option ByteArray:=
 (Z5 x0 0 3).bind λr0=>
 if (!r0)=true then (
  some ByteArray.empty)
 else (
  (idx [(strL [111,107,97,121]),(strL [101,114,114,111,114]),(strL [114,101,116,114,121]),(strL [115,112,108,105,116])] x0).bind λa0=>
  some a0)
def Yg (x0:Za) (x1:Zh) (x2:Bool)  (vb0:Zb) (v0:Bool):Option Bool:=
 if v0=true then (
  some false)
 else (
  if decide (x1.beat=vb0.done)=true then (
   (Z5 x1.left 0 (Zs x0.conf.maxWait 2)).bind λr0=>
   if r0=true then (
    (Ztw x1.resp).bind λr1=>
    if (!(r1.toList == ByteArray.empty.toList))=true then (
     if (!x1.second)=true then (
      some true)
     else (
      if decide (x1.resp≠0)=true then (
       some (decide (x1.left=0)))
      else (
       some false)))
    else (
     some false))
   else (
    some false))
  else (
   some false))
def Q7 (x0:Za) (x1:Zh) (x2:Bool)  (v1:Bool):Option Bool:=
 if v1=true then (
  some false)
 else (
  (idx x0.m x1.who).bind λa0=>
  if (!x2)=true then (
   if decide (x1.beat=(Y8 a0.beat 1))=true then (
    if decide (x1.left=0)=true then (
     if decide (x1.resp=0)=true then (
      some (!x1.second))
     else (
      some false))
    else (
     some false))
   else (
    some false))
  else (
   if decide (x1.resp=2)=true then (
    if decide (a0.tries≥x0.conf.maxRetry)=true then (
     Yg x0 x1 x2 a0 true)
    else (
     if decide (x1.resp=3)=true then (
      if a0.parted=true then (
       Yg x0 x1 x2 a0 true)
      else (
       if decide (x0.holder=x1.who)=true then (
        Yg x0 x1 x2 a0 true)
       else (
        if x1.second=true then (
         Yg x0 x1 x2 a0 x0.addr.live)
        else (
         Yg x0 x1 x2 a0 false))))
     else (
      if x1.second=true then (
       Yg x0 x1 x2 a0 x0.addr.live)
      else (
       Yg x0 x1 x2 a0 false))))
   else (
    if decide (x1.resp=3)=true then (
     if a0.parted=true then (
      Yg x0 x1 x2 a0 true)
     else (
      if decide (x0.holder=x1.who)=true then (
       Yg x0 x1 x2 a0 true)
      else (
       if x1.second=true then (
        Yg x0 x1 x2 a0 x0.addr.live)
       else (
        Yg x0 x1 x2 a0 false))))
    else (
     if x1.second=true then (
      Yg x0 x1 x2 a0 x0.addr.live)
     else (
      Yg x0 x1 x2 a0 false)))))
def Zcx (x0:Za) (x1:Zh) (x2:Bool):Option Bool:=
 if (!x1.live)=true then (
  some ((x1.live == false)&&(decide (x1.who=0)&&(decide (x1.beat=0)&&((x1.first == false)&&(decide (x1.by_=0)&&(decide (x1.left=0)&&(decide (x1.resp=0)&&((x1.second == false)&&true)))))))))
 else (
  (Z5 x1.who 0 (Y8 (x0.m.length:Int) 1)).bind λr2=>
  if (!r2)=true then (
   Q7 x0 x1 x2 true)
  else (
   (Z5 x1.by_ 1 3).bind λr3=>
   if (!r3)=true then (
    Q7 x0 x1 x2 true)
   else (
    (idx x0.splits x1.who).bind λa1=>
    Q7 x0 x1 x2 (decide (a1 > 0)))))
def Zbe (x0:Za)  (v0:Bool):Option Bool:=
 if v0=true then (
  some false)
 else (
  (idx x0.m x0.holder).bind λa0=>
  if decide ((a0.queue.length:Int) > 0)=true then (
   (idx a0.queue 0).bind λa1=>
   if a1.lock=true then (
    if (!a0.broken)=true then (
     (idx x0.splits x0.holder).bind λa2=>
     some (decide (a2=0)))
    else (
     some false))
   else (
    some false))
  else (
   some false))
def Zjy (x0:Za)  (k:Int->Option Bool) (v1:Int):Option Bool:=
 if decide (v1 < (x0.m.length:Int))=true then (
  (idx x0.m v1).bind λa3=>
  if decide (a3.beat > 0)=true then (
   (idx a3.queue 0).bind λa4=>
   if a4.lock=true then (
    if (!a3.broken)=true then (
     if decide (x0.holder≠v1)=true then (
      some false)
     else (
      k (Zs v1 1)))
    else (
     k (Zs v1 1)))
   else (
    k (Zs v1 1)))
  else (
   k (Zs v1 1)))
 else (
  if decide (x0.holder=(-1))=true then (
   some (decide (x0.held=0)))
  else (
   (Z5 x0.holder 0 (Y8 (x0.m.length:Int) 1)).bind λr0=>
   if (!r0)=true then (
    Zbe x0 true)
   else (
    (Z5 x0.held 0 x0.conf.lockMost).bind λr1=>
    Zbe x0 (!r1))))
def Zty (x0:Za)  : Nat->Int->Option Bool
 | 0,_=>none
 | m+1,v1=>Zjy x0  (Zty x0  m) v1
def Zp5 (x0:Za):Option Bool:=
 Zty x0 FU 0
def Zlh (x0:Za)  (k:Int->Option Bool) (v0:Int):Option Bool:=
 if decide (v0 < (x0.log.length:Int))=true then (
  (idx x0.log v0).bind λa0=>
  (Z5 a0.cycle 0 (Y8 x0.now 1)).bind λr0=>
  if (!r0)=true then (
   some false)
  else (
   if decide (v0 > 0)=true then (
    (idx x0.log (Y8 v0 1)).bind λa1=>
    if decide (a0.cycle<=a1.cycle)=true then (
     some false)
    else (
     (Z5 a0.who 0 (Y8 (x0.m.length:Int) 1)).bind λr1=>
     if (!r1)=true then (
      some false)
     else (
      (Zbb a0.addr a0.size).bind λr2=>
      if (!r2)=true then (
       some false)
      else (
       (Z5 a0.addr 0 511).bind λr3=>
       if (!r3)=true then (
        some false)
       else (
        (Qr a0.size).bind λr4=>
        (Z5 a0.value 0 (Y8 r4 1)).bind λr5=>
        if (!r5)=true then (
         some false)
        else (
         (Z5 a0.resp 0 1).bind λr6=>
         if (!r6)=true then (
          some false)
         else (
          k (Zs v0 1))))))))
   else (
    (Z5 a0.who 0 (Y8 (x0.m.length:Int) 1)).bind λr1=>
    if (!r1)=true then (
     some false)
    else (
     (Zbb a0.addr a0.size).bind λr2=>
     if (!r2)=true then (
      some false)
     else (
      (Z5 a0.addr 0 511).bind λr3=>
      if (!r3)=true then (
       some false)
      else (
       (Qr a0.size).bind λr4=>
       (Z5 a0.value 0 (Y8 r4 1)).bind λr5=>
       if (!r5)=true then (
        some false)
       else (
        (Z5 a0.resp 0 1).bind λr6=>
        if (!r6)=true then (
         some false)
        else (
         k (Zs v0 1)))))))))
 else (
  some true)
def Zn8 (x0:Za)  : Nat->Int->Option Bool
 | 0,_=>none
 | m+1,v0=>Zlh x0  (Zn8 x0  m) v0
def Zst (x0:Za):Option Bool:=
 Zn8 x0 FU 0
def Zor (x0:Za)  (k:Int->Option Bool) (v0:Int):Option Bool:=
 if decide (v0 < (x0.conf.masters.length:Int))=true then (
  (idx x0.m v0).bind λa0=>
  (Z81 a0 x0.conf).bind λr0=>
  if (!r0)=true then (
   some false)
  else (
   (idx x0.buckets v0).bind λa1=>
   (idx x0.conf.masters v0).bind λa2=>
   (Zfd a1 a2).bind λr1=>
   if (!r1)=true then (
    some false)
   else (
    (idx x0.splits v0).bind λa3=>
    (Z5 a3 0 x0.conf.maxSplit).bind λr2=>
    if (!r2)=true then (
     some false)
    else (
     (Zv0 x0 v0).bind λr3=>
     if decide ((Y8 a0.beat a0.done)≠r3)=true then (
      some false)
     else (
      k (Zs v0 1))))))
 else (
  (Zcx x0 x0.data_ true).bind λr4=>
  if r4=true then (
   (Zcx x0 x0.addr false).bind λr5=>
   if r5=true then (
    (Zp5 x0).bind λr6=>
    if r6=true then (
     (Zst x0).bind λr7=>
     some r7)
    else (
     some false))
   else (
    some false))
  else (
   some false))
def Zqi (x0:Za)  : Nat->Int->Option Bool
 | 0,_=>none
 | m+1,v0=>Zor x0  (Zqi x0  m) v0
def W0 (x0:Za)  (v1:Bool):Option Bool:=
 if v1=true then (
  some false)
 else (
  Zqi x0 FU 0)
def Zno (x0:Za):Option Bool:=
 (Zjm x0.conf).bind λr8=>
 if (!r8)=true then (
  W0 x0 true)
 else (
  (Z5 x0.now 0 4000).bind λr9=>
  if (!r9)=true then (
   W0 x0 true)
  else (
   if decide ((x0.m.length:Int)≠(x0.conf.masters.length:Int))=true then (
    W0 x0 true)
   else (
    if decide ((x0.buckets.length:Int)≠(x0.conf.masters.length:Int))=true then (
     W0 x0 true)
    else (
     if decide ((x0.splits.length:Int)≠(x0.conf.masters.length:Int))=true then (
      W0 x0 true)
     else (
      (Zrl x0.arb x0.conf).bind λr10=>
      if (!r10)=true then (
       W0 x0 true)
      else (
       (Z5 x0.last (-1) (Y8 (x0.conf.masters.length:Int) 1)).bind λr11=>
       if (!r11)=true then (
        W0 x0 true)
       else (
        (Zpz x0.model).bind λr12=>
        if (!r12)=true then (
         W0 x0 true)
        else (
         if decide (x0.picks < 0)=true then (
          W0 x0 true)
         else (
          W0 x0 (decide (x0.picks > x0.now)))))))))))
def Yd4 (x0:Za)  (k:Int->Option Bool) (v0:Int):Option Bool:=
 if decide (v0 < (x0.m.length:Int))=true then (
  (idx x0.m v0).bind λa0=>
  if decide ((a0.queue.length:Int) > 0)=true then (
   some false)
  else (
   k (Zs v0 1)))
 else (
  some true)
def Zlg (x0:Za)  : Nat->Int->Option Bool
 | 0,_=>none
 | m+1,v0=>Yd4 x0  (Zlg x0  m) v0
def Zv3 (x0:Za):Option Bool:=
 Zlg x0 FU 0
def Zma (x0:Zb) (x1:Int)  (v0:Bool):Option Int:=
 if v0=true then (
  some (-1))
 else (
  (idx x0.queue 0).bind λa0=>
  (Ziu a0.addr a0.size a0.burst).bind λr0=>
  (idx r0 x1).bind λa1=>
  some a1)
def Zhc (x0:Zb) (x1:Int):Option Int:=
 (Zbt x0).bind λr1=>
 if (!r1)=true then (
  Zma x0 x1 true)
 else (
  (Zc6 x0).bind λr2=>
  (Z5 x1 0 (Y8 r2 1)).bind λr3=>
  Zma x0 x1 (!r3))
def Zf6 (x0:Za)  (vb0:Zt):Option Zt:=
 if x0.data_.live=true then (
  (idx x0.m x0.data_.who).bind λa0=>
  (Zhc a0 x0.data_.beat).bind λr0=>
  some {vb0 with data_:=r0,from_:=x0.data_.who})
 else (
  some vb0)
def Zwa (x0:Za):Option Zt:=
 if x0.addr.live=true then (
  (idx x0.m x0.addr.who).bind λa1=>
  (Zhc a1 x0.addr.beat).bind λr1=>
  if x0.addr.first=true then (
   Zf6 x0 (Zt.mk x0.now r1 2 x0.addr.who (-1) (-1) true 0 (-1)))
  else (
   Zf6 x0 (Zt.mk x0.now r1 3 x0.addr.who (-1) (-1) true 0 (-1))))
 else (
  Zf6 x0 (Zt.mk x0.now (-1) 0 (-1) (-1) (-1) true 0 (-1)))
def Zjb (x0:Zf) (x1:Int)  (k:(List Zl)->Int->Option (List Zl)) (v0:List Zl) (v1:Int):Option (List Zl):=
 if decide (v1 < (x0.posts.length:Int))=true then (
  (idx x0.posts v1).bind λa0=>
  if decide (a0.at_=x1)=true then (
   (Zj1 a0.req).bind λr0=>
   (We 80 v0 [{a0 with req:=r0}]).bind λz0=>
   k z0 (Zs v1 1))
  else (
   k v0 (Zs v1 1)))
 else (
  some v0)
def Zlm (x0:Zf) (x1:Int)  : Nat->(List Zl)->Int->Option (List Zl)
 | 0,_,_=>none
 | m+1,v0,v1=>Zjb x0 x1  (Zlm x0 x1  m) v0 v1
def Zv7 (x0:Zf) (x1:Int):Option (List Zl):=
 Zlm x0 x1 FU [] 0
def Zf5 (x0:Zb) (x1:Zg)  (vb0:Zb) (v0:Bool):Option (Zb×Bool):=
 if v0=true then (
  some (vb0,false))
 else (
  (Zj1 x1).bind λr0=>
  (We 64 vb0.queue [r0]).bind λz0=>
  some ({vb0 with queue:=z0},true))
def Zv2 (x0:Zb) (x1:Zg):Option (Zb×Bool):=
 (Zeh x0).bind λr1=>
 (Zbt x0).bind λr2=>
 if (!r2)=true then (
  Zf5 x0 x1 r1 true)
 else (
  (Zww x1).bind λr3=>
  if (!r3)=true then (
   Zf5 x0 x1 r1 true)
  else (
   Zf5 x0 x1 r1 (decide ((x0.queue.length:Int)=4))))
def Zgp (x0:Zc) (x1:Zd)  (v0:Bool):Option Zc:=
 if v0=true then (
  some x0)
 else (
  if decide ((Zs x0.count 1)=x1.every)=true then (
   some (Zc.mk (Zje x1.cap (Zs x0.tokens 1)) 0))
  else (
   some (Zc.mk x0.tokens (Zs x0.count 1))))
def Zoq (x0:Zc) (x1:Zd):Option Zc:=
 if (!x1.prio)=true then (
  Zgp x0 x1 true)
 else (
  (Zfd x0 x1).bind λr0=>
  Zgp x0 x1 (!r0))
def Zl4 (x0:Zb)  (vb0:Zb) (v0:Bool):Option (Zb×Bool):=
 if v0=true then (
  some (vb0,false))
 else (
  some ({vb0 with beat:=(Y8 vb0.beat 1)},true))
def Zv9 (x0:Zb):Option (Zb×Bool):=
 (Zeh x0).bind λr0=>
 (Zbt x0).bind λr1=>
 if (!r1)=true then (
  Zl4 x0 r0 true)
 else (
  Zl4 x0 r0 (decide (x0.beat=x0.done)))
def Zgm (x0:Zc) (x1:Zd)  (v0:Bool):Option Zc:=
 if v0=true then (
  some (Zc.mk (Zje x1.cap (Zs x0.tokens 1)) x0.count))
 else (
  some x0)
def Zop (x0:Zc) (x1:Zd):Option Zc:=
 if x1.prio=true then (
  (Zfd x0 x1).bind λr0=>
  Zgm x0 x1 r0)
 else (
  Zgm x0 x1 false)
def Zlf (x0:Z2) (x1:Zk) (x2:Int)  (v0:Bool):Option Z2:=
 if v0=true then (
  (Zke x1 x2).bind λr0=>
  some (Z2.mk x0.at_ (Zje r0 (Zs x0.credit 1))))
 else (
  some x0)
def Zvo (x0:Z2) (x1:Zk) (x2:Int):Option Z2:=
 (Zrl x0 x1).bind λr1=>
 if r1=true then (
  Zlf x0 x1 x2 (decide (x0.at_=x2)))
 else (
  Zlf x0 x1 x2 false)
def Zky (x0:Za) (x1:Zh):Option Za:=
 (idx x0.m x1.who).bind λa0=>
 (Zv9 a0).bind λr0=>
 (Qc x0.m x1.who r0.1).bind λy0=>
 if decide (x1.by_=1)=true then (
  (idx x0.buckets x1.who).bind λa1=>
  (idx x0.conf.masters x1.who).bind λa2=>
  (Zop a1 a2).bind λr1=>
  (Qc x0.buckets x1.who r1).bind λy1=>
  some {x0 with m:=y0,buckets:=y1})
 else (
  if decide (x1.by_=2)=true then (
   (Zvo x0.arb x0.conf x1.who).bind λr2=>
   some {x0 with m:=y0,arb:=r2})
  else (
   some {x0 with m:=y0}))
def Zzm (x0:List Int) (x1:Int)  (v0:Bool):Option Int:=
 if v0=true then (
  some 0)
 else (
  (nzI (x0.length:Int)).bind λn0=>
  (idx x0 (Za4 x1 (x0.length:Int))).bind λa0=>
  some a0)
def Zzk (x0:List Int) (x1:Int):Option Int:=
 if decide ((x0.length:Int)=0)=true then (
  Zzm x0 x1 true)
 else (
  Zzm x0 x1 (decide (x1 < 0)))
def Zvt (x0:Zk) (x1:Zf) (x2:Int):Option Int:=
 (Zzk x1.waits x2).bind λr0=>
 some (Zm5 1 (Zje x0.maxSplit (Zs (Zje r0 99) 1)))
def Znw (x0:Zg) (x1:Int):Option Int:=
 if (!x0.write)=true then (
  some 0)
 else (
  (idx x0.data_ x1).bind λa0=>
  some a0)
def Ztt (x0:Int)  (v0:Bool):Option Int:=
 if v0=true then (
  some 0)
 else (
  if decide (x0 < 128)=true then (
   some 1)
  else (
   if decide (x0 < 192)=true then (
    some 2)
   else (
    some 3)))
def Zv6 (x0:Int):Option Int:=
 if decide (x0 < 0)=true then (
  Ztt x0 true)
 else (
  Ztt x0 (decide (x0≥224)))
def Zs0 (x0:List Int) (x1:Int) (x2:Int):Option Bool:=
 (Zp7 x0).bind λr0=>
 if r0=true then (
  (Zbb x1 x2).bind λr1=>
  if r1=true then (
   (Jo x2).bind λr2=>
   some (decide (x1<=(Y8 (x0.length:Int) r2))))
  else (
   some false))
 else (
  some false)
def Zgr (x0:List Int) (x1:Int) (x2:Int) (x3:Int)  (k:Int->(List Int)->Int->Option (List Int×Bool)) (v0:Int) (v1:List Int) (v2:Int):Option (List Int×Bool):=
 (Jo x2).bind λr0=>
 if decide (v2 < r0)=true then (
  (idx v1 (Zs x1 v2)).bind λa0=>
  (Qc v1 (Zs x1 v2) (Za4 v0 256)).bind λy0=>
  k (Zss v0 256) y0 (Zs v2 1))
 else (
  some (v1,true))
def Zo8 (x0:List Int) (x1:Int) (x2:Int) (x3:Int)  : Nat->Int->(List Int)->Int->Option (List Int×Bool)
 | 0,_,_,_=>none
 | m+1,v0,v1,v2=>Zgr x0 x1 x2 x3  (Zo8 x0 x1 x2 x3  m) v0 v1 v2
def Zok (x0:List Int) (x1:Int) (x2:Int) (x3:Int)  (v1:List Int) (v3:Bool):Option (List Int×Bool):=
 if v3=true then (
  some (v1,false))
 else (
  Zo8 x0 x1 x2 x3 FU x3 v1 0)
def Zyy (x0:List Int) (x1:Int) (x2:Int) (x3:Int):Option (List Int×Bool):=
 (We 8 [] x0).bind λz0=>
 (Zs0 x0 x1 x2).bind λr1=>
 if (!r1)=true then (
  Zok x0 x1 x2 x3 z0 true)
 else (
  (Qr x2).bind λr2=>
  (Z5 x3 0 (Y8 r2 1)).bind λr3=>
  Zok x0 x1 x2 x3 z0 (!r3))
def Zkj (x0:Zo) (x1:Bool) (x2:Int) (x3:Int)  (vb0:Zo) (v0:Bool):Option (Zo×Int×Bool):=
 if v0=true then (
  (idx vb0.fifo 0).bind λa0=>
  (Zad vb0.fifo 1 (vb0.fifo.length:Int)).bind λs0=>
  some ({vb0 with fifo:=s0},a0,true))
 else (
  some (vb0,0,false))
def Zkk (x0:Zo) (x1:Bool) (x2:Int) (x3:Int)  (vb0:Zo) (v1:Bool):Option (Zo×Int×Bool):=
 if v1=true then (
  (We 8 vb0.fifo [x3]).bind λz0=>
  some ({vb0 with fifo:=z0},x3,true))
 else (
  if decide (x2=20)=true then (
   if (!x1)=true then (
    Zkj x0 x1 x2 x3 vb0 (decide ((vb0.fifo.length:Int) > 0)))
   else (
    Zkj x0 x1 x2 x3 vb0 false))
  else (
   Zkj x0 x1 x2 x3 vb0 false))
def Zqr (x0:Zo) (x1:Bool) (x2:Int) (x3:Int)  (vb0:Zo) (v2:Bool):Option (Zo×Int×Bool):=
 if v2=true then (
  some ({vb0 with timer:=x3},x3,true))
 else (
  if decide (x2=16)=true then (
   (Qr 2).bind λr0=>
   (nzI r0).bind λn0=>
   some ({vb0 with timer:=(Za4 (Zs vb0.timer 1) r0)},vb0.timer,true))
  else (
   if decide (x2=20)=true then (
    if x1=true then (
     Zkk x0 x1 x2 x3 vb0 (decide ((vb0.fifo.length:Int) < 4)))
    else (
     Zkk x0 x1 x2 x3 vb0 false))
   else (
    Zkk x0 x1 x2 x3 vb0 false)))
def Zqo (x0:Zo) (x1:Bool) (x2:Int) (x3:Int)  (vb0:Zo) (v3:Bool):Option (Zo×Int×Bool):=
 if v3=true then (
  (idx vb0.regs (Zss x2 4)).bind λa1=>
  (Qc vb0.regs (Zss x2 4) x3).bind λy0=>
  some ({vb0 with regs:=y0},x3,true))
 else (
  (Z5 x2 0 12).bind λr1=>
  if r1=true then (
   (idx vb0.regs (Zss x2 4)).bind λa2=>
   some (vb0,a2,true))
  else (
   if decide (x2=16)=true then (
    Zqr x0 x1 x2 x3 vb0 x1)
   else (
    Zqr x0 x1 x2 x3 vb0 false)))
def Zaf (x0:Zo) (x1:Bool) (x2:Int) (x3:Int)  (vb0:Zo) (v4:Bool):Option (Zo×Int×Bool):=
 if v4=true then (
  some (vb0,0,false))
 else (
  (Z5 x2 0 12).bind λr2=>
  if r2=true then (
   Zqo x0 x1 x2 x3 vb0 x1)
  else (
   Zqo x0 x1 x2 x3 vb0 false))
def Z2i (x0:Zo) (x1:Bool) (x2:Int) (x3:Int):Option (Zo×Int×Bool):=
 (Ztg x0).bind λr3=>
 (Zxb x0).bind λr4=>
 if (!r4)=true then (
  Zaf x0 x1 x2 x3 r3 true)
 else (
  if decide ((Za4 x2 4)≠0)=true then (
   Zaf x0 x1 x2 x3 r3 true)
  else (
   if x1=true then (
    (Qr 2).bind λr5=>
    (Z5 x3 0 (Y8 r5 1)).bind λr6=>
    Zaf x0 x1 x2 x3 r3 (!r6))
   else (
    Zaf x0 x1 x2 x3 r3 false)))
def Zgj (x0:List Int) (x1:Int) (x2:Int)  (k:Int->Int->Option (Int×Bool)) (v0:Int) (v1:Int):Option (Int×Bool):=
 if decide (v1≥0)=true then (
  (idx x0 (Zs x1 v1)).bind λa0=>
  k (Zs (Jw v0 256) a0) (Y8 v1 1))
 else (
  some (v0,true))
def Zo2 (x0:List Int) (x1:Int) (x2:Int)  : Nat->Int->Int->Option (Int×Bool)
 | 0,_,_=>none
 | m+1,v0,v1=>Zgj x0 x1 x2  (Zo2 x0 x1 x2  m) v0 v1
def Zx7 (x0:List Int) (x1:Int) (x2:Int):Option (Int×Bool):=
 (Zs0 x0 x1 x2).bind λr0=>
 if (!r0)=true then (
  some (0,false))
 else (
  (Jo x2).bind λr1=>
  Zo2 x0 x1 x2 FU 0 (Y8 r1 1))
def Zmh (x0:Zi) (x1:Bool) (x2:Int) (x3:Int) (x4:Int)  (vb0:Zi) (vb1:Zo) (v0:Int) (v1:Bool):Option (Zi×Int×Int):=
 if v1=true then (
  some ((Zi.mk vb0.mem vb1),v0,0))
 else (
  some (vb0,0,1))
def Zmf (x0:Zi) (x1:Bool) (x2:Int) (x3:Int) (x4:Int)  (vb2:Zi) (v2:Int) (v3:Bool):Option (Zi×Int×Int):=
 if v3=true then (
  if x1=true then (
   (Zyy x0.mem x2 x3 x4).bind λr0=>
   some ((Zi.mk r0.1 vb2.dev),x4,0))
  else (
   (Zx7 x0.mem x2 x3).bind λr1=>
   some (vb2,r1.1,0)))
 else (
  if decide (v2=3)=true then (
   (Z2i x0.dev x1 (Y8 x2 192) x4).bind λr2=>
   if decide (x3=2)=true then (
    Zmh x0 x1 x2 x3 x4 vb2 r2.1 r2.2.1 r2.2.2)
   else (
    Zmh x0 x1 x2 x3 x4 vb2 r2.1 r2.2.1 false))
  else (
   some (vb2,0,1)))
def K2 (x0:Zi) (x1:Bool) (x2:Int) (x3:Int) (x4:Int)  (vb2:Zi) (v4:Bool):Option (Zi×Int×Int):=
 if v4=true then (
  some (vb2,0,1))
 else (
  (Zv6 x2).bind λr3=>
  if decide (r3=1)=true then (
   Zmf x0 x1 x2 x3 x4 vb2 r3 (decide (r3=1)))
  else (
   Zmf x0 x1 x2 x3 x4 vb2 r3 (decide (r3=2))))
def Zpq (x0:Zi) (x1:Bool) (x2:Int) (x3:Int) (x4:Int):Option (Zi×Int×Int):=
 (Zs5 x0).bind λr4=>
 (Zpz x0).bind λr5=>
 if (!r5)=true then (
  K2 x0 x1 x2 x3 x4 r4 true)
 else (
  (Zbb x2 x3).bind λr6=>
  if (!r6)=true then (
   K2 x0 x1 x2 x3 x4 r4 true)
  else (
   if x1=true then (
    (Qr x3).bind λr7=>
    (Z5 x4 0 (Y8 r7 1)).bind λr8=>
    K2 x0 x1 x2 x3 x4 r4 (!r8))
   else (
    K2 x0 x1 x2 x3 x4 r4 false)))
def Zow (x0:Zb)  (vb0:Zb) (v0:Bool):Option (Zb×Bool):=
 if v0=true then (
  some (vb0,false))
 else (
  (Zc6 x0).bind λr0=>
  if decide ((Zs vb0.done 1)=r0)=true then (
   (Zad vb0.queue 1 (vb0.queue.length:Int)).bind λs0=>
   some ((Zb.mk s0 0 0 0 false false),true))
  else (
   some ((Zb.mk vb0.queue vb0.beat (Zs vb0.done 1) 0 false vb0.broken),true)))
def Zx9 (x0:Zb):Option (Zb×Bool):=
 (Zeh x0).bind λr1=>
 (Zbt x0).bind λr2=>
 if (!r2)=true then (
  Zow x0 r1 true)
 else (
  Zow x0 r1 (decide (x0.beat=x0.done)))
def Zdx (x0:Za) (x1:Zf)  (vb0:Za) (vb1:Zb) (vb2:Zm):Option Za:=
 (We 56 vb0.log [vb2]).bind λz0=>
 (Zx9 vb1).bind λr0=>
 (idx vb0.m x0.data_.who).bind λa0=>
 (Qc vb0.m x0.data_.who r0.1).bind λy0=>
 if decide (vb0.holder=x0.data_.who)=true then (
  if decide (r0.1.done=0)=true then (
   some {vb0 with m:=y0,holder:=(-1),held:=0,log:=z0})
  else (
   some {vb0 with m:=y0,log:=z0}))
 else (
  some {vb0 with m:=y0,log:=z0})
def Zqp (x0:Za) (x1:Zf):Option Za:=
 (idx x0.m x0.data_.who).bind λa1=>
 if decide (x0.data_.resp=2)=true then (
  (Qc x0.m x0.data_.who {a1 with tries:=(Zs a1.tries 1)}).bind λy1=>
  (Zky {x0 with m:=y1,data_:=Zh.z0} x0.data_).bind λr1=>
  some r1)
 else (
  if decide (x0.data_.resp=3)=true then (
   (Qc x0.m x0.data_.who {a1 with parted:=true}).bind λy2=>
   (Zvt x0.conf x1 x0.picks).bind λr2=>
   (idx x0.splits x0.data_.who).bind λa2=>
   (Qc x0.splits x0.data_.who r2).bind λy3=>
   (Zky {x0 with m:=y2,splits:=y3,data_:=Zh.z0} x0.data_).bind λr3=>
   some r3)
  else (
   (idx a1.queue 0).bind λa3=>
   (Zhc a1 x0.data_.beat).bind λr4=>
   if decide (x0.data_.resp=0)=true then (
    (Znw a3 x0.data_.beat).bind λr5=>
    (Zpq x0.model a3.write r4 a3.size r5).bind λr6=>
    Zdx x0 x1 {x0 with data_:=Zh.z0,model:=r6.1} a1 (Zm.mk x0.now x0.data_.who a3.write r4 a3.size r6.2.1 x0.data_.resp))
   else (
    Zdx x0 x1 {x0 with data_:=Zh.z0} a1 (Zm.mk x0.now x0.data_.who a3.write r4 a3.size 0 x0.data_.resp))))
def Zyt (x0:Zf) (x1:Int):Option Int:=
 (Zzk x0.says x1).bind λr0=>
 if decide (r0=2)=true then (
  some r0)
 else (
  if decide (r0=3)=true then (
   some r0)
  else (
   some 0))
def Zy0 (x0:Zk) (x1:Zf) (x2:Int):Option Int:=
 (Zzk x1.waits x2).bind λr0=>
 some (Zm5 0 (Zje x0.maxWait r0))
def Zff (x0:Za) (x1:Zf)  (vb0:Zh):Option Za:=
 some {x0 with addr:=Zh.z0,data_:=vb0,picks:=(Zs x0.picks 1)}
def Kk (x0:Za) (x1:Zf)  (vb0:Zh) (v0:Bool):Option Za:=
 if v0=true then (
  Zff x0 x1 {vb0 with resp:=3})
 else (
  Zff x0 x1 vb0)
def Zcp (x0:Za) (x1:Zf)  (vb0:Zh) (vb1:Zb) (v1:Int) (v2:Int):Option Za:=
 if (!vb1.broken)=true then (
  if decide (v2=3)=true then (
   if decide (v1=2)=true then (
    if (!vb1.parted)=true then (
     Kk x0 x1 vb0 (decide (x0.holder≠vb0.who)))
    else (
     Kk x0 x1 vb0 false))
   else (
    Kk x0 x1 vb0 false))
  else (
   Kk x0 x1 vb0 false))
 else (
  Kk x0 x1 vb0 false)
def Kj (x0:Za) (x1:Zf)  (vb0:Zh) (vb1:Zb) (v1:Int) (v2:Int) (v3:Bool):Option Za:=
 if v3=true then (
  Zcp x0 x1 {vb0 with resp:=2} vb1 v1 v2)
 else (
  Zcp x0 x1 vb0 vb1 v1 v2)
def Zcg (x0:Za) (x1:Zf)  (vb0:Zh) (vb1:Zb) (v1:Int) (v2:Int):Option Za:=
 if (!vb1.broken)=true then (
  if decide (v2=2)=true then (
   if decide (v1=1)=true then (
    Kj x0 x1 vb0 vb1 v1 v2 (decide (vb1.tries < x0.conf.maxRetry)))
   else (
    if decide (v1=2)=true then (
     Kj x0 x1 vb0 vb1 v1 v2 (decide (vb1.tries < x0.conf.maxRetry)))
    else (
     Kj x0 x1 vb0 vb1 v1 v2 false)))
  else (
   Kj x0 x1 vb0 vb1 v1 v2 false))
 else (
  Kj x0 x1 vb0 vb1 v1 v2 false)
def Zct (x0:Za) (x1:Zf)  (vb0:Zh) (vb1:Zb) (v1:Int) (v2:Int) (v4:Bool):Option Za:=
 if v4=true then (
  Zcg x0 x1 {vb0 with left:=(Zs vb0.left 2)} vb1 v1 v2)
 else (
  Zcg x0 x1 vb0 vb1 v1 v2)
def Zce (x0:Za) (x1:Zf)  (vb0:Zh) (vb1:Zb) (v1:Int) (v2:Int):Option Za:=
 if decide (v1=3)=true then (
  Zct x0 x1 vb0 vb1 v1 v2 (!vb1.broken))
 else (
  Zct x0 x1 vb0 vb1 v1 v2 false)
def Zck (x0:Za) (x1:Zf)  (vb2:Zb) (vb3:Zg) (v5:Int) (v1:Int) (v2:Int) (v6:Bool):Option Za:=
 if v6=true then (
  Zce x0 x1 {x0.addr with resp:=1} vb2 v1 v2)
 else (
  (Zy0 x0.conf x1 x0.picks).bind λr0=>
  (Znw vb3 x0.addr.beat).bind λr1=>
  (Zpq x0.model vb3.write v5 vb3.size r1).bind λr2=>
  Zce x0 x1 {x0.addr with left:=r0,resp:=r2.2.2} vb2 v1 v2)
def Zr0 (x0:Za) (x1:Zf):Option Za:=
 if (!x0.addr.live)=true then (
  some {x0 with addr:=Zh.z0})
 else (
  (idx x0.m x0.addr.who).bind λa0=>
  (idx a0.queue 0).bind λa1=>
  (Zhc a0 x0.addr.beat).bind λr3=>
  (Zv6 r3).bind λr4=>
  (Zyt x1 x0.picks).bind λr5=>
  if a0.broken=true then (
   Zck x0 x1 a0 a1 r3 r4 r5 true)
  else (
   Zck x0 x1 a0 a1 r3 r4 r5 (decide (r4=0))))
def Znz (x0:Zb):Option Bool:=
 (Zbt x0).bind λr0=>
 if r0=true then (
  (Zc6 x0).bind λr1=>
  some (decide (x0.beat < r1)))
 else (
  some false)
def Zc4 (x0:Zc) (x1:Zd)  (v0:Bool):Option (Zc×Bool):=
 if v0=true then (
  some (x0,false))
 else (
  some ((Zc.mk (Y8 x0.tokens 1) x0.count),true))
def Zox (x0:Zc) (x1:Zd):Option (Zc×Bool):=
 if (!x1.prio)=true then (
  Zc4 x0 x1 true)
 else (
  (Zfd x0 x1).bind λr0=>
  if (!r0)=true then (
   Zc4 x0 x1 true)
  else (
   Zc4 x0 x1 (decide (x0.tokens=0))))
def Zkb (x0:Zb)  (vb0:Zb) (v0:Bool):Option (Zb×Bool):=
 if v0=true then (
  some (vb0,false))
 else (
  some ({vb0 with beat:=(Zs vb0.beat 1)},true))
def Zsh (x0:Zb):Option (Zb×Bool):=
 (Zeh x0).bind λr0=>
 (Znz x0).bind λr1=>
 if (!r1)=true then (
  Zkb x0 r0 true)
 else (
  Zkb x0 r0 (decide (x0.beat=(Zs x0.done 2))))
def Zq9 (x0:Z2) (x1:Zk) (x2:List Bool)  (k:Int->Option (Z2×Int)) (v0:Int):Option (Z2×Int):=
 if decide (v0<=(x2.length:Int))=true then (
  (nzI (x2.length:Int)).bind λn0=>
  (idx x2 (Za4 (Zs x0.at_ v0) (x2.length:Int))).bind λa0=>
  if a0=true then (
   (Zke x1 (Za4 (Zs x0.at_ v0) (x2.length:Int))).bind λr0=>
   some ((Z2.mk (Za4 (Zs x0.at_ v0) (x2.length:Int)) (Y8 r0 1)),(Za4 (Zs x0.at_ v0) (x2.length:Int))))
  else (
   k (Zs v0 1)))
 else (
  some ((Z2.mk x0.at_ 0),(-1)))
def Zl9 (x0:Z2) (x1:Zk) (x2:List Bool)  : Nat->Int->Option (Z2×Int)
 | 0,_=>none
 | m+1,v0=>Zq9 x0 x1 x2  (Zl9 x0 x1 x2  m) v0
def Zl6 (x0:Z2) (x1:Zk) (x2:List Bool)  (v1:Bool):Option (Z2×Int):=
 if v1=true then (
  some ((Z2.mk x0.at_ (Y8 x0.credit 1)),x0.at_))
 else (
  Zl9 x0 x1 x2 FU 1)
def Zlr (x0:Z2) (x1:Zk) (x2:List Bool)  (v2:Bool):Option (Z2×Int):=
 if v2=true then (
  some (x0,(-1)))
 else (
  if decide (x0.credit > 0)=true then (
   (idx x2 x0.at_).bind λa1=>
   Zl6 x0 x1 x2 a1)
  else (
   Zl6 x0 x1 x2 false))
def Zwb (x0:Z2) (x1:Zk) (x2:List Bool):Option (Z2×Int):=
 (Zrl x0 x1).bind λr1=>
 if (!r1)=true then (
  Zlr x0 x1 x2 true)
 else (
  Zlr x0 x1 x2 (decide ((x2.length:Int)≠(x1.masters.length:Int))))
def Zkc (x0:Za) (k_L2:Za->Zh->(List Bool)->Int->Option Za) (vb0:Za) (vb1:Zh) (v0:List Bool) (v1:Int) (v2:Bool):Option Za:=
 if v2=true then (
  (idx vb0.buckets v1).bind λa0=>
  (idx vb0.conf.masters v1).bind λa1=>
  (Zox a0 a1).bind λr0=>
  (Qc vb0.buckets v1 r0.1).bind λy0=>
  k_L2 {vb0 with buckets:=y0} (Zh.mk false v1 0 false 1 0 0 false) v0 (Zs v1 1))
 else (
  k_L2 vb0 vb1 v0 (Zs v1 1))
def Zh3 (x0:Za)  (vb0:Za) (vb1:Zh) (vb2:Zb):Option Za:=
 (Zsh vb2).bind λr1=>
 (idx vb0.m vb1.who).bind λa2=>
 (Qc vb0.m vb1.who r1.1).bind λy1=>
 some {vb0 with m:=y1,last:=vb1.who,addr:=vb1}
def Zdu (x0:Za)  (vb0:Za) (vb1:Zh) (vb2:Zb) (v3:Bool):Option Za:=
 if v3=true then (
  Zh3 x0 {vb0 with holder:=vb1.who,held:=0} vb1 vb2)
 else (
  Zh3 x0 vb0 vb1 vb2)
def Zfb (x0:Za)  (vb0:Za) (vb1:Zh) (vb2:Zb):Option Za:=
 (idx vb2.queue 0).bind λa3=>
 if a3.lock=true then (
  if (!vb2.broken)=true then (
   Zdu x0 vb0 vb1 vb2 (decide (vb0.holder < 0)))
  else (
   Zdu x0 vb0 vb1 vb2 false))
 else (
  Zdu x0 vb0 vb1 vb2 false)
def Ji (x0:Za)  (vb0:Za) (vb1:Zh):Option Za:=
 if decide (vb1.who < 0)=true then (
  some vb0)
 else (
  (idx vb0.m vb1.who).bind λa4=>
  if decide (a4.beat=0)=true then (
   Zfb x0 vb0 {vb1 with live:=true,beat:=a4.beat,first:=true} a4)
  else (
   Zfb x0 vb0 {vb1 with live:=true,beat:=a4.beat,first:=(decide (vb0.last≠vb1.who))} a4))
def Zer (x0:Za)  (vb0:Za) (vb1:Zh) (v0:List Bool) (v4:Bool):Option Za:=
 if v4=true then (
  (Zwb vb0.arb vb0.conf v0).bind λr2=>
  Ji x0 {vb0 with arb:=r2.1} {vb1 with who:=r2.2,by_:=2})
 else (
  Ji x0 vb0 vb1)
def Zcq (x0:Za) (k_L2:Za->Zh->(List Bool)->Int->Option Za) (vb0:Za) (vb1:Zh) (v0:List Bool) (v1:Int) (v5:Bool):Option Za:=
 if v5=true then (
  (idx v0 v1).bind λa5=>
  if a5=true then (
   (idx vb0.buckets v1).bind λa6=>
   Zkc x0 k_L2 vb0 vb1 v0 v1 (decide (a6.tokens > 0)))
  else (
   Zkc x0 k_L2 vb0 vb1 v0 v1 false))
 else (
  if decide (vb1.who < 0)=true then (
   Zer x0 vb0 vb1 v0 (decide (vb0.holder < 0)))
  else (
   Zer x0 vb0 vb1 v0 false))
def J1 (x0:Za)  (k:Za->Zh->(List Bool)->Int->Option Za) (vb0:Za) (vb1:Zh) (v0:List Bool) (v1:Int):Option Za:=
 if decide (v1 < (vb0.m.length:Int))=true then (
  Zcq x0 k vb0 vb1 v0 v1 (decide (vb1.who < 0)))
 else (
  Zcq x0 k vb0 vb1 v0 v1 false)
def Zao (x0:Za)  : Nat->Za->Zh->(List Bool)->Int->Option Za
 | 0,_,_,_,_=>none
 | m+1,vb0,vb1,v0,v1=>J1 x0  (Zao x0  m) vb0 vb1 v0 v1
def Zkf (x0:Za)  (vb1:Zh) (v0:List Bool):Option Za:=
 Zao x0 FU x0 vb1 v0 0
def Zj2 (x0:Za)  (v0:List Bool) (v6:Bool):Option Za:=
 if v6=true then (
  Zkf x0 (Zh.mk false x0.holder 0 false 3 0 0 false) v0)
 else (
  Zkf x0 (Zh.mk false (-1) 0 false 0 0 0 false) v0)
def Zht (x0:Za)  (k:(List Bool)->Int->Option Za) (v0:List Bool) (v7:Int):Option Za:=
 if decide (v7 < (x0.m.length:Int))=true then (
  (idx x0.m v7).bind λa7=>
  (Znz a7).bind λr3=>
  if r3=true then (
   (idx x0.splits v7).bind λa8=>
   if decide (a8=0)=true then (
    if decide (x0.holder < 0)=true then (
     (We 1 v0 [true]).bind λz0=>
     k z0 (Zs v7 1))
    else (
     (We 1 v0 [decide (x0.holder=v7)]).bind λz0=>
     k z0 (Zs v7 1)))
   else (
    (We 1 v0 [false]).bind λz0=>
    k z0 (Zs v7 1)))
  else (
   (We 1 v0 [false]).bind λz0=>
   k z0 (Zs v7 1)))
 else (
  if decide (x0.holder≥0)=true then (
   (idx v0 x0.holder).bind λa9=>
   Zj2 x0 v0 a9)
  else (
   Zj2 x0 v0 false))
def Zjo (x0:Za)  : Nat->(List Bool)->Int->Option Za
 | 0,_,_=>none
 | m+1,v0,v7=>Zht x0  (Zjo x0  m) v0 v7
def Zsa (x0:Za):Option Za:=
 Zjo x0 FU [] 0
def Zdh (x0:Za) (x1:Zf)  (vb0:Za) (vb1:Zt):Option (Za×Zt):=
 some ({vb0 with now:=(Zs vb0.now 1)},vb1)
def Zdj (x0:Za) (x1:Zf)  (vb0:Za) (vb2:Zt):Option (Za×Zt):=
 (Zr0 vb0 x1).bind λr0=>
 (Zsa r0).bind λr1=>
 if r1.addr.live=true then (
  Zdh x0 x1 r1 {vb2 with got:=r1.addr.who})
 else (
  Zdh x0 x1 r1 vb2)
def J4 (x0:Za) (x1:Zf)  (vb0:Za) (vb2:Zt) (v0:Bool):Option (Za×Zt):=
 if v0=true then (
  (idx vb0.m vb0.holder).bind λa0=>
  (Qc vb0.m vb0.holder {a0 with broken:=true}).bind λy0=>
  Zdj x0 x1 {vb0 with m:=y0,holder:=(-1),held:=0} vb2)
 else (
  Zdj x0 x1 vb0 vb2)
def Q8 (x0:Za) (x1:Zf)  (vb0:Za) (vb2:Zt):Option (Za×Zt):=
 if vb2.ready=true then (
  if decide (vb0.holder≥0)=true then (
   J4 x0 x1 vb0 vb2 (decide (vb0.held≥vb0.conf.lockMost)))
  else (
   J4 x0 x1 vb0 vb2 false))
 else (
  Zdh x0 x1 vb0 vb2)
def J2 (x0:Za) (x1:Zf)  (vb0:Za) (vb2:Zt) (v1:Bool):Option (Za×Zt):=
 if v1=true then (
  if vb0.addr.live=true then (
   (Zky {vb0 with addr:=Zh.z0,data_:={vb0.data_ with second:=true}} vb0.addr).bind λr2=>
   Q8 x0 x1 r2 {vb2 with ready:=false,resp:=vb0.data_.resp})
  else (
   Q8 x0 x1 {vb0 with data_:={vb0.data_ with second:=true}} {vb2 with ready:=false,resp:=vb0.data_.resp}))
 else (
  if vb0.data_.live=true then (
   (Zqp vb0 x1).bind λr3=>
   Q8 x0 x1 r3 {vb2 with resp:=vb0.data_.resp})
  else (
   Q8 x0 x1 vb0 vb2))
def Zla (x0:Za) (x1:Zf)  (vb0:Za) (vb2:Zt) (v2:Bool):Option (Za×Zt):=
 if v2=true then (
  Q8 x0 x1 {vb0 with data_:={vb0.data_ with left:=(Y8 vb0.data_.left 1)}} {vb2 with ready:=false})
 else (
  if vb0.data_.live=true then (
   if decide (vb0.data_.resp≠0)=true then (
    J2 x0 x1 vb0 vb2 (!vb0.data_.second))
   else (
    J2 x0 x1 vb0 vb2 false))
  else (
   J2 x0 x1 vb0 vb2 false))
def J6 (x0:Za) (x1:Zf)  (vb0:Za) (vb2:Zt):Option (Za×Zt):=
 if vb0.data_.live=true then (
  Zla x0 x1 vb0 vb2 (decide (vb0.data_.left > 0)))
 else (
  Zla x0 x1 vb0 vb2 false)
def Zj8 (x0:Za) (x1:Zf)  (k:Za->Zt->Int->Option (Za×Zt)) (vb0:Za) (vb2:Zt) (v3:Int):Option (Za×Zt):=
 if decide (v3 < (vb0.m.length:Int))=true then (
  (idx vb0.splits v3).bind λa1=>
  (Qc vb0.splits v3 (Zm5 0 (Y8 a1 1))).bind λy1=>
  (idx vb0.buckets v3).bind λa2=>
  (idx vb0.conf.masters v3).bind λa3=>
  (Zoq a2 a3).bind λr4=>
  (Qc vb0.buckets v3 r4).bind λy2=>
  k {vb0 with buckets:=y2,splits:=y1} vb2 (Zs v3 1))
 else (
  if decide (vb0.holder≥0)=true then (
   J6 x0 x1 {vb0 with held:=(Zje vb0.conf.lockMost (Zs vb0.held 1))} vb2)
  else (
   J6 x0 x1 vb0 vb2))
def Zbd (x0:Za) (x1:Zf)  : Nat->Za->Zt->Int->Option (Za×Zt)
 | 0,_,_,_=>none
 | m+1,vb0,vb2,v3=>Zj8 x0 x1  (Zbd x0 x1  m) vb0 vb2 v3
def Zjl (x0:Za) (x1:Zf)  (k:Za->Zt->(List Zl)->Int->Option (Za×Zt)) (vb0:Za) (vb2:Zt) (v4:List Zl) (v5:Int):Option (Za×Zt):=
 if decide (v5 < (v4.length:Int))=true then (
  (idx v4 v5).bind λa4=>
  (Z5 a4.who 0 (Y8 (vb0.m.length:Int) 1)).bind λr5=>
  if r5=true then (
   (idx vb0.m a4.who).bind λa5=>
   (Zv2 a5 a4.req).bind λr6=>
   (Qc vb0.m a4.who r6.1).bind λy3=>
   k {vb0 with m:=y3} vb2 v4 (Zs v5 1))
  else (
   k vb0 vb2 v4 (Zs v5 1)))
 else (
  Zbd x0 x1 FU vb0 vb2 0)
def Zf7 (x0:Za) (x1:Zf)  : Nat->Za->Zt->(List Zl)->Int->Option (Za×Zt)
 | 0,_,_,_,_=>none
 | m+1,vb0,vb2,v4,v5=>Zjl x0 x1  (Zf7 x0 x1  m) vb0 vb2 v4 v5
def Zvj (x0:Za) (x1:Zf):Option (Za×Zt):=
 (Zp9 x0).bind λr7=>
 (Zwa r7).bind λr8=>
 (Zv7 x1 r7.now).bind λr9=>
 Zf7 x0 x1 FU r7 r8 r9 0
def Ybw (x0:Zf)  (k:Int->Int->Option Int) (v0:Int) (v1:Int):Option Int:=
 if decide (v1 < (x0.posts.length:Int))=true then (
  (idx x0.posts v1).bind λa0=>
  k (Zm5 v0 a0.at_) (Zs v1 1))
 else (
  some v0)
def Zj3 (x0:Zf)  : Nat->Int->Int->Option Int
 | 0,_,_=>none
 | m+1,v0,v1=>Ybw x0  (Zj3 x0  m) v0 v1
def Zse (x0:Zf):Option Int:=
 Zj3 x0 FU (-1) 0
def Zel (x0:Za) (x1:Zf) (k_L1:Za->Int->Option (Za×Int)) (vb0:Za) (v0:Int) (v1:Bool):Option (Za×Int):=
 if v1=true then (
  (Zvj vb0 x1).bind λr0=>
  k_L1 r0.1 (Zs v0 1))
 else (
  some (vb0,v0))
def Zg0 (x0:Za) (x1:Zf)  (k:Za->Int->Option (Za×Int)) (vb0:Za) (v0:Int):Option (Za×Int):=
 if decide (vb0.now < 4000)=true then (
  (Zv3 vb0).bind λr1=>
  if (!r1)=true then (
   Zel x0 x1 k vb0 v0 true)
  else (
   (Zse x1).bind λr2=>
   Zel x0 x1 k vb0 v0 (decide (vb0.now<=r2))))
 else (
  Zel x0 x1 k vb0 v0 false)
def Zcn (x0:Za) (x1:Zf)  : Nat->Za->Int->Option (Za×Int)
 | 0,_,_=>none
 | m+1,vb0,v0=>Zg0 x0 x1  (Zcn x0 x1  m) vb0 v0
def Zyg (x0:Za) (x1:Zf):Option (Za×Int):=
 (Zp9 x0).bind λr3=>
 (Zno x0).bind λr4=>
 if (!r4)=true then (
  some (r3,0))
 else (
  Zcn x0 x1 FU r3 0)
def Yu (x0:Int) (x1:Int) (x2:Int):Option Bool:=
 if decide (x1<=x0)=true then (
  some (decide (x0<=x2)))
 else (
  some false)
def Zux (x0:Zk)  (v0:Bool):Option Int:=
 if v0=true then (
  some 0)
 else (
  some (Jw (Zs x0.maxRetry 2) (Zs x0.maxWait 6)))
def Zsd (x0:Zk):Option Int:=
 (Yu x0.maxRetry 0 3).bind λr0=>
 if (!r0)=true then (
  Zux x0 true)
 else (
  (Yu x0.maxWait 0 3).bind λr1=>
  Zux x0 (!r1))
def Zs6 (x0:Zk):Option Int:=
 (Zsd x0).bind λr0=>
 if decide (r0=0)=true then (
  some 0)
 else (
  (Yu x0.lockMost 1 40).bind λr1=>
  if (!r1)=true then (
   some 0)
  else (
   (Zsd x0).bind λr2=>
   some (Zs (Jw 2 r2) x0.lockMost)))
def Zuv (x0:Zk)  (k:Int->Int->Option Int) (v0:Int) (v1:Int):Option Int:=
 if decide (v1 < (x0.masters.length:Int))=true then (
  (idx x0.masters v1).bind λa0=>
  if a0.prio=true then (
   k (Zs v0 1) (Zs v1 1))
  else (
   k v0 (Zs v1 1)))
 else (
  some v0)
def Zqs (x0:Zk)  : Nat->Int->Int->Option Int
 | 0,_,_=>none
 | m+1,v0,v1=>Zuv x0  (Zqs x0  m) v0 v1
def Z1k (x0:Zk):Option Int:=
 Zqs x0 FU 0 0
def Zn6 (x0:Zk):Option Int:=
 (Zs6 x0).bind λr0=>
 (Z1k x0).bind λr1=>
 some (Jw (Jw 2 r0) r1)
def Ztn (x0:Zd) (x1:Zk):Option Bool:=
 (Yu x0.weight 1 4).bind λr0=>
 if (!r0)=true then (
  some true)
 else (
  if x0.prio=true then (
   (Zn6 x1).bind λr1=>
   (Yu x0.every r1 1000).bind λr2=>
   if (!r2)=true then (
    some true)
   else (
    (Yu x0.cap 1 8).bind λr3=>
    some (!r3)))
  else (
   if decide (x0.every≠0)=true then (
    some true)
   else (
    some (decide (x0.cap≠0)))))
def W8 (x0:List Zd) (x1c0:Zk)  (k:Int->Option Int) (v0:Int):Option Int:=
 if decide (v0 < (x0.length:Int))=true then (
  (idx x0 v0).bind λa0=>
  (Ztn a0 x1c0).bind λr0=>
  if r0=true then (
   some v0)
  else (
   k (Zs v0 1)))
 else (
  some (-1))
def Y1 (x0:List Zd) (x1c0:Zk)  : Nat->Int->Option Int
 | 0,_=>none
 | m+1,v0=>W8 x0 x1c0  (Y1 x0 x1c0  m) v0
def Q0 (x0:List Zd) (x1c0:Zk):Option Int:=
 Y1 x0 x1c0 FU 0
def X8 (x0:List Zd) (x1c0:Zk):Option Bool:=
 (Q0 x0 x1c0).bind λr0=>
 some (decide (r0≥0))
def Zn4 (x0:Zk):Option Bool:=
 (Yu (x0.masters.length:Int) 1 4).bind λr0=>
 if (!r0)=true then (
  some false)
 else (
  (Yu x0.quantum 1 4).bind λr1=>
  if (!r1)=true then (
   some false)
  else (
   (Yu x0.maxSplit 1 12).bind λr2=>
   if (!r2)=true then (
    some false)
   else (
    (Zs6 x0).bind λr3=>
    if decide (r3=0)=true then (
     some false)
    else (
     (X8 x0.masters x0).bind λr4=>
     some (!r4)))))
def Zah (x0:List Zd):Option (List Zd):=We 32 [] x0
def Zvc (x0:Zk):Option Zk:=
 (Zah x0.masters).bind λr0=>
 some {x0 with masters:=r0}
def Zg9 (x0:Int):Option Int:=
 (Yu x0 0 3).bind λr0=>
 if (!r0)=true then (
  some 0)
 else (
  (idx [1,4,4,8] x0).bind λa0=>
  some a0)
def Zab (x0:Int):Option Int:=
 (Yu x0 0 2).bind λr0=>
 if (!r0)=true then (
  some 0)
 else (
  (nnI x0).bind λn0=>
  some (Yec 1 x0))
def Zhh (x0:Int) (x1:Int):Option Bool:=
 (Yu x1 0 2).bind λr0=>
 if r0=true then (
  if decide (x0≥0)=true then (
   (Zab x1).bind λr1=>
   (nzI r1).bind λn0=>
   some (decide ((Za4 x0 r1)=0)))
  else (
   some false))
 else (
  some false)
def Ze4 (x0:Int) (x1:Int) (x2:Int)  (v0:Bool):Option Int:=
 if v0=true then (
  some (-1))
 else (
  (Zab x1).bind λr0=>
  (Zab x1).bind λr1=>
  if decide (x2=2)=true then (
   (nzI (Jw 4 r1)).bind λn0=>
   if decide ((Za4 (Zs x0 r0) (Jw 4 r1))=0)=true then (
    some (Y8 (Zs x0 r0) (Jw 4 r1)))
   else (
    some (Zs x0 r0)))
  else (
   some (Zs x0 r0)))
def Zsw (x0:Int) (x1:Int) (x2:Int):Option Int:=
 (Zhh x0 x1).bind λr2=>
 if (!r2)=true then (
  Ze4 x0 x1 x2 true)
 else (
  if decide (x0≥512)=true then (
   Ze4 x0 x1 x2 true)
  else (
   (Zg9 x2).bind λr3=>
   Ze4 x0 x1 x2 (decide (r3=0))))
def Zb8 (x0:Int) (x1:Int) (x2:Int)  (k:Int->(List Int)->Int->Int->Option (List Int)) (v0:Int) (v1:List Int) (v2:Int) (v3:Int):Option (List Int):=
 if decide (v3 < v2)=true then (
  (Zsw v0 x1 x2).bind λr0=>
  if decide (r0 < 0)=true then (
   some [])
  else (
   (We 8 v1 [v0]).bind λz0=>
   k r0 z0 v2 (Zs v3 1)))
 else (
  some v1)
def Zf3 (x0:Int) (x1:Int) (x2:Int)  : Nat->Int->(List Int)->Int->Int->Option (List Int)
 | 0,_,_,_,_=>none
 | m+1,v0,v1,v2,v3=>Zb8 x0 x1 x2  (Zf3 x0 x1 x2  m) v0 v1 v2 v3
def Zip (x0:Int) (x1:Int) (x2:Int):Option (List Int):=
 (Zg9 x2).bind λr1=>
 Zf3 x0 x1 x2 FU x0 [] r1 0
def Zqy (x0:Int) (x1:Int) (x2:Int)  (k:(List Int)->Int->Int->Option Bool) (v0:List Int) (v1:Int) (v2:Int):Option Bool:=
 if decide (v2 < v1)=true then (
  (idx v0 v2).bind λa0=>
  (idx v0 0).bind λa1=>
  if decide ((Zss a0 64)≠(Zss a1 64))=true then (
   some false)
  else (
   k v0 v1 (Zs v2 1)))
 else (
  some (decide ((v0.length:Int) > 0)))
def Zly (x0:Int) (x1:Int) (x2:Int)  : Nat->(List Int)->Int->Int->Option Bool
 | 0,_,_,_=>none
 | m+1,v0,v1,v2=>Zqy x0 x1 x2  (Zly x0 x1 x2  m) v0 v1 v2
def Zvx (x0:Int) (x1:Int) (x2:Int):Option Bool:=
 (Zip x0 x1 x2).bind λr0=>
 Zly x0 x1 x2 FU r0 (r0.length:Int) 0
def Zpn (x0:Int):Option Int:=
 (Zab x0).bind λr0=>
 if decide (r0=0)=true then (
  some 0)
 else (
  (Zab x0).bind λr1=>
  (nnI (Jw 8 r1)).bind λn0=>
  some (Yec 1 (Jw 8 r1)))
def Zef (x0:Int) (x1:Int):Option Bool:=
 (Zpn x1).bind λr0=>
 (Yu x0 0 (Y8 r0 1)).bind λr1=>
 some r1
def Zwf (x0:Int) (x1:Zg):Option Bool:=
 (Zef x0 x1.size).bind λr0=>
 some (!r0)
def Zia (x0:List Int) (x1c0:Zg)  (k:Int->Option Int) (v0:Int):Option Int:=
 if decide (v0 < (x0.length:Int))=true then (
  (idx x0 v0).bind λa0=>
  (Zwf a0 x1c0).bind λr0=>
  if r0=true then (
   some v0)
  else (
   k (Zs v0 1)))
 else (
  some (-1))
def Ka (x0:List Int) (x1c0:Zg)  : Nat->Int->Option Int
 | 0,_=>none
 | m+1,v0=>Zia x0 x1c0  (Ka x0 x1c0  m) v0
def K7 (x0:List Int) (x1c0:Zg):Option Int:=
 Ka x0 x1c0 FU 0
def Wr (x0:List Int) (x1c0:Zg):Option Bool:=
 (K7 x0 x1c0).bind λr0=>
 some (decide (r0≥0))
def Zqd (x0:Zg)  (v0:Int):Option Bool:=
 (Zvx x0.addr x0.size x0.burst).bind λr0=>
 if r0=true then (
  if decide ((x0.data_.length:Int)=v0)=true then (
   (Wr x0.data_ x0).bind λr1=>
   some (!r1))
  else (
   some false))
 else (
  some false)
def Zwr (x0:Zg):Option Bool:=
 if x0.write=true then (
  (Zg9 x0.burst).bind λr2=>
  Zqd x0 r2)
 else (
  Zqd x0 0)
def Xc (x0:List Int):Option (List Int):=We 8 [] x0
def Zj6 (x0:Zg):Option Zg:=
 (Xc x0.data_).bind λr0=>
 some {x0 with data_:=r0}
def Yf4 (x0:Zb)  (k:(List Zg)->Int->Option Zb) (v0:List Zg) (v1:Int):Option Zb:=
 if decide (v1 < (x0.queue.length:Int))=true then (
  (idx x0.queue v1).bind λa0=>
  (Zj6 a0).bind λr0=>
  (We 64 v0 [r0]).bind λz0=>
  k z0 (Zs v1 1))
 else (
  some {x0 with queue:=v0})
def Zo1 (x0:Zb)  : Nat->(List Zg)->Int->Option Zb
 | 0,_,_=>none
 | m+1,v0,v1=>Yf4 x0  (Zo1 x0  m) v0 v1
def Zgw (x0:Zb):Option Zb:=
 Zo1 x0 FU [] 0
def Jt (x0:List Zc):Option (List Zc):=We 16 [] x0
def Zrz (x0:Zo):Option Zo:=
 (Xc x0.regs).bind λr0=>
 (Xc x0.fifo).bind λr1=>
 some (Zo.mk r0 x0.timer r1)
def Zil (x0:Zi):Option Zi:=
 (Xc x0.mem).bind λr0=>
 (Zrz x0.dev).bind λr1=>
 some (Zi.mk r0 r1)
def Zbh (x0:List Zm):Option (List Zm):=We 56 [] x0
def Zlo (x0:Za)  (k:Za->(List Zb)->Int->Option Za) (vb0:Za) (v0:List Zb) (v1:Int):Option Za:=
 if decide (v1 < (x0.m.length:Int))=true then (
  (idx x0.m v1).bind λa0=>
  (Zgw a0).bind λr0=>
  (We 56 v0 [r0]).bind λz0=>
  k vb0 z0 (Zs v1 1))
 else (
  (Jt vb0.buckets).bind λr1=>
  (Xc vb0.splits).bind λr2=>
  (Zil vb0.model).bind λr3=>
  (Zbh vb0.log).bind λr4=>
  some {vb0 with m:=v0,buckets:=r1,splits:=r2,model:=r3,log:=r4})
def Zh8 (x0:Za)  : Nat->Za->(List Zb)->Int->Option Za
 | 0,_,_,_=>none
 | m+1,vb0,v0,v1=>Zlo x0  (Zh8 x0  m) vb0 v0 v1
def Zr2 (x0:Za):Option Za:=
 (Zvc x0.conf).bind λr5=>
 Zh8 x0 FU {x0 with conf:=r5} [] 0
def Zge (x0:Zg):Option Bool:=
 (Zwr x0).bind λr0=>
 some (!r0)
def Zen (x0:List Zg)  (k:Int->Option Int) (v0:Int):Option Int:=
 if decide (v0 < (x0.length:Int))=true then (
  (idx x0 v0).bind λa0=>
  (Zge a0).bind λr0=>
  if r0=true then (
   some v0)
  else (
   k (Zs v0 1)))
 else (
  some (-1))
def W4 (x0:List Zg)  : Nat->Int->Option Int
 | 0,_=>none
 | m+1,v0=>Zen x0  (W4 x0  m) v0
def Qu (x0:List Zg):Option Int:=
 W4 x0 FU 0
def X2 (x0:List Zg):Option Bool:=
 (Qu x0).bind λr0=>
 some (decide (r0≥0))
def Zb1 (x0:Zb):Option Int:=
 if decide ((x0.queue.length:Int)=0)=true then (
  some 0)
 else (
  (idx x0.queue 0).bind λa0=>
  (Zg9 a0.burst).bind λr0=>
  some r0)
def Wu (x0:Zb)  (v0:Bool):Option Bool:=
 if v0=true then (
  some false)
 else (
  if decide ((x0.queue.length:Int)=0)=true then (
   if decide (x0.beat=0)=true then (
    if decide (x0.done=0)=true then (
     if decide (x0.tries=0)=true then (
      if (!x0.parted)=true then (
       some (!x0.broken))
      else (
       some false))
     else (
      some false))
    else (
     some false))
   else (
    some false))
  else (
   (Zb1 x0).bind λr0=>
   (Yu x0.done 0 (Y8 r0 1)).bind λr1=>
   if r1=true then (
    (Zb1 x0).bind λr2=>
    (Yu x0.beat x0.done (Zje (Zs x0.done 2) r2)).bind λr3=>
    some r3)
   else (
    some false)))
def Kq (x0:Zb):Option Bool:=
 if decide ((x0.queue.length:Int) > 4)=true then (
  Wu x0 true)
 else (
  if decide (x0.tries < 0)=true then (
   Wu x0 true)
  else (
   (X2 x0.queue).bind λr4=>
   Wu x0 r4))
def Zmq (x0:Zc) (x1:Zd):Option Bool:=
 if (!x1.prio)=true then (
  some (decide (x0.tokens=0)&&(decide (x0.count=0)&&true)))
 else (
  (Yu x0.tokens 0 x1.cap).bind λr0=>
  if r0=true then (
   if decide (x0.count≥0)=true then (
    some (decide (x0.count < x1.every)))
   else (
    some false))
  else (
   some false))
def Zb7 (x0:Za)  (k:Int->Option Bool) (v0:Int):Option Bool:=
 if decide (v0 < (x0.m.length:Int))=true then (
  (idx x0.m v0).bind λa0=>
  (Kq a0).bind λr0=>
  if (!r0)=true then (
   some false)
  else (
   if decide (a0.tries > x0.conf.maxRetry)=true then (
    some false)
   else (
    (idx x0.buckets v0).bind λa1=>
    (idx x0.conf.masters v0).bind λa2=>
    (Zmq a1 a2).bind λr1=>
    if (!r1)=true then (
     some false)
    else (
     (idx x0.splits v0).bind λa3=>
     (Yu a3 0 x0.conf.maxSplit).bind λr2=>
     if (!r2)=true then (
      some false)
     else (
      k (Zs v0 1))))))
 else (
  some true)
def Zhk (x0:Za)  : Nat->Int->Option Bool
 | 0,_=>none
 | m+1,v0=>Zb7 x0  (Zhk x0  m) v0
def Qt (x0:Za)  (v1:Bool):Option Bool:=
 if v1=true then (
  some false)
 else (
  Zhk x0 FU 0)
def Zg1 (x0:Za):Option Bool:=
 if decide ((x0.m.length:Int)≠(x0.conf.masters.length:Int))=true then (
  Qt x0 true)
 else (
  if decide ((x0.buckets.length:Int)≠(x0.conf.masters.length:Int))=true then (
   Qt x0 true)
  else (
   Qt x0 (decide ((x0.splits.length:Int)≠(x0.conf.masters.length:Int)))))
def Jh (x0:Zk) (x1:Int):Option Bool:=
 (Yu x1 0 (Y8 (x0.masters.length:Int) 1)).bind λr0=>
 some r0
def Zur (x0:Zk) (x1:Int)  (v0:Bool):Option Int:=
 if v0=true then (
  some 0)
 else (
  (idx x0.masters x1).bind λa0=>
  some (Jw a0.weight x0.quantum))
def Zpb (x0:Zk) (x1:Int):Option Int:=
 (Zn4 x0).bind λr0=>
 if (!r0)=true then (
  Zur x0 x1 true)
 else (
  (Jh x0 x1).bind λr1=>
  Zur x0 x1 (!r1))
def Znx (x0:Z2) (x1:Zk):Option Bool:=
 (Zn4 x1).bind λr0=>
 if r0=true then (
  (Jh x1 x0.at_).bind λr1=>
  if r1=true then (
   (Zpb x1 x0.at_).bind λr2=>
   (Yu x0.credit 0 r2).bind λr3=>
   some r3)
  else (
   some false))
 else (
  some false)
def Zya (x0:Int):Option Bool:=
 (Yu x0 0 255).bind λr0=>
 some (!r0)
def Zi0 (x0:List Int)  (k:Int->Option Int) (v0:Int):Option Int:=
 if decide (v0 < (x0.length:Int))=true then (
  (idx x0 v0).bind λa0=>
  (Zya a0).bind λr0=>
  if r0=true then (
   some v0)
  else (
   k (Zs v0 1)))
 else (
  some (-1))
def Kp (x0:List Int)  : Nat->Int->Option Int
 | 0,_=>none
 | m+1,v0=>Zi0 x0  (Kp x0  m) v0
def Jl (x0:List Int):Option Int:=
 Kp x0 FU 0
def Wz (x0:List Int):Option Bool:=
 (Jl x0).bind λr0=>
 some (decide (r0≥0))
def Zut (x0:List Int) (x1:Int) (x2:Int):Option Bool:=
 if decide ((x0.length:Int)<=512)=true then (
  (Wz x0).bind λr0=>
  if (!r0)=true then (
   (Zhh x1 x2).bind λr1=>
   if r1=true then (
    (Zab x2).bind λr2=>
    some (decide (x1<=(Y8 (x0.length:Int) r2))))
   else (
    some false))
  else (
   some false))
 else (
  some false)
def Zwe (x0:Int):Option Bool:=
 (Zef x0 2).bind λr0=>
 some (!r0)
def Zin (x0:List Int)  (k:Int->Option Int) (v0:Int):Option Int:=
 if decide (v0 < (x0.length:Int))=true then (
  (idx x0 v0).bind λa0=>
  (Zwe a0).bind λr0=>
  if r0=true then (
   some v0)
  else (
   k (Zs v0 1)))
 else (
  some (-1))
def Kb (x0:List Int)  : Nat->Int->Option Int
 | 0,_=>none
 | m+1,v0=>Zin x0  (Kb x0  m) v0
def K6 (x0:List Int):Option Int:=
 Kb x0 FU 0
def X0 (x0:List Int):Option Bool:=
 (K6 x0).bind λr0=>
 some (decide (r0≥0))
def Zwv (x0:Zo):Option Bool:=
 if decide ((x0.regs.length:Int)=4)=true then (
  if decide ((x0.fifo.length:Int)<=4)=true then (
   (X0 x0.regs).bind λr0=>
   if (!r0)=true then (
    (X0 x0.fifo).bind λr1=>
    if (!r1)=true then (
     (Zef x0.timer 2).bind λr2=>
     some r2)
    else (
     some false))
   else (
    some false))
  else (
   some false))
 else (
  some false)
def Zhb (x0:Zi):Option Bool:=
 if decide ((x0.mem.length:Int)=192)=true then (
  (Zut x0.mem 0 0).bind λr0=>
  if r0=true then (
   (Zwv x0.dev).bind λr1=>
   some r1)
  else (
   some false))
 else (
  some false)
def Zoy (x0:Zh):Option Bool:=
 some (!x0.live)
def Zfp (x0:List Zh)  (k:Int->Option Int) (v0:Int):Option Int:=
 if decide (v0 < (x0.length:Int))=true then (
  (idx x0 v0).bind λa0=>
  (Zoy a0).bind λr0=>
  if r0=true then (
   some v0)
  else (
   k (Zs v0 1)))
 else (
  some (-1))
def Qf (x0:List Zh)  : Nat->Int->Option Int
 | 0,_=>none
 | m+1,v0=>Zfp x0  (Qf x0  m) v0
def Q5 (x0:List Zh):Option Int:=
 Qf x0 FU 0
def Ze7 (x0:List Zh)  (k:(List Zh)->Int->Int->Option (List Zh)) (v0:List Zh) (v1:Int) (v2:Int):Option (List Zh):=
 if decide (v2 < (v0.length:Int))=true then (
  (idx v0 v2).bind λa0=>
  (Zoy a0).bind λr0=>
  if (!r0)=true then (
   (idx v0 v1).bind λa1=>
   (Qc v0 v1 a0).bind λy0=>
   k y0 (Zs v1 1) (Zs v2 1))
  else (
   k v0 v1 (Zs v2 1)))
 else (
  (Zad v0 v1 (v0.length:Int)).bind λs0=>
  (Z29 Zh.z0 v0 v1 (v0.length:Int)).bind λy1=>
  (Zad y1 0 v1).bind λs1=>
  some s1)
def W7 (x0:List Zh)  : Nat->(List Zh)->Int->Int->Option (List Zh)
 | 0,_,_,_=>none
 | m+1,v0,v1,v2=>Ze7 x0  (W7 x0  m) v0 v1 v2
def Wk (x0:List Zh):Option (List Zh):=
 (Q5 x0).bind λr1=>
 if decide (r1=(-1))=true then (
  some x0)
 else (
  W7 x0 FU x0 r1 (Zs r1 1))
def Zr4 (x0:Za):Option (List Zh):=
 (Wk [x0.addr,x0.data_]).bind λr0=>
 some r0
def Kr (x0:Za) (k_L1:(List Int)->(List Zh)->Int->Int->Option Bool) (vb0:Zh) (v0:List Int) (v1:List Zh) (v2:Int) (v3:Int) (v4:Bool):Option Bool:=
 if v4=true then (
  some false)
 else (
  (idx v0 vb0.who).bind λa0=>
  (Qc v0 vb0.who (Zs a0 1)).bind λy0=>
  k_L1 y0 v1 v2 (Zs v3 1))
def Qj (x0:Za)  (v5:Bool):Option Bool:=
 if v5=true then (
  some false)
 else (
  if (!x0.data_.second)=true then (
   some true)
  else (
   if decide (x0.data_.left=0)=true then (
    if decide (x0.data_.resp≠0)=true then (
     some (!x0.addr.live))
    else (
     some false))
   else (
    some false)))
def Zbn (x0:Za)  (vb1:Zb) (v6:Bool):Option Bool:=
 if v6=true then (
  some false)
 else (
  if decide (x0.data_.resp=3)=true then (
   if vb1.parted=true then (
    Qj x0 true)
   else (
    Qj x0 (decide (x0.data_.who=x0.holder))))
  else (
   Qj x0 false))
def Jx (x0:Za)  (vb1:Zb) (v7:Bool):Option Bool:=
 if v7=true then (
  some false)
 else (
  if decide (x0.data_.resp=2)=true then (
   Zbn x0 vb1 (decide (vb1.tries≥x0.conf.maxRetry)))
  else (
   Zbn x0 vb1 false))
def Xf (x0:Za)  (v8:Bool):Option Bool:=
 if v8=true then (
  some false)
 else (
  if (!x0.data_.live)=true then (
   some ((x0.data_.live == false)&&(decide (x0.data_.who=0)&&(decide (x0.data_.beat=0)&&((x0.data_.first == false)&&(decide (x0.data_.by_=0)&&(decide (x0.data_.left=0)&&(decide (x0.data_.resp=0)&&((x0.data_.second == false)&&true)))))))))
  else (
   (idx x0.m x0.data_.who).bind λa1=>
   if decide (x0.data_.beat≠a1.done)=true then (
    Jx x0 a1 true)
   else (
    (Yu x0.data_.left 0 (Zs x0.conf.maxWait 2)).bind λr0=>
    if (!r0)=true then (
     Jx x0 a1 true)
    else (
     (Yu x0.data_.resp 0 3).bind λr1=>
     Jx x0 a1 (!r1)))))
def Wo (x0:Za)  (k:(List Int)->Int->Option Bool) (v0:List Int) (v9:Int):Option Bool:=
 if decide (v9 < (x0.m.length:Int))=true then (
  (idx x0.m v9).bind λa2=>
  (idx v0 v9).bind λa3=>
  if decide ((Y8 a2.beat a2.done)≠a3)=true then (
   some false)
  else (
   k v0 (Zs v9 1)))
 else (
  if x0.addr.live=true then (
   (idx x0.m x0.addr.who).bind λa4=>
   if decide (x0.addr.beat≠(Y8 a4.beat 1))=true then (
    Xf x0 true)
   else (
    if decide (x0.addr.left≠0)=true then (
     Xf x0 true)
    else (
     if decide (x0.addr.resp≠0)=true then (
      Xf x0 true)
     else (
      if x0.addr.second=true then (
       Xf x0 true)
      else (
       if (!x0.addr.live)=true then (
        Xf x0 (!((x0.addr.live == false)&&(decide (x0.addr.who=0)&&(decide (x0.addr.beat=0)&&((x0.addr.first == false)&&(decide (x0.addr.by_=0)&&(decide (x0.addr.left=0)&&(decide (x0.addr.resp=0)&&((x0.addr.second == false)&&true))))))))))
       else (
        Xf x0 false))))))
  else (
   if (!x0.addr.live)=true then (
    Xf x0 (!((x0.addr.live == false)&&(decide (x0.addr.who=0)&&(decide (x0.addr.beat=0)&&((x0.addr.first == false)&&(decide (x0.addr.by_=0)&&(decide (x0.addr.left=0)&&(decide (x0.addr.resp=0)&&((x0.addr.second == false)&&true))))))))))
   else (
    Xf x0 false)))
def Zbj (x0:Za)  : Nat->(List Int)->Int->Option Bool
 | 0,_,_=>none
 | m+1,v0,v9=>Wo x0  (Zbj x0  m) v0 v9
def Wn (x0:Za)  (k:(List Int)->(List Zh)->Int->Int->Option Bool) (v0:List Int) (v1:List Zh) (v2:Int) (v3:Int):Option Bool:=
 if decide (v3 < v2)=true then (
  (idx v1 v3).bind λa5=>
  (Jh x0.conf a5.who).bind λr2=>
  if (!r2)=true then (
   Kr x0 k a5 v0 v1 v2 v3 true)
  else (
   (Yu a5.by_ 1 3).bind λr3=>
   if (!r3)=true then (
    Kr x0 k a5 v0 v1 v2 v3 true)
   else (
    (idx x0.splits a5.who).bind λa6=>
    Kr x0 k a5 v0 v1 v2 v3 (decide (a6≠0)))))
 else (
  Zbj x0 FU v0 0)
def Zd6 (x0:Za)  : Nat->(List Int)->(List Zh)->Int->Int->Option Bool
 | 0,_,_,_,_=>none
 | m+1,v0,v1,v2,v3=>Wn x0  (Zd6 x0  m) v0 v1 v2 v3
def Zch (x0:Za):Option Bool:=
 (mkI 8 (x0.m.length:Int) 0).bind λm0=>
 (Zr4 x0).bind λr4=>
 Zd6 x0 FU m0 r4 (r4.length:Int) 0
def Zro (x0:Zb):Option Bool:=
 if decide ((x0.queue.length:Int) > 0)=true then (
  (idx x0.queue 0).bind λa0=>
  if a0.lock=true then (
   some (!x0.broken))
  else (
   some false))
 else (
  some false)
def Zfk (x0:Za)  (k:Int->Option Bool) (v0:Int):Option Bool:=
 if decide (v0 < (x0.m.length:Int))=true then (
  (idx x0.m v0).bind λa0=>
  if decide (a0.beat > 0)=true then (
   (Zro a0).bind λr0=>
   if r0=true then (
    if decide (x0.holder≠v0)=true then (
     some false)
    else (
     k (Zs v0 1)))
   else (
    k (Zs v0 1)))
  else (
   k (Zs v0 1)))
 else (
  if decide (x0.holder=(-1))=true then (
   some (decide (x0.held=0)))
  else (
   (Jh x0.conf x0.holder).bind λr1=>
   if r1=true then (
    (idx x0.m x0.holder).bind λa1=>
    (Zro a1).bind λr2=>
    if r2=true then (
     (idx x0.splits x0.holder).bind λa2=>
     if decide (a2=0)=true then (
      (Yu x0.held 0 x0.conf.lockMost).bind λr3=>
      some r3)
     else (
      some false))
    else (
     some false))
   else (
    some false)))
def Zmw (x0:Za)  : Nat->Int->Option Bool
 | 0,_=>none
 | m+1,v0=>Zfk x0  (Zmw x0  m) v0
def Zep (x0:Za):Option Bool:=
 Zmw x0 FU 0
def Zdi (x0:Za)  (k:Int->Int->Option Bool) (v0:Int) (v1:Int):Option Bool:=
 if decide (v1 < (x0.log.length:Int))=true then (
  (idx x0.log v1).bind λa0=>
  if decide (a0.cycle<=v0)=true then (
   some false)
  else (
   if decide (a0.cycle≥x0.now)=true then (
    some false)
   else (
    (Jh x0.conf a0.who).bind λr0=>
    if (!r0)=true then (
     some false)
    else (
     (Zhh a0.addr a0.size).bind λr1=>
     if (!r1)=true then (
      some false)
     else (
      if decide (a0.addr≥512)=true then (
       some false)
      else (
       (Zef a0.value a0.size).bind λr2=>
       if (!r2)=true then (
        some false)
       else (
        if decide (a0.resp≠0)=true then (
         if decide (a0.resp≠1)=true then (
          some false)
         else (
          k a0.cycle (Zs v1 1)))
        else (
         k a0.cycle (Zs v1 1)))))))))
 else (
  some true)
def Zd5 (x0:Za)  : Nat->Int->Int->Option Bool
 | 0,_,_=>none
 | m+1,v0,v1=>Zdi x0  (Zd5 x0  m) v0 v1
def Zcl (x0:Za):Option Bool:=
 Zd5 x0 FU (-1) 0
def Zrj (x0:Za):Option Bool:=
 (Zn4 x0.conf).bind λr0=>
 if r0=true then (
  (Yu x0.now 0 4000).bind λr1=>
  if r1=true then (
   (Zg1 x0).bind λr2=>
   if r2=true then (
    (Znx x0.arb x0.conf).bind λr3=>
    if r3=true then (
     if decide (x0.last=(-1))=true then (
      (Zhb x0.model).bind λr4=>
      if r4=true then (
       (Yu x0.picks 0 x0.now).bind λr5=>
       if r5=true then (
        (Zch x0).bind λr6=>
        if r6=true then (
         (Zep x0).bind λr7=>
         if r7=true then (
          (Zcl x0).bind λr8=>
          some r8)
         else (
          some false))
        else (
         some false))
       else (
        some false))
      else (
       some false))
     else (
      (Jh x0.conf x0.last).bind λr9=>
      if r9=true then (
       (Zhb x0.model).bind λr4=>
       if r4=true then (
        (Yu x0.picks 0 x0.now).bind λr5=>
        if r5=true then (
         (Zch x0).bind λr6=>
         if r6=true then (
          (Zep x0).bind λr7=>
          if r7=true then (
           (Zcl x0).bind λr8=>
           some r8)
          else (
           some false))
         else (
          some false))
        else (
         some false))
       else (
        some false))
      else (
       some false)))
    else (
     some false))
   else (
    some false))
  else (
   some false))
 else (
  some false)
def Ybp (x0:Zf)  (k:Int->Int->Option Int) (v0:Int) (v1:Int):Option Int:=
 if decide (v1 < (x0.posts.length:Int))=true then (
  (idx x0.posts v1).bind λa0=>
  k (Zm5 v0 a0.at_) (Zs v1 1))
 else (
  some v0)
def Zja (x0:Zf)  : Nat->Int->Int->Option Int
 | 0,_,_=>none
 | m+1,v0,v1=>Ybp x0  (Zja x0  m) v0 v1
def Zt4 (x0:Zf):Option Int:=
 Zja x0 FU (-1) 0
def Zew (x0:Zb):Option Bool:=
 some (decide ((x0.queue.length:Int) > 0))
def Zfo (x0:List Zb)  (k:Int->Option Int) (v0:Int):Option Int:=
 if decide (v0 < (x0.length:Int))=true then (
  (idx x0 v0).bind λa0=>
  (Zew a0).bind λr0=>
  if r0=true then (
   some v0)
  else (
   k (Zs v0 1)))
 else (
  some (-1))
def X4 (x0:List Zb)  : Nat->Int->Option Int
 | 0,_=>none
 | m+1,v0=>Zfo x0  (X4 x0  m) v0
def Q4 (x0:List Zb):Option Int:=
 X4 x0 FU 0
def Qn (x0:List Zb):Option Bool:=
 (Q4 x0).bind λr0=>
 some (decide (r0≥0))
def Zos (x0:Za):Option Bool:=
 (Qn x0.m).bind λr0=>
 some (!r0)
def Zlp (x0:Zb) (x1:Int)  (v0:Bool):Option Int:=
 if v0=true then (
  some (-1))
 else (
  (idx x0.queue 0).bind λa0=>
  (Zip a0.addr a0.size a0.burst).bind λr0=>
  (idx r0 x1).bind λa1=>
  some a1)
def Zea (x0:Zb) (x1:Int):Option Int:=
 (Kq x0).bind λr1=>
 if (!r1)=true then (
  Zlp x0 x1 true)
 else (
  (Zb1 x0).bind λr2=>
  (Yu x1 0 (Y8 r2 1)).bind λr3=>
  Zlp x0 x1 (!r3))
def Zkh (x0:Zf) (x1:Int)  (k:(List Zl)->Int->Option (List Zl)) (v0:List Zl) (v1:Int):Option (List Zl):=
 if decide (v1 < (x0.posts.length:Int))=true then (
  (idx x0.posts v1).bind λa0=>
  if decide (a0.at_=x1)=true then (
   (Zj6 a0.req).bind λr0=>
   (We 80 v0 [{a0 with req:=r0}]).bind λz0=>
   k z0 (Zs v1 1))
  else (
   k v0 (Zs v1 1)))
 else (
  some v0)
def Zlu (x0:Zf) (x1:Int)  : Nat->(List Zl)->Int->Option (List Zl)
 | 0,_,_=>none
 | m+1,v0,v1=>Zkh x0 x1  (Zlu x0 x1  m) v0 v1
def Zwc (x0:Zf) (x1:Int):Option (List Zl):=
 Zlu x0 x1 FU [] 0
def Zf2 (x0:Zb) (x1:Zg)  (vb0:Zb) (v0:Bool):Option (Zb×Bool):=
 if v0=true then (
  some (vb0,false))
 else (
  (Zj6 x1).bind λr0=>
  (We 64 vb0.queue [r0]).bind λz0=>
  some ({vb0 with queue:=z0},true))
def Zvl (x0:Zb) (x1:Zg):Option (Zb×Bool):=
 (Zgw x0).bind λr1=>
 (Kq x0).bind λr2=>
 if (!r2)=true then (
  Zf2 x0 x1 r1 true)
 else (
  (Zwr x1).bind λr3=>
  if (!r3)=true then (
   Zf2 x0 x1 r1 true)
  else (
   Zf2 x0 x1 r1 (decide ((x0.queue.length:Int)=4))))
def Zo9 (x0:Zc) (x1:Zd):Option Bool:=
 if x1.prio=true then (
  (Zmq x0 x1).bind λr0=>
  some r0)
 else (
  some false)
def Zpa (x0:Zc) (x1:Zd):Option Zc:=
 (Zo9 x0 x1).bind λr0=>
 if (!r0)=true then (
  some x0)
 else (
  if decide ((Zs x0.count 1)=x1.every)=true then (
   some (Zc.mk (Zje (Zs x0.tokens 1) x1.cap) 0))
  else (
   some (Zc.mk x0.tokens (Zs x0.count 1))))
def Zll (x0:Zb)  (vb0:Zb) (v0:Bool):Option (Zb×Bool):=
 if v0=true then (
  some (vb0,false))
 else (
  some ({vb0 with beat:=(Y8 vb0.beat 1)},true))
def Zvf (x0:Zb):Option (Zb×Bool):=
 (Zgw x0).bind λr0=>
 (Kq x0).bind λr1=>
 if (!r1)=true then (
  Zll x0 r0 true)
 else (
  Zll x0 r0 (decide (x0.beat=x0.done)))
def Zo7 (x0:Zc) (x1:Zd):Option Zc:=
 (Zo9 x0 x1).bind λr0=>
 if r0=true then (
  if decide (x0.tokens < x1.cap)=true then (
   some (Zc.mk (Zs x0.tokens 1) x0.count))
  else (
   some x0))
 else (
  some x0)
def Zlz (x0:Z2) (x1:Zk) (x2:Int)  (v0:Bool):Option Z2:=
 if v0=true then (
  (Zpb x1 x2).bind λr0=>
  some (Z2.mk x0.at_ (Zje (Zs x0.credit 1) r0)))
 else (
  some x0)
def Zv5 (x0:Z2) (x1:Zk) (x2:Int):Option Z2:=
 (Znx x0 x1).bind λr1=>
 if r1=true then (
  Zlz x0 x1 x2 (decide (x2=x0.at_)))
 else (
  Zlz x0 x1 x2 false)
def Zeo (x0:Za) (x1:Zh):Option Za:=
 (idx x0.m x1.who).bind λa0=>
 (Zvf a0).bind λr0=>
 (Qc x0.m x1.who r0.1).bind λy0=>
 if decide (x1.by_=1)=true then (
  (idx x0.buckets x1.who).bind λa1=>
  (idx x0.conf.masters x1.who).bind λa2=>
  (Zo7 a1 a2).bind λr1=>
  (Qc x0.buckets x1.who r1).bind λy1=>
  some {x0 with m:=y0,buckets:=y1})
 else (
  if decide (x1.by_=2)=true then (
   (Zv5 x0.arb x0.conf x1.who).bind λr2=>
   some {x0 with m:=y0,arb:=r2})
  else (
   some {x0 with m:=y0}))
def Zl5 (x0:List Int) (x1:Int)  (v0:Bool):Option Int:=
 if v0=true then (
  some 0)
 else (
  (nzI (x0.length:Int)).bind λn0=>
  (idx x0 (Za4 x1 (x0.length:Int))).bind λa0=>
  some a0)
def Zk1 (x0:List Int) (x1:Int):Option Int:=
 if decide ((x0.length:Int)=0)=true then (
  Zl5 x0 x1 true)
 else (
  Zl5 x0 x1 (decide (x1 < 0)))
def Zvh (x0:Zk) (x1:Zf) (x2:Int):Option Int:=
 (Zk1 x1.waits x2).bind λr0=>
 some (Zm5 1 (Zje (Zs (Zm5 0 (Zje r0 99)) 1) x0.maxSplit))
def Zoi (x0:Zb) (x1:Int):Option Int:=
 (idx x0.queue 0).bind λa0=>
 if a0.write=true then (
  (idx a0.data_ x1).bind λa1=>
  some a1)
 else (
  some 0)
def Zl8 (x0:Int)  (v0:Bool):Option Int:=
 if v0=true then (
  some 0)
 else (
  if decide (x0 < 128)=true then (
   some 1)
  else (
   if decide (x0 < 192)=true then (
    some 2)
   else (
    some 3)))
def Zp3 (x0:Int):Option Int:=
 if decide (x0 < 0)=true then (
  Zl8 x0 true)
 else (
  Zl8 x0 (decide (x0≥224)))
def Zks (x0:Zo) (x1:Bool) (x2:Int) (x3:Int)  (vb0:Zo) (v0:Bool):Option (Zo×Int×Bool):=
 if v0=true then (
  some (vb0,0,false))
 else (
  if x1=true then (
   (idx vb0.regs (Zss x2 4)).bind λa0=>
   (Qc vb0.regs (Zss x2 4) x3).bind λy0=>
   some ({vb0 with regs:=y0},x3,true))
  else (
   (idx x0.regs (Zss x2 4)).bind λa1=>
   some (vb0,a1,true)))
def Zkp (x0:Zo) (x1:Bool) (x2:Int) (x3:Int)  (vb0:Zo) (v1:Bool):Option (Zo×Int×Bool):=
 if v1=true then (
  (idx x0.fifo 0).bind λa2=>
  (Zad x0.fifo 1 (x0.fifo.length:Int)).bind λs0=>
  (Xc s0).bind λr0=>
  some ({vb0 with fifo:=r0},a2,true))
 else (
  if decide (x2≥16)=true then (
   Zks x0 x1 x2 x3 vb0 true)
  else (
   if decide (x2 < 0)=true then (
    Zks x0 x1 x2 x3 vb0 true)
   else (
    Zks x0 x1 x2 x3 vb0 (decide ((Za4 x2 4)≠0)))))
def Zkm (x0:Zo) (x1:Bool) (x2:Int) (x3:Int)  (vb0:Zo) (v2:Bool):Option (Zo×Int×Bool):=
 if v2=true then (
  (We 8 vb0.fifo [x3]).bind λz0=>
  some ({vb0 with fifo:=z0},x3,true))
 else (
  if decide (x2=20)=true then (
   if (!x1)=true then (
    Zkp x0 x1 x2 x3 vb0 (decide ((x0.fifo.length:Int) > 0)))
   else (
    Zkp x0 x1 x2 x3 vb0 false))
  else (
   Zkp x0 x1 x2 x3 vb0 false))
def Zql (x0:Zo) (x1:Bool) (x2:Int) (x3:Int)  (vb0:Zo) (v3:Bool):Option (Zo×Int×Bool):=
 if v3=true then (
  some ({vb0 with timer:=x3},x3,true))
 else (
  if decide (x2=16)=true then (
   (Zpn 2).bind λr1=>
   (nzI r1).bind λn0=>
   some ({vb0 with timer:=(Za4 (Zs x0.timer 1) r1)},x0.timer,true))
  else (
   if decide (x2=20)=true then (
    if x1=true then (
     Zkm x0 x1 x2 x3 vb0 (decide ((x0.fifo.length:Int) < 4)))
    else (
     Zkm x0 x1 x2 x3 vb0 false))
   else (
    Zkm x0 x1 x2 x3 vb0 false)))
def Zdr (x0:Zo) (x1:Bool) (x2:Int) (x3:Int)  (vb0:Zo) (v4:Bool):Option (Zo×Int×Bool):=
 if v4=true then (
  some (vb0,0,false))
 else (
  if decide (x2=16)=true then (
   Zql x0 x1 x2 x3 vb0 x1)
  else (
   Zql x0 x1 x2 x3 vb0 false))
def Z1q (x0:Zo) (x1:Bool) (x2:Int) (x3:Int):Option (Zo×Int×Bool):=
 (Zrz x0).bind λr2=>
 (Zwv x0).bind λr3=>
 if (!r3)=true then (
  Zdr x0 x1 x2 x3 r2 true)
 else (
  if x1=true then (
   (Zef x3 2).bind λr4=>
   Zdr x0 x1 x2 x3 r2 (!r4))
  else (
   Zdr x0 x1 x2 x3 r2 false))
def Zgz (x0:List Int) (x1:Int) (x2:Int) (x3:Int)  (k:(List Int)->Int->Int->Option (List Int×Bool)) (v0:List Int) (v1:Int) (v2:Int):Option (List Int×Bool):=
 if decide (v2 < v1)=true then (
  (nnI (Jw 8 v2)).bind λn0=>
  (idx v0 (Zs x1 v2)).bind λa0=>
  (Qc v0 (Zs x1 v2) (andW (shrW x3 (Jw 8 v2)) 255)).bind λy0=>
  k y0 v1 (Zs v2 1))
 else (
  some (v0,true))
def Zol (x0:List Int) (x1:Int) (x2:Int) (x3:Int)  : Nat->(List Int)->Int->Int->Option (List Int×Bool)
 | 0,_,_,_=>none
 | m+1,v0,v1,v2=>Zgz x0 x1 x2 x3  (Zol x0 x1 x2 x3  m) v0 v1 v2
def Zo6 (x0:List Int) (x1:Int) (x2:Int) (x3:Int)  (v0:List Int) (v3:Bool):Option (List Int×Bool):=
 if v3=true then (
  some (v0,false))
 else (
  (Zab x2).bind λr0=>
  Zol x0 x1 x2 x3 FU v0 r0 0)
def Zx2 (x0:List Int) (x1:Int) (x2:Int) (x3:Int):Option (List Int×Bool):=
 (Xc x0).bind λr1=>
 (Zut x0 x1 x2).bind λr2=>
 if (!r2)=true then (
  Zo6 x0 x1 x2 x3 r1 true)
 else (
  (Zef x3 x2).bind λr3=>
  Zo6 x0 x1 x2 x3 r1 (!r3))
def Zgt (x0:List Int) (x1:Int) (x2:Int)  (k:Int->Int->Int->Option (Int×Bool)) (v0:Int) (v1:Int) (v2:Int):Option (Int×Bool):=
 if decide (v2 < v1)=true then (
  (idx x0 (Zs x1 v2)).bind λa0=>
  (nnI (Jw 8 v2)).bind λn0=>
  k (orW v0 (Yec a0 (Jw 8 v2))) v1 (Zs v2 1))
 else (
  some (v0,true))
def Zn9 (x0:List Int) (x1:Int) (x2:Int)  : Nat->Int->Int->Int->Option (Int×Bool)
 | 0,_,_,_=>none
 | m+1,v0,v1,v2=>Zgt x0 x1 x2  (Zn9 x0 x1 x2  m) v0 v1 v2
def Zyx (x0:List Int) (x1:Int) (x2:Int):Option (Int×Bool):=
 (Zut x0 x1 x2).bind λr0=>
 if (!r0)=true then (
  some (0,false))
 else (
  (Zab x2).bind λr1=>
  Zn9 x0 x1 x2 FU 0 r1 0)
def Zdn (x0:Zi) (x1:Bool) (x2:Int) (x3:Int) (x4:Int)  (vb0:Zi) (v0:Int) (v1:Bool):Option (Zi×Int×Int):=
 if (!v1)=true then (
  (Zil x0).bind λr0=>
  some (r0,0,1))
 else (
  some (vb0,v0,0))
def Zln (x0:Zi) (x1:Bool) (x2:Int) (x3:Int) (x4:Int)  (vb0:Zi) (v2:Bool):Option (Zi×Int×Int):=
 if v2=true then (
  if x1=true then (
   (Zx2 x0.mem x2 x3 x4).bind λr1=>
   Zdn x0 x1 x2 x3 x4 (Zi.mk r1.1 vb0.dev) x4 r1.2)
  else (
   (Zyx x0.mem x2 x3).bind λr2=>
   Zdn x0 x1 x2 x3 x4 vb0 r2.1 r2.2))
 else (
  Zdn x0 x1 x2 x3 x4 vb0 x4 false)
def Zme (x0:Zi) (x1:Bool) (x2:Int) (x3:Int) (x4:Int)  (vb0:Zi) (v3:Int) (v4:Bool):Option (Zi×Int×Int):=
 if v4=true then (
  (Z1q x0.dev x1 (Y8 x2 192) x4).bind λr3=>
  Zdn x0 x1 x2 x3 x4 (Zi.mk vb0.mem r3.1) r3.2.1 r3.2.2)
 else (
  if decide (v3=1)=true then (
   Zln x0 x1 x2 x3 x4 vb0 true)
  else (
   Zln x0 x1 x2 x3 x4 vb0 (decide (v3=2))))
def K3 (x0:Zi) (x1:Bool) (x2:Int) (x3:Int) (x4:Int)  (vb0:Zi) (v5:Bool):Option (Zi×Int×Int):=
 if v5=true then (
  some (vb0,0,1))
 else (
  (Zp3 x2).bind λr4=>
  if decide (r4=3)=true then (
   Zme x0 x1 x2 x3 x4 vb0 r4 (decide (x3=2)))
  else (
   Zme x0 x1 x2 x3 x4 vb0 r4 false))
def Zvy (x0:Zi) (x1:Bool) (x2:Int) (x3:Int) (x4:Int):Option (Zi×Int×Int):=
 (Zil x0).bind λr5=>
 (Zhb x0).bind λr6=>
 if (!r6)=true then (
  K3 x0 x1 x2 x3 x4 r5 true)
 else (
  (Zhh x2 x3).bind λr7=>
  if (!r7)=true then (
   K3 x0 x1 x2 x3 x4 r5 true)
  else (
   if x1=true then (
    (Zef x4 x3).bind λr8=>
    K3 x0 x1 x2 x3 x4 r5 (!r8))
   else (
    K3 x0 x1 x2 x3 x4 r5 false)))
def Zsf (x0:Za) (x1:Zh):Option (Zi×Int×Int):=
 (idx x0.m x1.who).bind λa0=>
 (idx a0.queue 0).bind λa1=>
 (Zea a0 x1.beat).bind λr0=>
 (Zoi a0 x1.beat).bind λr1=>
 (Zvy x0.model a1.write r0 a1.size r1).bind λr2=>
 some (r2.1,r2.2.1,r2.2.2)
def Zoh (x0:Zb)  (vb0:Zb) (v0:Bool):Option (Zb×Bool):=
 if v0=true then (
  some (vb0,false))
 else (
  (Zb1 {vb0 with done:=(Zs vb0.done 1)}).bind λr0=>
  if decide ((Zs vb0.done 1)=r0)=true then (
   (Zad vb0.queue 1 (vb0.queue.length:Int)).bind λs0=>
   some ((Zb.mk s0 0 0 0 false false),true))
  else (
   some ((Zb.mk vb0.queue vb0.beat (Zs vb0.done 1) 0 false vb0.broken),true)))
def Zyh (x0:Zb):Option (Zb×Bool):=
 (Zgw x0).bind λr1=>
 (Kq x0).bind λr2=>
 if (!r2)=true then (
  Zoh x0 r1 true)
 else (
  Zoh x0 r1 (decide (x0.beat=x0.done)))
def Zmr (x0:Za):Option Za:=
 some {x0 with holder:=(-1),held:=0}
def Zd1 (x0:Za) (x1:Zh)  (vb0:Za) (vb1:Zb):Option Za:=
 (idx vb0.m x1.who).bind λa0=>
 (Qc vb0.m x1.who vb1).bind λy0=>
 some {vb0 with m:=y0}
def Zd4 (x0:Za) (x1:Zh)  (vb0:Za) (vb1:Zb) (v0:Bool):Option Za:=
 if v0=true then (
  (Zmr vb0).bind λr0=>
  Zd1 x0 x1 r0 vb1)
 else (
  Zd1 x0 x1 vb0 vb1)
def Zbf (x0:Za) (x1:Zh)  (vb0:Za) (vb1:Zb) (vb2:Zm):Option Za:=
 (We 56 vb0.log [vb2]).bind λz0=>
 (Zyh vb1).bind λr1=>
 if decide (vb0.holder=x1.who)=true then (
  Zd4 x0 x1 {vb0 with log:=z0} r1.1 (decide ((r1.1.queue.length:Int) < (vb1.queue.length:Int))))
 else (
  Zd4 x0 x1 {vb0 with log:=z0} r1.1 false)
def Zjf (x0:Za) (x1:Zh):Option Za:=
 (idx x0.m x1.who).bind λa1=>
 (idx a1.queue 0).bind λa2=>
 (Zea a1 x1.beat).bind λr2=>
 if decide (x1.resp=0)=true then (
  (Zsf x0 x1).bind λr3=>
  Zbf x0 x1 {x0 with model:=r3.1} a1 (Zm.mk x0.now x1.who a2.write r2 a2.size r3.2.1 x1.resp))
 else (
  Zbf x0 x1 x0 a1 (Zm.mk x0.now x1.who a2.write r2 a2.size 0 x1.resp))
def Zgn (x0:Za) (x1:Zf) (x2:Zt)  (vb0:Za):Option (Bool×Za×Zt):=
 some (false,vb0,{x2 with resp:=x0.data_.resp})
def Zav (x0:Za) (x1:Zf) (x2:Zt)  (v0:Bool):Option (Bool×Za×Zt):=
 if v0=true then (
  if x0.addr.live=true then (
   (Zeo {x0 with data_:={x0.data_ with second:=true}} x0.addr).bind λr0=>
   Zgn x0 x1 x2 {r0 with addr:=Zh.z0})
  else (
   Zgn x0 x1 x2 {x0 with data_:={x0.data_ with second:=true}}))
 else (
  if decide (x0.data_.resp=2)=true then (
   (idx x0.m x0.data_.who).bind λa0=>
   (Qc x0.m x0.data_.who {a0 with tries:=(Zs a0.tries 1)}).bind λy0=>
   (Zeo {x0 with m:=y0,data_:=Zh.z0} x0.data_).bind λr1=>
   some (true,r1,{x2 with resp:=x0.data_.resp}))
  else (
   if decide (x0.data_.resp=3)=true then (
    (idx x0.m x0.data_.who).bind λa1=>
    (Qc x0.m x0.data_.who {a1 with parted:=true}).bind λy1=>
    (Zvh x0.conf x1 x0.picks).bind λr2=>
    (idx x0.splits x0.data_.who).bind λa2=>
    (Qc x0.splits x0.data_.who r2).bind λy2=>
    (Zeo {x0 with m:=y1,splits:=y2,data_:=Zh.z0} x0.data_).bind λr3=>
    some (true,r3,{x2 with resp:=x0.data_.resp}))
   else (
    (Zjf {x0 with data_:=Zh.z0} x0.data_).bind λr4=>
    some (true,r4,{x2 with resp:=x0.data_.resp}))))
def Zo4 (x0:Za) (x1:Zf) (x2:Zt):Option (Bool×Za×Zt):=
 if (!x0.data_.live)=true then (
  some (true,x0,x2))
 else (
  if decide (x0.data_.left > 0)=true then (
   some (false,{x0 with data_:={x0.data_ with left:=(Y8 x0.data_.left 1)}},x2))
  else (
   if decide (x0.data_.resp≠0)=true then (
    Zav x0 x1 x2 (!x0.data_.second))
   else (
    Zav x0 x1 x2 false)))
def Zyu (x0:Zk) (x1:Zf) (x2:Int):Option Int:=
 (Zk1 x1.waits x2).bind λr0=>
 some (Zm5 0 (Zje r0 x0.maxWait))
def Zys (x0:Zf) (x1:Int):Option Int:=
 (Zk1 x0.says x1).bind λr0=>
 if decide (r0=2)=true then (
  some r0)
 else (
  if decide (r0=3)=true then (
   some r0)
  else (
   some 0))
def Kd (x0:Za) (x1:Zf) (x2:Zh)  (vb0:Zb) (v0:Int) (v1:Int) (v2:Int) (v3:Int) (v4:Bool):Option (Int×Int):=
 if v4=true then (
  some (2,v2))
 else (
  if decide (v3=3)=true then (
   if decide (v0=2)=true then (
    if (!vb0.parted)=true then (
     if decide (x2.who≠x0.holder)=true then (
      some (3,v2))
     else (
      some (v1,v2)))
    else (
     some (v1,v2)))
   else (
    some (v1,v2)))
  else (
   some (v1,v2)))
def Zde (x0:Za) (x1:Zf) (x2:Zh)  (vb1:Zb) (v0:Int) (v1:Int) (v2:Int):Option (Int×Int):=
 (Zys x1 x0.picks).bind λr0=>
 if decide (r0=2)=true then (
  if decide (v0≠3)=true then (
   Kd x0 x1 x2 vb1 v0 v1 v2 r0 (decide (vb1.tries < x0.conf.maxRetry)))
  else (
   Kd x0 x1 x2 vb1 v0 v1 v2 r0 false))
 else (
  Kd x0 x1 x2 vb1 v0 v1 v2 r0 false)
def Jf (x0:Za) (x1:Zf) (x2:Zh)  (vb1:Zb) (v0:Int) (v5:Bool):Option (Int×Int):=
 if v5=true then (
  some (1,0))
 else (
  (Zsf x0 x2).bind λr1=>
  (Zyu x0.conf x1 x0.picks).bind λr2=>
  if decide (v0=3)=true then (
   Zde x0 x1 x2 vb1 v0 r1.2.2 (Zs r2 2))
  else (
   Zde x0 x1 x2 vb1 v0 r1.2.2 r2))
def Zn3 (x0:Za) (x1:Zf) (x2:Zh):Option (Int×Int):=
 (idx x0.m x2.who).bind λa0=>
 (Zea a0 x2.beat).bind λr3=>
 (Zp3 r3).bind λr4=>
 if a0.broken=true then (
  Jf x0 x1 x2 a0 r4 true)
 else (
  Jf x0 x1 x2 a0 r4 (decide (r4=0)))
def Znq (x0:Zb):Option Bool:=
 (Kq x0).bind λr0=>
 if r0=true then (
  (Zb1 x0).bind λr1=>
  some (decide (x0.beat < r1)))
 else (
  some false)
def Zgk (x0:Zc) (x1:Zd)  (v0:Bool):Option (Zc×Bool):=
 if v0=true then (
  some (x0,false))
 else (
  some ((Zc.mk (Y8 x0.tokens 1) x0.count),true))
def Zou (x0:Zc) (x1:Zd):Option (Zc×Bool):=
 (Zo9 x0 x1).bind λr0=>
 if (!r0)=true then (
  Zgk x0 x1 true)
 else (
  Zgk x0 x1 (decide (x0.tokens=0)))
def Zq4 (x0:Z2) (x1:Zk) (x2:List Bool)  (k:Int->Option (Z2×Int)) (v0:Int):Option (Z2×Int):=
 if decide (v0<=(x1.masters.length:Int))=true then (
  (nzI (x1.masters.length:Int)).bind λn0=>
  (idx x2 (Za4 (Zs x0.at_ v0) (x1.masters.length:Int))).bind λa0=>
  if a0=true then (
   (Zpb x1 (Za4 (Zs x0.at_ v0) (x1.masters.length:Int))).bind λr0=>
   some ((Z2.mk (Za4 (Zs x0.at_ v0) (x1.masters.length:Int)) (Y8 r0 1)),(Za4 (Zs x0.at_ v0) (x1.masters.length:Int))))
  else (
   k (Zs v0 1)))
 else (
  some ((Z2.mk x0.at_ 0),(-1)))
def Zlt (x0:Z2) (x1:Zk) (x2:List Bool)  : Nat->Int->Option (Z2×Int)
 | 0,_=>none
 | m+1,v0=>Zq4 x0 x1 x2  (Zlt x0 x1 x2  m) v0
def Zlj (x0:Z2) (x1:Zk) (x2:List Bool)  (v1:Bool):Option (Z2×Int):=
 if v1=true then (
  some ((Z2.mk x0.at_ (Y8 x0.credit 1)),x0.at_))
 else (
  Zlt x0 x1 x2 FU 1)
def Zlx (x0:Z2) (x1:Zk) (x2:List Bool)  (v2:Bool):Option (Z2×Int):=
 if v2=true then (
  some (x0,(-1)))
 else (
  if decide (x0.credit > 0)=true then (
   (idx x2 x0.at_).bind λa1=>
   Zlj x0 x1 x2 a1)
  else (
   Zlj x0 x1 x2 false))
def Zvb (x0:Z2) (x1:Zk) (x2:List Bool):Option (Z2×Int):=
 (Znx x0 x1).bind λr1=>
 if (!r1)=true then (
  Zlx x0 x1 x2 true)
 else (
  Zlx x0 x1 x2 (decide ((x2.length:Int)≠(x1.masters.length:Int))))
def Zdv (x0:Za)  (k:(List Bool)->Int->Int->Option (Int×Int×Za)) (v0:List Bool) (v1:Int) (v2:Int):Option (Int×Int×Za):=
 if decide (v2 < v1)=true then (
  (idx v0 v2).bind λa0=>
  if (!a0)=true then (
   k v0 v1 (Zs v2 1))
  else (
   (idx x0.buckets v2).bind λa1=>
   (idx x0.conf.masters v2).bind λa2=>
   (Zou a1 a2).bind λr0=>
   if r0.2=true then (
    (Qc x0.buckets v2 r0.1).bind λy0=>
    some (v2,1,{x0 with buckets:=y0}))
   else (
    k v0 v1 (Zs v2 1))))
 else (
  if decide (x0.holder≠(-1))=true then (
   some ((-1),0,x0))
  else (
   (Zvb x0.arb x0.conf v0).bind λr1=>
   some (r1.2,2,{x0 with arb:=r1.1})))
def Zez (x0:Za)  : Nat->(List Bool)->Int->Int->Option (Int×Int×Za)
 | 0,_,_,_=>none
 | m+1,v0,v1,v2=>Zdv x0  (Zez x0  m) v0 v1 v2
def Zi8 (x0:Za)  (v0:List Bool) (v3:Bool):Option (Int×Int×Za):=
 if v3=true then (
  some (x0.holder,3,x0))
 else (
  Zez x0 FU v0 (v0.length:Int) 0)
def Zh0 (x0:Za)  (k:(List Bool)->Int->Option (Int×Int×Za)) (v0:List Bool) (v4:Int):Option (Int×Int×Za):=
 if decide (v4 < (x0.m.length:Int))=true then (
  (idx x0.m v4).bind λa3=>
  (Znq a3).bind λr2=>
  if r2=true then (
   (idx x0.splits v4).bind λa4=>
   if decide (a4=0)=true then (
    if decide (x0.holder=(-1))=true then (
     (We 1 v0 [true]).bind λz0=>
     k z0 (Zs v4 1))
    else (
     (We 1 v0 [decide (x0.holder=v4)]).bind λz0=>
     k z0 (Zs v4 1)))
   else (
    (We 1 v0 [false]).bind λz0=>
    k z0 (Zs v4 1)))
  else (
   (We 1 v0 [false]).bind λz0=>
   k z0 (Zs v4 1)))
 else (
  if decide (x0.holder≠(-1))=true then (
   (idx v0 x0.holder).bind λa5=>
   Zi8 x0 v0 a5)
  else (
   Zi8 x0 v0 false))
def Zjh (x0:Za)  : Nat->(List Bool)->Int->Option (Int×Int×Za)
 | 0,_,_=>none
 | m+1,v0,v4=>Zh0 x0  (Zjh x0  m) v0 v4
def Zsm (x0:Za):Option (Int×Int×Za):=
 Zjh x0 FU [] 0
def Zj0 (x0:Zb)  (vb0:Zb) (v0:Bool):Option (Zb×Bool):=
 if v0=true then (
  some (vb0,false))
 else (
  some ({vb0 with beat:=(Zs vb0.beat 1)},true))
def Zr6 (x0:Zb):Option (Zb×Bool):=
 (Zgw x0).bind λr0=>
 (Znq x0).bind λr1=>
 if (!r1)=true then (
  Zj0 x0 r0 true)
 else (
  Zj0 x0 r0 (decide (x0.beat=(Zs x0.done 2))))
def Zhq (x0:Za)  (vb0:Za) (vb1:Zb) (v0:Int):Option (Int×Za):=
 (Zr6 vb1).bind λr0=>
 (idx vb0.m v0).bind λa0=>
 (Qc vb0.m v0 r0.1).bind λy0=>
 some (v0,{vb0 with m:=y0,last:=v0})
def Zhv (x0:Za)  (vb0:Za) (vb1:Zb) (v0:Int) (v1:Bool):Option (Int×Za):=
 if v1=true then (
  Zhq x0 {vb0 with holder:=v0,held:=0} vb1 v0)
 else (
  Zhq x0 vb0 vb1 v0)
def J0 (x0:Za)  (vb0:Za) (vb1:Zb) (v0:Int):Option (Int×Za):=
 (Zro vb1).bind λr1=>
 if r1=true then (
  Zhv x0 vb0 vb1 v0 (decide (vb0.holder=(-1))))
 else (
  Zhv x0 vb0 vb1 v0 false)
def Zqm (x0:Za):Option (Int×Za):=
 (Zsm x0).bind λr2=>
 if decide (r2.1 < 0)=true then (
  some ((-1),r2.2.2))
 else (
  (idx r2.2.2.m r2.1).bind λa1=>
  if decide (a1.beat=0)=true then (
   J0 x0 {r2.2.2 with addr:=(Zh.mk true r2.1 a1.beat true r2.2.1 0 0 false)} a1 r2.1)
  else (
   J0 x0 {r2.2.2 with addr:=(Zh.mk true r2.1 a1.beat (decide (r2.2.2.last≠r2.1)) r2.2.1 0 0 false)} a1 r2.1))
def Zet (x0:Za) (x1:Zf)  (vb0:Za) (vb1:Zt):Option (Zt×Za):=
 some (vb1,{vb0 with now:=(Zs vb0.now 1)})
def Zfg (x0:Za) (x1:Zf)  (vb0:Za) (vb1:Zt):Option (Zt×Za):=
 (Zqm vb0).bind λr0=>
 Zet x0 x1 r0.2 {vb1 with got:=r0.1}
def Zcm (x0:Za) (x1:Zf)  (vb0:Za) (vb2:Zt):Option (Zt×Za):=
 if vb0.addr.live=true then (
  (Zn3 vb0 x1 vb0.addr).bind λr1=>
  Zfg x0 x1 {vb0 with addr:=Zh.z0,data_:={vb0.addr with left:=r1.2,resp:=r1.1},picks:=(Zs vb0.picks 1)} vb2)
 else (
  Zfg x0 x1 vb0 vb2)
def Jg (x0:Za) (x1:Zf)  (vb0:Za) (vb2:Zt) (v0:Bool):Option (Zt×Za):=
 if v0=true then (
  (idx vb0.m vb0.holder).bind λa0=>
  (Qc vb0.m vb0.holder {a0 with broken:=true}).bind λy0=>
  (Zmr {vb0 with m:=y0}).bind λr2=>
  Zcm x0 x1 r2 vb2)
 else (
  Zcm x0 x1 vb0 vb2)
def Jc (x0:Za) (x1:Zf)  (vb0:Za) (vb2:Zt):Option (Zt×Za):=
 (Zo4 vb0 x1 vb2).bind λr3=>
 if r3.1=true then (
  if decide (r3.2.1.holder≠(-1))=true then (
   Jg x0 x1 r3.2.1 {r3.2.2 with ready:=r3.1} (decide (r3.2.1.held=r3.2.1.conf.lockMost)))
  else (
   Jg x0 x1 r3.2.1 {r3.2.2 with ready:=r3.1} false))
 else (
  Zet x0 x1 r3.2.1 {r3.2.2 with ready:=r3.1})
def Zhy (x0:Za) (x1:Zf)  (k:Za->Zt->Int->Int->Option (Zt×Za)) (vb0:Za) (vb2:Zt) (v1:Int) (v2:Int):Option (Zt×Za):=
 if decide (v2 < v1)=true then (
  (idx vb0.splits v2).bind λa1=>
  (Qc vb0.splits v2 (Zm5 (Y8 a1 1) 0)).bind λy1=>
  (idx vb0.buckets v2).bind λa2=>
  (idx vb0.conf.masters v2).bind λa3=>
  (Zpa a2 a3).bind λr4=>
  (Qc vb0.buckets v2 r4).bind λy2=>
  k {vb0 with buckets:=y2,splits:=y1} vb2 v1 (Zs v2 1))
 else (
  if decide (vb0.holder≠(-1))=true then (
   Jc x0 x1 {vb0 with held:=(Zje (Zs vb0.held 1) vb0.conf.lockMost)} vb2)
  else (
   Jc x0 x1 vb0 vb2))
def Zaq (x0:Za) (x1:Zf)  : Nat->Za->Zt->Int->Int->Option (Zt×Za)
 | 0,_,_,_,_=>none
 | m+1,vb0,vb2,v1,v2=>Zhy x0 x1  (Zaq x0 x1  m) vb0 vb2 v1 v2
def Zhu (x0:Za) (x1:Zf)  (k:Za->Zt->(List Zl)->Int->Int->Option (Zt×Za)) (vb0:Za) (vb2:Zt) (v3:List Zl) (v4:Int) (v5:Int):Option (Zt×Za):=
 if decide (v5 < v4)=true then (
  (idx v3 v5).bind λa4=>
  (Jh vb0.conf a4.who).bind λr5=>
  if r5=true then (
   (idx vb0.m a4.who).bind λa5=>
   (Zvl a5 a4.req).bind λr6=>
   (Qc vb0.m a4.who r6.1).bind λy3=>
   k {vb0 with m:=y3} vb2 v3 v4 (Zs v5 1))
  else (
   k vb0 vb2 v3 v4 (Zs v5 1)))
 else (
  Zaq x0 x1 FU vb0 vb2 (vb0.splits.length:Int) 0)
def Ze6 (x0:Za) (x1:Zf)  : Nat->Za->Zt->(List Zl)->Int->Int->Option (Zt×Za)
 | 0,_,_,_,_,_=>none
 | m+1,vb0,vb2,v3,v4,v5=>Zhu x0 x1  (Ze6 x0 x1  m) vb0 vb2 v3 v4 v5
def Zfc (x0:Za) (x1:Zf)  (vb2:Zt):Option (Zt×Za):=
 (Zwc x1 x0.now).bind λr7=>
 Ze6 x0 x1 FU x0 vb2 r7 (r7.length:Int) 0
def Zey (x0:Za) (x1:Zf)  (vb2:Zt):Option (Zt×Za):=
 if x0.data_.live=true then (
  (idx x0.m x0.data_.who).bind λa6=>
  (Zea a6 x0.data_.beat).bind λr8=>
  Zfc x0 x1 {vb2 with data_:=r8,from_:=x0.data_.who})
 else (
  Zfc x0 x1 vb2)
def Zig (x0:Za) (x1:Zf):Option (Zt×Za):=
 if x0.addr.live=true then (
  (idx x0.m x0.addr.who).bind λa7=>
  (Zea a7 x0.addr.beat).bind λr9=>
  if x0.addr.first=true then (
   Zey x0 x1 (Zt.mk x0.now r9 2 x0.addr.who (-1) (-1) true 0 (-1)))
  else (
   Zey x0 x1 (Zt.mk x0.now r9 3 x0.addr.who (-1) (-1) true 0 (-1))))
 else (
  Zey x0 x1 (Zt.mk x0.now (-1) 0 (-1) (-1) (-1) true 0 (-1)))
def Zic (x0:Za) (x1:Zf)  (vb0:Za):Option (Za×Int):=
 (Zr2 vb0).bind λr0=>
 some (r0,(Y8 vb0.now x0.now))
def Zgc (x0:Za) (x1:Zf)  (k:Za->Int->Option (Za×Int)) (vb1:Za) (v0:Int):Option (Za×Int):=
 if decide (vb1.now < 4000)=true then (
  (Zos vb1).bind λr1=>
  if (!r1)=true then (
   (Zig vb1 x1).bind λr2=>
   k r2.2 v0)
  else (
   if decide (vb1.now<=v0)=true then (
    (Zig vb1 x1).bind λr2=>
    k r2.2 v0)
   else (
    Zic x0 x1 vb1)))
 else (
  Zic x0 x1 vb1)
def Zci (x0:Za) (x1:Zf)  : Nat->Za->Int->Option (Za×Int)
 | 0,_,_=>none
 | m+1,vb1,v0=>Zgc x0 x1  (Zci x0 x1  m) vb1 v0
def Zx4 (x0:Za) (x1:Zf):Option (Za×Int):=
 (Zr2 x0).bind λr3=>
 (Zrj x0).bind λr4=>
 if (!r4)=true then (
  some (r3,0))
 else (
  (Zt4 x1).bind λr5=>
  Zci x0 x1 FU r3 r5)
def Zt8 (x0:Zm) (x1:Zm):Option Bool:=
 if decide (x0.cycle≠x1.cycle)=true then (
  some false)
 else (
  if decide (x0.who≠x1.who)=true then (
   some false)
  else (
   if (x0.write != x1.write)=true then (
    some false)
   else (
    if decide (x0.addr≠x1.addr)=true then (
     some false)
    else (
     if decide (x0.size≠x1.size)=true then (
      some false)
     else (
      if decide (x0.value≠x1.value)=true then (
       some false)
      else (
       if decide (x0.resp≠x1.resp)=true then (
        some false)
       else (
        some true)))))))
def Yez (x0:List Zm) (x1:List Zm)  (k:Int->Option Bool) (v0:Int):Option Bool:=
 if decide (v0 < (x0.length:Int))=true then (
  (idx x0 v0).bind λa0=>
  (idx x1 v0).bind λa1=>
  (Zt8 a0 a1).bind λr0=>
  if (!r0)=true then (
   some false)
  else (
   k (Zs v0 1)))
 else (
  some true)
def Zli (x0:List Zm) (x1:List Zm)  : Nat->Int->Option Bool
 | 0,_=>none
 | m+1,v0=>Yez x0 x1  (Zli x0 x1  m) v0
def Zu9 (x0:List Zm) (x1:List Zm):Option Bool:=
 if decide ((x0.length:Int)≠(x1.length:Int))=true then (
  some false)
 else (
  Zli x0 x1 FU 0)
def Zpl (x0:Zd) (x1:Zd):Option Bool:=
 if decide (x0.weight≠x1.weight)=true then (
  some false)
 else (
  if (x0.prio != x1.prio)=true then (
   some false)
  else (
   if decide (x0.every≠x1.every)=true then (
    some false)
   else (
    if decide (x0.cap≠x1.cap)=true then (
     some false)
    else (
     some true))))
def Ybu (x0:List Zd) (x1:List Zd)  (k:Int->Option Bool) (v0:Int):Option Bool:=
 if decide (v0 < (x0.length:Int))=true then (
  (idx x0 v0).bind λa0=>
  (idx x1 v0).bind λa1=>
  (Zpl a0 a1).bind λr0=>
  if (!r0)=true then (
   some false)
  else (
   k (Zs v0 1)))
 else (
  some true)
def Zjs (x0:List Zd) (x1:List Zd)  : Nat->Int->Option Bool
 | 0,_=>none
 | m+1,v0=>Ybu x0 x1  (Zjs x0 x1  m) v0
def Zte (x0:List Zd) (x1:List Zd):Option Bool:=
 if decide ((x0.length:Int)≠(x1.length:Int))=true then (
  some false)
 else (
  Zjs x0 x1 FU 0)
def Zyd (x0:Zk) (x1:Zk):Option Bool:=
 (Zte x0.masters x1.masters).bind λr0=>
 if (!r0)=true then (
  some false)
 else (
  if decide (x0.quantum≠x1.quantum)=true then (
   some false)
  else (
   if decide (x0.maxWait≠x1.maxWait)=true then (
    some false)
   else (
    if decide (x0.maxRetry≠x1.maxRetry)=true then (
     some false)
    else (
     if decide (x0.maxSplit≠x1.maxSplit)=true then (
      some false)
     else (
      if decide (x0.lockMost≠x1.lockMost)=true then (
       some false)
      else (
       some true))))))
def Zl3 (x0:List Int) (x1:List Int)  (k:Int->Option Bool) (v0:Int):Option Bool:=
 if decide (v0 < (x0.length:Int))=true then (
  (idx x0 v0).bind λa0=>
  (idx x1 v0).bind λa1=>
  if decide (a0≠a1)=true then (
   some false)
  else (
   k (Zs v0 1)))
 else (
  some true)
def Zoz (x0:List Int) (x1:List Int)  : Nat->Int->Option Bool
 | 0,_=>none
 | m+1,v0=>Zl3 x0 x1  (Zoz x0 x1  m) v0
def Zcw (x0:List Int) (x1:List Int):Option Bool:=
 if decide ((x0.length:Int)≠(x1.length:Int))=true then (
  some false)
 else (
  Zoz x0 x1 FU 0)
def Zrr (x0:Zg) (x1:Zg):Option Bool:=
 if (x0.write != x1.write)=true then (
  some false)
 else (
  if decide (x0.addr≠x1.addr)=true then (
   some false)
  else (
   if decide (x0.size≠x1.size)=true then (
    some false)
   else (
    if decide (x0.burst≠x1.burst)=true then (
     some false)
    else (
     if (x0.lock != x1.lock)=true then (
      some false)
     else (
      (Zcw x0.data_ x1.data_).bind λr0=>
      if (!r0)=true then (
       some false)
      else (
       some true))))))
def Yf2 (x0:List Zg) (x1:List Zg)  (k:Int->Option Bool) (v0:Int):Option Bool:=
 if decide (v0 < (x0.length:Int))=true then (
  (idx x0 v0).bind λa0=>
  (idx x1 v0).bind λa1=>
  (Zrr a0 a1).bind λr0=>
  if (!r0)=true then (
   some false)
  else (
   k (Zs v0 1)))
 else (
  some true)
def Zon (x0:List Zg) (x1:List Zg)  : Nat->Int->Option Bool
 | 0,_=>none
 | m+1,v0=>Yf2 x0 x1  (Zon x0 x1  m) v0
def Zx6 (x0:List Zg) (x1:List Zg):Option Bool:=
 if decide ((x0.length:Int)≠(x1.length:Int))=true then (
  some false)
 else (
  Zon x0 x1 FU 0)
def Z2m (x0:Zb) (x1:Zb):Option Bool:=
 (Zx6 x0.queue x1.queue).bind λr0=>
 if (!r0)=true then (
  some false)
 else (
  if decide (x0.beat≠x1.beat)=true then (
   some false)
  else (
   if decide (x0.done≠x1.done)=true then (
    some false)
   else (
    if decide (x0.tries≠x1.tries)=true then (
     some false)
    else (
     if (x0.parted != x1.parted)=true then (
      some false)
     else (
      if (x0.broken != x1.broken)=true then (
       some false)
      else (
       some true))))))
def Yfr (x0:List Zb) (x1:List Zb)  (k:Int->Option Bool) (v0:Int):Option Bool:=
 if decide (v0 < (x0.length:Int))=true then (
  (idx x0 v0).bind λa0=>
  (idx x1 v0).bind λa1=>
  (Z2m a0 a1).bind λr0=>
  if (!r0)=true then (
   some false)
  else (
   k (Zs v0 1)))
 else (
  some true)
def Zo3 (x0:List Zb) (x1:List Zb)  : Nat->Int->Option Bool
 | 0,_=>none
 | m+1,v0=>Yfr x0 x1  (Zo3 x0 x1  m) v0
def Zyw (x0:List Zb) (x1:List Zb):Option Bool:=
 if decide ((x0.length:Int)≠(x1.length:Int))=true then (
  some false)
 else (
  Zo3 x0 x1 FU 0)
def Z1p (x0:Z2) (x1:Z2):Option Bool:=
 if decide (x0.at_≠x1.at_)=true then (
  some false)
 else (
  if decide (x0.credit≠x1.credit)=true then (
   some false)
  else (
   some true))
def Zsx (x0:Zc) (x1:Zc):Option Bool:=
 if decide (x0.tokens≠x1.tokens)=true then (
  some false)
 else (
  if decide (x0.count≠x1.count)=true then (
   some false)
  else (
   some true))
def Z8g (x0:List Zc) (x1:List Zc)  (k:Int->Option Bool) (v0:Int):Option Bool:=
 if decide (v0 < (x0.length:Int))=true then (
  (idx x0 v0).bind λa0=>
  (idx x1 v0).bind λa1=>
  (Zsx a0 a1).bind λr0=>
  if (!r0)=true then (
   some false)
  else (
   k (Zs v0 1)))
 else (
  some true)
def Zhs (x0:List Zc) (x1:List Zc)  : Nat->Int->Option Bool
 | 0,_=>none
 | m+1,v0=>Z8g x0 x1  (Zhs x0 x1  m) v0
def Zqk (x0:List Zc) (x1:List Zc):Option Bool:=
 if decide ((x0.length:Int)≠(x1.length:Int))=true then (
  some false)
 else (
  Zhs x0 x1 FU 0)
def Zr8 (x0:Zh) (x1:Zh):Option Bool:=
 if (x0.live != x1.live)=true then (
  some false)
 else (
  if decide (x0.who≠x1.who)=true then (
   some false)
  else (
   if decide (x0.beat≠x1.beat)=true then (
    some false)
   else (
    if (x0.first != x1.first)=true then (
     some false)
    else (
     if decide (x0.by_≠x1.by_)=true then (
      some false)
     else (
      if decide (x0.left≠x1.left)=true then (
       some false)
      else (
       if decide (x0.resp≠x1.resp)=true then (
        some false)
       else (
        if (x0.second != x1.second)=true then (
         some false)
        else (
         some true))))))))
def Z72 (x0:Zo) (x1:Zo):Option Bool:=
 (Zcw x0.regs x1.regs).bind λr0=>
 if (!r0)=true then (
  some false)
 else (
  if decide (x0.timer≠x1.timer)=true then (
   some false)
  else (
   (Zcw x0.fifo x1.fifo).bind λr1=>
   if (!r1)=true then (
    some false)
   else (
    some true)))
def Zv1 (x0:Zi) (x1:Zi):Option Bool:=
 (Zcw x0.mem x1.mem).bind λr0=>
 if (!r0)=true then (
  some false)
 else (
  (Z72 x0.dev x1.dev).bind λr1=>
  if (!r1)=true then (
   some false)
  else (
   some true))
def Zrp (x0:Za) (x1:Za):Option Bool:=
 (Zyd x0.conf x1.conf).bind λr0=>
 if (!r0)=true then (
  some false)
 else (
  if decide (x0.now≠x1.now)=true then (
   some false)
  else (
   (Zyw x0.m x1.m).bind λr1=>
   if (!r1)=true then (
    some false)
   else (
    (Z1p x0.arb x1.arb).bind λr2=>
    if (!r2)=true then (
     some false)
    else (
     (Zqk x0.buckets x1.buckets).bind λr3=>
     if (!r3)=true then (
      some false)
     else (
      (Zcw x0.splits x1.splits).bind λr4=>
      if (!r4)=true then (
       some false)
      else (
       if decide (x0.holder≠x1.holder)=true then (
        some false)
       else (
        if decide (x0.held≠x1.held)=true then (
         some false)
        else (
         if decide (x0.last≠x1.last)=true then (
          some false)
         else (
          (Zr8 x0.addr x1.addr).bind λr5=>
          if (!r5)=true then (
           some false)
          else (
           (Zr8 x0.data_ x1.data_).bind λr6=>
           if (!r6)=true then (
            some false)
           else (
            (Zv1 x0.model x1.model).bind λr7=>
            if (!r7)=true then (
             some false)
            else (
             if decide (x0.picks≠x1.picks)=true then (
              some false)
             else (
              (Zu9 x0.log x1.log).bind λr8=>
              if (!r8)=true then (
               some false)
              else (
               some true))))))))))))))
def Zt7 (x0:Zl) (x1:Zl):Option Bool:=
 if decide (x0.at_≠x1.at_)=true then (
  some false)
 else (
  if decide (x0.who≠x1.who)=true then (
   some false)
  else (
   (Zrr x0.req x1.req).bind λr0=>
   if (!r0)=true then (
    some false)
   else (
    some true)))
def Ye8 (x0:List Zl) (x1:List Zl)  (k:Int->Option Bool) (v0:Int):Option Bool:=
 if decide (v0 < (x0.length:Int))=true then (
  (idx x0 v0).bind λa0=>
  (idx x1 v0).bind λa1=>
  (Zt7 a0 a1).bind λr0=>
  if (!r0)=true then (
   some false)
  else (
   k (Zs v0 1)))
 else (
  some true)
def Zmb (x0:List Zl) (x1:List Zl)  : Nat->Int->Option Bool
 | 0,_=>none
 | m+1,v0=>Ye8 x0 x1  (Zmb x0 x1  m) v0
def Zvp (x0:List Zl) (x1:List Zl):Option Bool:=
 if decide ((x0.length:Int)≠(x1.length:Int))=true then (
  some false)
 else (
  Zmb x0 x1 FU 0)
def Zs1 (x0:Zf) (x1:Zf):Option Bool:=
 (Zvp x0.posts x1.posts).bind λr0=>
 if (!r0)=true then (
  some false)
 else (
  (Zcw x0.waits x1.waits).bind λr1=>
  if (!r1)=true then (
   some false)
  else (
   (Zcw x0.says x1.says).bind λr2=>
   if (!r2)=true then (
    some false)
   else (
    some true)))
def Zgu (x0:List Zm) (x1:Int)  (k:Int->Int->Option Int) (v0:Int) (v1:Int):Option Int:=
 if decide (v1 < (x0.length:Int))=true then (
  (idx x0 v1).bind λa0=>
  if decide (a0.cycle≠v0)=true then (
   some (-1))
  else (
   if decide (a0.who≠(Zs v0 1))=true then (
    some (-1))
   else (
    if (a0.write != decide ((Za4 (Zs (Zs v0 1) 1) 3)=0))=true then (
     some (-1))
    else (
     if decide (a0.addr≠(Zs (Zs (Zs v0 1) 1) 1))=true then (
      some (-1))
     else (
      if decide (a0.size≠(Zs (Zs (Zs (Zs v0 1) 1) 1) 1))=true then (
       some (-1))
      else (
       if decide (a0.value≠(Zs (Zs (Zs (Zs (Zs v0 1) 1) 1) 1) 1))=true then (
        some (-1))
       else (
        if decide (a0.resp≠(Zs (Zs (Zs (Zs (Zs (Zs v0 1) 1) 1) 1) 1) 1))=true then (
         some (-1))
        else (
         k (Zs (Zs (Zs (Zs (Zs (Zs (Zs v0 1) 1) 1) 1) 1) 1) 1) (Zs v1 1)))))))))
 else (
  some v0)
def Zpi (x0:List Zm) (x1:Int)  : Nat->Int->Int->Option Int
 | 0,_,_=>none
 | m+1,v0,v1=>Zgu x0 x1  (Zpi x0 x1  m) v0 v1
def Zqt (x0:List Zm) (x1:Int):Option Int:=
 Zpi x0 x1 FU x1 0
def Zfl (x0:List Zd) (x1:Int)  (k:Int->Int->Option Int) (v0:Int) (v1:Int):Option Int:=
 if decide (v1 < (x0.length:Int))=true then (
  (idx x0 v1).bind λa0=>
  if decide (a0.weight≠v0)=true then (
   some (-1))
  else (
   if (a0.prio != decide ((Za4 (Zs v0 1) 3)=0))=true then (
    some (-1))
   else (
    if decide (a0.every≠(Zs (Zs v0 1) 1))=true then (
     some (-1))
    else (
     if decide (a0.cap≠(Zs (Zs (Zs v0 1) 1) 1))=true then (
      some (-1))
     else (
      k (Zs (Zs (Zs (Zs v0 1) 1) 1) 1) (Zs v1 1))))))
 else (
  some v0)
def Zns (x0:List Zd) (x1:Int)  : Nat->Int->Int->Option Int
 | 0,_,_=>none
 | m+1,v0,v1=>Zfl x0 x1  (Zns x0 x1  m) v0 v1
def Zo5 (x0:List Zd) (x1:Int):Option Int:=
 Zns x0 x1 FU x1 0
def Zzw (x0:Zk) (x1:Int):Option Int:=
 (Zo5 x0.masters x1).bind λr0=>
 if decide (r0 < 0)=true then (
  some (-1))
 else (
  some r0)
def Zh4 (x0:List Int) (x1:Int)  (k:Int->Int->Option Int) (v0:Int) (v1:Int):Option Int:=
 if decide (v1 < (x0.length:Int))=true then (
  (idx x0 v1).bind λa0=>
  if decide (a0≠v0)=true then (
   some (-1))
  else (
   k (Zs v0 1) (Zs v1 1)))
 else (
  some v0)
def Zrc (x0:List Int) (x1:Int)  : Nat->Int->Int->Option Int
 | 0,_,_=>none
 | m+1,v0,v1=>Zh4 x0 x1  (Zrc x0 x1  m) v0 v1
def Zc5 (x0:List Int) (x1:Int):Option Int:=
 Zrc x0 x1 FU x1 0
def Zhr (x0:List Zg) (x1:Int)  (k:Int->Int->Option Int) (v0:Int) (v1:Int):Option Int:=
 if decide (v1 < (x0.length:Int))=true then (
  (idx x0 v1).bind λa0=>
  if (a0.write != decide ((Za4 v0 3)=0))=true then (
   some (-1))
  else (
   if decide (a0.addr≠(Zs v0 1))=true then (
    some (-1))
   else (
    if decide (a0.size≠(Zs (Zs v0 1) 1))=true then (
     some (-1))
    else (
     if decide (a0.burst≠(Zs (Zs (Zs v0 1) 1) 1))=true then (
      some (-1))
     else (
      if (a0.lock != decide ((Za4 (Zs (Zs (Zs (Zs v0 1) 1) 1) 1) 3)=0))=true then (
       some (-1))
      else (
       (Zc5 a0.data_ (Zs (Zs (Zs (Zs (Zs v0 1) 1) 1) 1) 1)).bind λr0=>
       if decide (r0 < 0)=true then (
        some (-1))
       else (
        k r0 (Zs v1 1))))))))
 else (
  some v0)
def Zq7 (x0:List Zg) (x1:Int)  : Nat->Int->Int->Option Int
 | 0,_,_=>none
 | m+1,v0,v1=>Zhr x0 x1  (Zq7 x0 x1  m) v0 v1
def Ztb (x0:List Zg) (x1:Int):Option Int:=
 Zq7 x0 x1 FU x1 0
def Zhw (x0:List Zb) (x1:Int)  (k:Int->Int->Option Int) (v0:Int) (v1:Int):Option Int:=
 if decide (v1 < (x0.length:Int))=true then (
  (idx x0 v1).bind λa0=>
  (Ztb a0.queue v0).bind λr0=>
  if decide (r0 < 0)=true then (
   some (-1))
  else (
   if decide (a0.beat≠r0)=true then (
    some (-1))
   else (
    if decide (a0.done≠(Zs r0 1))=true then (
     some (-1))
    else (
     if decide (a0.tries≠(Zs (Zs r0 1) 1))=true then (
      some (-1))
     else (
      if (a0.parted != decide ((Za4 (Zs (Zs (Zs r0 1) 1) 1) 3)=0))=true then (
       some (-1))
      else (
       if (a0.broken != decide ((Za4 (Zs (Zs (Zs (Zs r0 1) 1) 1) 1) 3)=0))=true then (
        some (-1))
       else (
        k (Zs (Zs (Zs (Zs (Zs r0 1) 1) 1) 1) 1) (Zs v1 1))))))))
 else (
  some v0)
def Zrd (x0:List Zb) (x1:Int)  : Nat->Int->Int->Option Int
 | 0,_,_=>none
 | m+1,v0,v1=>Zhw x0 x1  (Zrd x0 x1  m) v0 v1
def Ztf (x0:List Zb) (x1:Int):Option Int:=
 Zrd x0 x1 FU x1 0
def Zd3 (x0:List Zc) (x1:Int)  (k:Int->Int->Option Int) (v0:Int) (v1:Int):Option Int:=
 if decide (v1 < (x0.length:Int))=true then (
  (idx x0 v1).bind λa0=>
  if decide (a0.tokens≠v0)=true then (
   some (-1))
  else (
   if decide (a0.count≠(Zs v0 1))=true then (
    some (-1))
   else (
    k (Zs (Zs v0 1) 1) (Zs v1 1))))
 else (
  some v0)
def Zk6 (x0:List Zc) (x1:Int)  : Nat->Int->Int->Option Int
 | 0,_,_=>none
 | m+1,v0,v1=>Zd3 x0 x1  (Zk6 x0 x1  m) v0 v1
def Zmg (x0:List Zc) (x1:Int):Option Int:=
 Zk6 x0 x1 FU x1 0
def Z3p (x0:Zo) (x1:Int):Option Int:=
 (Zc5 x0.regs x1).bind λr0=>
 if decide (r0 < 0)=true then (
  some (-1))
 else (
  (Zc5 x0.fifo r0).bind λr1=>
  if decide (r1 < 0)=true then (
   some (-1))
  else (
   some r1))
def Zxk (x0:Zi) (x1:Int):Option Int:=
 (Zc5 x0.mem x1).bind λr0=>
 if decide (r0 < 0)=true then (
  some (-1))
 else (
  (Z3p x0.dev r0).bind λr1=>
  if decide (r1 < 0)=true then (
   some (-1))
  else (
   some r1))
def Zp6 (x0:Za) (x1:Int):Option Int:=
 (Zzw x0.conf x1).bind λr0=>
 if decide (r0 < 0)=true then (
  some (-1))
 else (
  (Ztf x0.m r0).bind λr1=>
  if decide (r1 < 0)=true then (
   some (-1))
  else (
   (Zmg x0.buckets r1).bind λr2=>
   if decide (r2 < 0)=true then (
    some (-1))
   else (
    (Zc5 x0.splits r2).bind λr3=>
    if decide (r3 < 0)=true then (
     some (-1))
    else (
     (Zxk x0.model r3).bind λr4=>
     if decide (r4 < 0)=true then (
      some (-1))
     else (
      (Zqt x0.log r4).bind λr5=>
      if decide (r5 < 0)=true then (
       some (-1))
      else (
       some r5))))))
end Go.Proofs.YtagdmghmblplbaaGreat.Ev
namespace Go.Proofs.YtagdmghmblplbaaGreat.Ev
open Go Go.Proofs Go.RowKit
def Zd.enc (x:Zd):List V:=[.lit (.int .i64 x.weight),.lit (.bool x.prio),.lit (.int .i64 x.every),.lit (.int .i64 x.cap)]
theorem Zd.enc_len (x:Zd):(Zd.enc x).length=4:=rfl
theorem Zd.enc_lit (x:Zd):(Zd.enc x).all Zyc=true:=rfl
def Zk.enc (x:Zk):List V:=[.tr (x.masters.map Zd.enc),.lit (.int .i64 x.quantum),.lit (.int .i64 x.maxWait),.lit (.int .i64 x.maxRetry),.lit (.int .i64 x.maxSplit),.lit (.int .i64 x.lockMost)]
def Zg.enc (x:Zg):List V:=[.lit (.bool x.write),.lit (.int .i64 x.addr),.lit (.int .i64 x.size),.lit (.int .i64 x.burst),.lit (.bool x.lock),.tr (x.data_.map Ze)]
theorem Zg.enc_len (x:Zg):(Zg.enc x).length=6:=rfl
def Zl.enc (x:Zl):List V:=[.lit (.int .i64 x.at_),.lit (.int .i64 x.who),.lit (.bool x.req.write),.lit (.int .i64 x.req.addr),.lit (.int .i64 x.req.size),.lit (.int .i64 x.req.burst),.lit (.bool x.req.lock),.tr (x.req.data_.map Ze)]
theorem Zl.enc_len (x:Zl):(Zl.enc x).length=8:=rfl
def Zf.enc (x:Zf):List V:=[.tr (x.posts.map Zl.enc),.tr (x.waits.map Ze),.tr (x.says.map Ze)]
def Zb.enc (x:Zb):List V:=[.tr (x.queue.map Zg.enc),.lit (.int .i64 x.beat),.lit (.int .i64 x.done),.lit (.int .i64 x.tries),.lit (.bool x.parted),.lit (.bool x.broken)]
theorem Zb.enc_len (x:Zb):(Zb.enc x).length=6:=rfl
def Z2.enc (x:Z2):List V:=[.lit (.int .i64 x.at_),.lit (.int .i64 x.credit)]
def Zc.enc (x:Zc):List V:=[.lit (.int .i64 x.tokens),.lit (.int .i64 x.count)]
theorem Zc.enc_len (x:Zc):(Zc.enc x).length=2:=rfl
theorem Zc.enc_lit (x:Zc):(Zc.enc x).all Zyc=true:=rfl
def Zh.enc (x:Zh):List V:=[.lit (.bool x.live),.lit (.int .i64 x.who),.lit (.int .i64 x.beat),.lit (.bool x.first),.lit (.int .i64 x.by_),.lit (.int .i64 x.left),.lit (.int .i64 x.resp),.lit (.bool x.second)]
theorem Zh.enc_len (x:Zh):(Zh.enc x).length=8:=rfl
def Zo.enc (x:Zo):List V:=[.tr (x.regs.map Ze),.lit (.int .i64 x.timer),.tr (x.fifo.map Ze)]
def Zi.enc (x:Zi):List V:=[.tr (x.mem.map Ze),.tr (x.dev.regs.map Ze),.lit (.int .i64 x.dev.timer),.tr (x.dev.fifo.map Ze)]
def Zm.enc (x:Zm):List V:=[.lit (.int .i64 x.cycle),.lit (.int .i64 x.who),.lit (.bool x.write),.lit (.int .i64 x.addr),.lit (.int .i64 x.size),.lit (.int .i64 x.value),.lit (.int .i64 x.resp)]
theorem Zm.enc_len (x:Zm):(Zm.enc x).length=7:=rfl
theorem Zm.enc_lit (x:Zm):(Zm.enc x).all Zyc=true:=rfl
def Za.enc (x:Za):List V:=[.tr (x.conf.masters.map Zd.enc),.lit (.int .i64 x.conf.quantum),.lit (.int .i64 x.conf.maxWait),.lit (.int .i64 x.conf.maxRetry),.lit (.int .i64 x.conf.maxSplit),.lit (.int .i64 x.conf.lockMost),.lit (.int .i64 x.now),.tr (x.m.map Zb.enc),.lit (.int .i64 x.arb.at_),.lit (.int .i64 x.arb.credit),.tr (x.buckets.map Zc.enc),.tr (x.splits.map Ze),.lit (.int .i64 x.holder),.lit (.int .i64 x.held),.lit (.int .i64 x.last),.lit (.bool x.addr.live),.lit (.int .i64 x.addr.who),.lit (.int .i64 x.addr.beat),.lit (.bool x.addr.first),.lit (.int .i64 x.addr.by_),.lit (.int .i64 x.addr.left),.lit (.int .i64 x.addr.resp),.lit (.bool x.addr.second),.lit (.bool x.data_.live),.lit (.int .i64 x.data_.who),.lit (.int .i64 x.data_.beat),.lit (.bool x.data_.first),.lit (.int .i64 x.data_.by_),.lit (.int .i64 x.data_.left),.lit (.int .i64 x.data_.resp),.lit (.bool x.data_.second),.tr (x.model.mem.map Ze),.tr (x.model.dev.regs.map Ze),.lit (.int .i64 x.model.dev.timer),.tr (x.model.dev.fifo.map Ze),.lit (.int .i64 x.picks),.tr (x.log.map Zm.enc)]
def Zt.enc (x:Zt):List V:=[.lit (.int .i64 x.cycle),.lit (.int .i64 x.addr),.lit (.int .i64 x.kind),.lit (.int .i64 x.who),.lit (.int .i64 x.data_),.lit (.int .i64 x.from_),.lit (.bool x.ready),.lit (.int .i64 x.resp),.lit (.int .i64 x.got)]
def Za.ow (x:Za):List V:=[.own 150 (x.conf.masters.map Zd.enc),il x.conf.quantum,il x.conf.maxWait,il x.conf.maxRetry,il x.conf.maxSplit,il x.conf.lockMost,il x.now,.own 156 (x.m.map Zb.enc),il x.arb.at_,il x.arb.credit,.own 158 (x.buckets.map Zc.enc),.own 3 (x.splits.map Ze),il x.holder,il x.held,il x.last,bl x.addr.live,il x.addr.who,il x.addr.beat,bl x.addr.first,il x.addr.by_,il x.addr.left,il x.addr.resp,bl x.addr.second,bl x.data_.live,il x.data_.who,il x.data_.beat,bl x.data_.first,il x.data_.by_,il x.data_.left,il x.data_.resp,bl x.data_.second,.own 3 (x.model.mem.map Ze),.own 3 (x.model.dev.regs.map Ze),il x.model.dev.timer,.own 3 (x.model.dev.fifo.map Ze),il x.picks,.own 113 (x.log.map Zm.enc)]
def Za.rl (x:Za) (n:Nat):List V:=[.sl (1,n) 0 (x.conf.masters.map Zd.enc).length,il x.conf.quantum,il x.conf.maxWait,il x.conf.maxRetry,il x.conf.maxSplit,il x.conf.lockMost,il x.now,.sl (1,n+1) 0 (x.m.map Zb.enc).length,il x.arb.at_,il x.arb.credit,.sl (1,n+2) 0 (x.buckets.map Zc.enc).length,.sl (1,n+3) 0 (x.splits.map Ze).length,il x.holder,il x.held,il x.last,bl x.addr.live,il x.addr.who,il x.addr.beat,bl x.addr.first,il x.addr.by_,il x.addr.left,il x.addr.resp,bl x.addr.second,bl x.data_.live,il x.data_.who,il x.data_.beat,bl x.data_.first,il x.data_.by_,il x.data_.left,il x.data_.resp,bl x.data_.second,.sl (1,n+4) 0 (x.model.mem.map Ze).length,.sl (1,n+5) 0 (x.model.dev.regs.map Ze).length,il x.model.dev.timer,.sl (1,n+6) 0 (x.model.dev.fifo.map Ze).length,il x.picks,.sl (1,n+7) 0 (x.log.map Zm.enc).length]
def Za.bk (x:Za) (n:Nat):List (Id×Blk):=[((1,n),⟨false,true,true,150,(x.conf.masters.map Zd.enc)⟩),((1,n+1),⟨false,true,true,156,(x.m.map Zb.enc)⟩),((1,n+2),⟨false,true,true,158,(x.buckets.map Zc.enc)⟩),((1,n+3),⟨false,true,true,3,(x.splits.map Ze)⟩),((1,n+4),⟨false,true,true,3,(x.model.mem.map Ze)⟩),((1,n+5),⟨false,true,true,3,(x.model.dev.regs.map Ze)⟩),((1,n+6),⟨false,true,true,3,(x.model.dev.fifo.map Ze)⟩),((1,n+7),⟨false,true,true,113,(x.log.map Zm.enc)⟩)]
def Za.ff (n e b:Nat):List (Id×Id):=[((1,n),(e,b)),((1,n+1),(e,b+7)),((1,n+2),(e,b+10)),((1,n+3),(e,b+11)),((1,n+4),(e,b+31)),((1,n+5),(e,b+32)),((1,n+6),(e,b+34)),((1,n+7),(e,b+36))]
def Za.nm (x:Za):List O:=[.num (x.conf.masters.map Zd.enc).length 0 0 [],.num (x.m.map Zb.enc).length 0 0 [],.num (x.buckets.map Zc.enc).length 0 0 [],.num (x.splits.map Ze).length 0 0 [],.num (x.model.mem.map Ze).length 0 0 [],.num (x.model.dev.regs.map Ze).length 0 0 [],.num (x.model.dev.fifo.map Ze).length 0 0 [],.num (x.log.map Zm.enc).length 0 0 []]
theorem Za.so (x:Za) {q:List O} {p:Prop} (h:Scr q p):Scr q ((x.conf.masters.map Zd.enc).length=(x.conf.masters.map Zd.enc).length/\(x.m.map Zb.enc).length=(x.m.map Zb.enc).length/\(x.buckets.map Zc.enc).length=(x.buckets.map Zc.enc).length/\(x.splits.map Ze).length=(x.splits.map Ze).length/\(x.model.mem.map Ze).length=(x.model.mem.map Ze).length/\(x.model.dev.regs.map Ze).length=(x.model.dev.regs.map Ze).length/\(x.model.dev.fifo.map Ze).length=(x.model.dev.fifo.map Ze).length/\(x.log.map Zm.enc).length=(x.log.map Zm.enc).length/\p):=⟨rfl,rfl,rfl,rfl,rfl,rfl,rfl,rfl,h⟩
theorem Za.sc (x:Za) {q:List O} {p:Prop} (h:Scr q p):Scr (Za.nm x++q) ((x.conf.masters.map Zd.enc).length=(x.conf.masters.map Zd.enc).length/\(x.m.map Zb.enc).length=(x.m.map Zb.enc).length/\(x.buckets.map Zc.enc).length=(x.buckets.map Zc.enc).length/\(x.splits.map Ze).length=(x.splits.map Ze).length/\(x.model.mem.map Ze).length=(x.model.mem.map Ze).length/\(x.model.dev.regs.map Ze).length=(x.model.dev.regs.map Ze).length/\(x.model.dev.fifo.map Ze).length=(x.model.dev.fifo.map Ze).length/\(x.log.map Zm.enc).length=(x.log.map Zm.enc).length/\p):=⟨rfl,rfl,rfl,rfl,rfl,rfl,rfl,rfl,h⟩
def Zo.ow (x:Zo):List V:=[.own 3 (x.regs.map Ze),il x.timer,.own 3 (x.fifo.map Ze)]
def Zo.rl (x:Zo) (n:Nat):List V:=[.sl (1,n) 0 (x.regs.map Ze).length,il x.timer,.sl (1,n+1) 0 (x.fifo.map Ze).length]
def Zo.bk (x:Zo) (n:Nat):List (Id×Blk):=[((1,n),⟨false,true,true,3,(x.regs.map Ze)⟩),((1,n+1),⟨false,true,true,3,(x.fifo.map Ze)⟩)]
def Zo.ff (n e b:Nat):List (Id×Id):=[((1,n),(e,b)),((1,n+1),(e,b+2))]
def Zo.nm (x:Zo):List O:=[.num (x.regs.map Ze).length 0 0 [],.num (x.fifo.map Ze).length 0 0 []]
theorem Zo.so (x:Zo) {q:List O} {p:Prop} (h:Scr q p):Scr q ((x.regs.map Ze).length=(x.regs.map Ze).length/\(x.fifo.map Ze).length=(x.fifo.map Ze).length/\p):=⟨rfl,rfl,h⟩
theorem Zo.sc (x:Zo) {q:List O} {p:Prop} (h:Scr q p):Scr (Zo.nm x++q) ((x.regs.map Ze).length=(x.regs.map Ze).length/\(x.fifo.map Ze).length=(x.fifo.map Ze).length/\p):=⟨rfl,rfl,h⟩
def Zi.ow (x:Zi):List V:=[.own 3 (x.mem.map Ze),.own 3 (x.dev.regs.map Ze),il x.dev.timer,.own 3 (x.dev.fifo.map Ze)]
def Zi.rl (x:Zi) (n:Nat):List V:=[.sl (1,n) 0 (x.mem.map Ze).length,.sl (1,n+1) 0 (x.dev.regs.map Ze).length,il x.dev.timer,.sl (1,n+2) 0 (x.dev.fifo.map Ze).length]
def Zi.bk (x:Zi) (n:Nat):List (Id×Blk):=[((1,n),⟨false,true,true,3,(x.mem.map Ze)⟩),((1,n+1),⟨false,true,true,3,(x.dev.regs.map Ze)⟩),((1,n+2),⟨false,true,true,3,(x.dev.fifo.map Ze)⟩)]
def Zi.ff (n e b:Nat):List (Id×Id):=[((1,n),(e,b)),((1,n+1),(e,b+1)),((1,n+2),(e,b+3))]
def Zi.nm (x:Zi):List O:=[.num (x.mem.map Ze).length 0 0 [],.num (x.dev.regs.map Ze).length 0 0 [],.num (x.dev.fifo.map Ze).length 0 0 []]
theorem Zi.so (x:Zi) {q:List O} {p:Prop} (h:Scr q p):Scr q ((x.mem.map Ze).length=(x.mem.map Ze).length/\(x.dev.regs.map Ze).length=(x.dev.regs.map Ze).length/\(x.dev.fifo.map Ze).length=(x.dev.fifo.map Ze).length/\p):=⟨rfl,rfl,rfl,h⟩
theorem Zi.sc (x:Zi) {q:List O} {p:Prop} (h:Scr q p):Scr (Zi.nm x++q) ((x.mem.map Ze).length=(x.mem.map Ze).length/\(x.dev.regs.map Ze).length=(x.dev.regs.map Ze).length/\(x.dev.fifo.map Ze).length=(x.dev.fifo.map Ze).length/\p):=⟨rfl,rfl,rfl,h⟩
def Zf.ow (x:Zf):List V:=[.own 106 (x.posts.map Zl.enc),.own 3 (x.waits.map Ze),.own 3 (x.says.map Ze)]
def ffi (n:Nat):Nat->List (Id×Id)
 | 0=>[]
 | m+1=>((1,n),(1,n))::ffi (n+1) m
abbrev bx (n:Nat) (r:List V):Id×Blk:=((1,n),⟨true,true,true,0,[r]⟩)
abbrev rx (n t:Nat) (R:List (List V)):Id×Blk:=((1,n),⟨false,true,true,t,R⟩)
end Go.Proofs.YtagdmghmblplbaaGreat.Ev
