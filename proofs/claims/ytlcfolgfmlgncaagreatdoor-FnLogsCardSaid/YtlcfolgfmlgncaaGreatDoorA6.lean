/- A part of the proof of FnLogs: see the text YtlcfolgfmlgncaaGreatDoorLawFnLogs for what is proved and its conditions. Conditions here: those in each line. -/
import Derived.Test.YtlcfolgfmlgncaaGreatDoorA5
namespace Go.Proofs.YtlcfolgfmlgncaaGreatDoor.Ev
open Go Go.Proofs
set_option linter.unusedVariables false
set_option linter.unusedSimpArgs false
theorem Zip {n:Int} (h1:-9223372036854775808≤n) (h2:n < 9223372036854775808):IntKind.i64.wrap n=n:=w64_of h1 h2
theorem Zp {a b:Int} (h1:-9223372036854775808≤a+b) (h2:a+b < 9223372036854775808):addW a b=a+b:=Zip h1 h2
theorem Y0 {a b:Int} (h1:-9223372036854775808≤a - b) (h2:a - b < 9223372036854775808):subW a b=a - b:=Zip h1 h2
theorem W5 {a b:Int} (h1:-9223372036854775808≤a*b) (h2:a*b < 9223372036854775808):mulW a b=a*b:=Zip h1 h2
theorem Z3 {k:Nat} (h:k < 4611686018427387904):addW (k:Int) 1=((k+1:Nat):Int):=by rw[Zp (by omega) (by omega)];rfl
section
variable {α β σ ρ:Type}
theorem Zt {xs:List α} {k:Nat} (h:k < xs.length):idx xs (k:Int)=some xs[k]:=by
 simp[idx,h]
theorem Yu:4611686018427387904 < FU:=by decide
def runL (step:α→σ→Option (σ ⊕ ρ)) (fin:σ→Option ρ):List α→σ→Option ρ
 | [],s=>fin s
 | a::l,s=>(step a s).bind fun r=>match r with|.inl s'=>runL step fin l s'|.inr x=>some x
def goL (k:σ→Option ρ):σ ⊕ ρ→Option ρ
 | .inl s=>k s
 | .inr x=>some x
theorem Z6q (xs:List α) (hl:xs.length < 4611686018427387904) (step:α→σ→Option (σ ⊕ ρ)) (fin:σ→Option ρ) (L:Nat→σ→Int→Option ρ)
  (hL:∀m s i,L (m+1) s i=if decide (i < (xs.length:Int))=true then (idx xs i).bind fun a=>(step a s).bind (goL fun s'=>L m s' (addW i 1)) else fin s):
  ∀(m k:Nat) (s:σ),k≤xs.length→xs.length - k < m→L m s k=runL step fin (xs.drop k) s:=by
 intro m
 induction m with
 | zero=>intro k s _ h;omega
 | succ m ih=>
  intro k s hk hm
  rw[hL]
  by_cases hc:k < xs.length
  ·have h1:decide ((k:Int) < (xs.length:Int))=true:=by simpa using hc
   rw[if_pos h1,Zt hc,Option.bind_some,List.drop_eq_getElem_cons hc]
   simp only[runL]
   congr 1
   funext r
   cases r with
   | inl s'=>
    simp only[goL]
    rw[Z3 (by omega)]
    exact ih (k+1) s' (by omega) (by omega)
   | inr x=>rfl
  ·have h1:¬decide ((k:Int) < (xs.length:Int))=true:=by simpa using hc
   rw[if_neg h1,List.drop_eq_nil_of_le (by omega)]
   rfl
theorem Zzb (xs:List α) (hl:xs.length < 4611686018427387904) (step:α→σ→Option (σ ⊕ ρ)) (fin:σ→Option ρ) (L:Nat→σ→Int→Option ρ)
  (hL:∀m s i,L (m+1) s i=if decide (i < (xs.length:Int))=true then (idx xs i).bind fun a=>(step a s).bind (goL fun s'=>L m s' (addW i 1)) else fin s) (s:σ):
  L FU s 0=runL step fin xs s:=by
 have:=Z6q xs hl step fin L hL FU 0 s (Nat.zero_le _) (by have:=Yu;omega)
 simpa using this
theorem Z8a {sz n:Nat} {z:α} (h1:n*sz≤70368744177664) (h2:n≤9223372036854775807):mkI sz (n:Int) z=some (List.replicate n z):=by
 simp[mkI,h1,h2]
theorem Y7 {sz:Nat} {xs ys:List α} (h1:(xs.length+ys.length)*sz≤140737488355328) (h2:xs.length+ys.length≤9223372036854775807):appI sz xs ys=some (xs++ys):=by
 unfold appI
 rw[if_pos ⟨h1,h2⟩]
theorem Zu7 (xs:List α) (hl:xs.length < 4611686018427387904) (p:α→Bool) (L:Nat→Int→Int→Option Int)
  (hL:∀m n i,L (m+1) n i=if decide (i < (xs.length:Int))=true then (idx xs i).bind fun a=>(if p a=true then L m (addW n 1) (addW i 1) else L m n (addW i 1)) else some n):L FU 0 0=some (xs.countP p:Int):=by
 have key:∀(m k:Nat) (n:Int),k≤xs.length→xs.length - k < m→0≤n→n≤k→L m n k=some (n+((xs.drop k).countP p:Nat)):=by
  intro m
  induction m with
  | zero=>intro k n _ h;omega
  | succ m ih=>
   intro k n hk hm hn1 hn2
   rw[hL]
   by_cases hc:k < xs.length
   ·have h1:decide ((k:Int) < (xs.length:Int))=true:=by simpa using hc
    rw[if_pos h1,Zt hc,Option.bind_some,List.drop_eq_getElem_cons hc,List.countP_cons,Z3 (by omega)]
    by_cases hp:p xs[k]=true
    ·rw[if_pos hp,Zp (by omega) (by omega),ih (k+1) (n+1) (by omega) (by omega) (by omega) (by omega),if_pos hp]
     simp only[Option.some.injEq]
     omega
    ·rw[if_neg hp,ih (k+1) n (by omega) (by omega) (by omega) (by omega),if_neg hp]
     rfl
   ·have h1:¬decide ((k:Int) < (xs.length:Int))=true:=by simpa using hc
    rw[if_neg h1,List.drop_eq_nil_of_le (by omega)]
    simp
 have:=key FU 0 0 (Nat.zero_le _) (by have:=Yu;omega) (by omega) (by omega)
 simpa using this
end
section
variable {α:Type}
theorem X2 (xs:List α) (i:Int) (a:α):setO xs i a=some (xs.set i.toNat a):=rfl
def atI [Inhabited α] (xs:List α) (i:Int):α:=xs.getD i.toNat default
theorem Wp [Inhabited α] {xs:List α} {k:Nat} (h:k < xs.length):atI xs (k:Int)=xs[k]:=by
 simp[atI,h]
theorem Xu [Inhabited α] {xs:List α} {i:Int} (h0:0≤i) (h1:i < (xs.length:Int)):idx xs i=some (atI xs i):=by
 obtain⟨k,rfl⟩:∃k:Nat,i=k:=⟨i.toNat,by omega⟩
 have hk:k < xs.length:=by omega
 rw[Zt hk,Wp hk]
theorem Zeh [Inhabited α] {xs:List α} {i:Int} (h0:0≤i) (h1:i < (xs.length:Int)):atI xs i∈xs:=by
 obtain⟨k,rfl⟩:∃k:Nat,i=k:=⟨i.toNat,by omega⟩
 have hk:k < xs.length:=by omega
 rw[Wp hk];exact List.getElem_mem hk
theorem Zmx [Inhabited α] {xs:List α} {i:Int} (a:α) (h0:0≤i) (h1:i < (xs.length:Int)):atI (xs.set i.toNat a) i=a:=by
 obtain⟨k,rfl⟩:∃k:Nat,i=k:=⟨i.toNat,by omega⟩
 have hk:k < xs.length:=by omega
 rw[Wp (by simpa using hk)];simp
theorem Z65 [Inhabited α] {xs:List α} {i j:Int} (a:α) (h0:0≤i) (h1:0≤j) (hn:i≠j):atI (xs.set i.toNat a) j=atI xs j:=by
 unfold atI
 rw[List.getD_eq_getElem?_getD,List.getD_eq_getElem?_getD,List.getElem?_set_ne (by omega)]
theorem Zeg {n:Int} (h:n≠0):nzI n=some ():=by unfold nzI;rw[if_neg h]
theorem Z7h {n:Int} (h:0≤n):nnI n=some ():=by unfold nnI;rw[if_pos h]
theorem Kw {a n:Int} (h0:0≤a):remW a n=a % n:=by unfold remW;rw[Int.tmod_eq_emod_of_nonneg h0]
theorem Zq6 {a n:Int} (h0:0≤a) (h1:a < 9223372036854775808) (hn:1≤n):quoW a n=a / n:=by
 unfold quoW
 rw[Int.tdiv_eq_ediv_of_nonneg h0]
 have h2:0≤a / n:=Int.ediv_nonneg h0 (by omega)
 have h3:a / n≤a:=Int.ediv_le_self n h0
 exact Zip (by omega) (by omega)
theorem Ztu (xs:List α) (hl:xs.length < 4611686018427387904) (f:α→Option Bool) (q:α→Bool) (hf:∀a∈xs,f a=some (!q a)) (L:Nat→Int→Option Int)
  (hL:∀m i,L (m+1) i=if decide (i < (xs.length:Int))=true then (idx xs i).bind fun a=>(f a).bind fun r=>if r=true then some i else L m (addW i 1) else some (-1)):
  (xs.all q=true∧L FU 0=some (-1))∨∃k:Nat,∃h:k < xs.length,L FU 0=some (k:Int)∧q xs[k]=false∧(xs.take k).all q=true:=by
 have key:∀(m k:Nat),k≤xs.length→xs.length - k < m→(xs.take k).all q=true→(xs.all q=true∧L m k=some (-1))∨∃j:Nat,∃h:j < xs.length,L m k=some (j:Int)∧q xs[j]=false∧(xs.take j).all q=true:=by
  intro m
  induction m with
  | zero=>intro k _ h;omega
  | succ m ih=>
   intro k hk hm ht
   rw[hL]
   by_cases hc:k < xs.length
   ·have h1:decide ((k:Int) < (xs.length:Int))=true:=by simpa using hc
    rw[if_pos h1,Zt hc,Option.bind_some,hf _ (List.getElem_mem hc),Option.bind_some]
    by_cases hq:q xs[k]=true
    ·have h2:¬(!q xs[k])=true:=by simp[hq]
     rw[if_neg h2,Z3 (by omega)]
     refine ih (k+1) (by omega) (by omega) ?_
     rw[List.take_succ_eq_append_getElem hc,List.all_append,ht];simp[hq]
    ·have h2:(!q xs[k])=true:=by simpa using hq
     rw[if_pos h2]
     exact .inr ⟨k,hc,rfl,by simpa using hq,ht⟩
   ·have h1:¬decide ((k:Int) < (xs.length:Int))=true:=by simpa using hc
    rw[if_neg h1]
    rw[List.take_of_length_le (by omega)] at ht
    exact .inl ⟨ht,rfl⟩
 exact key FU 0 (Nat.zero_le _) (by have:=Yu;omega) (by simp)
theorem Zxa (xs:List α) (hl:xs.length < 4611686018427387904) (f:α→Option Bool) (q:α→Bool) (hf:∀a∈xs,f a=some (!q a)) (L:Nat→Int→Option Int)
  (hL:∀m i,L (m+1) i=if decide (i < (xs.length:Int))=true then (idx xs i).bind fun a=>(f a).bind fun r=>if r=true then some i else L m (addW i 1) else some (-1)):
  ((L FU 0).bind fun r=>some (decide (r≥0)))=some (!xs.all q):=by
 rcases Ztu xs hl f q hf L hL with⟨h1,h2⟩|⟨k,hk,h1,h2,h3⟩
 ·rw[h2,h1];rfl
 ·rw[h1,Option.bind_some]
  have:xs.all q=false:=by
   rw[List.all_eq_false]
   exact⟨xs[k],List.getElem_mem hk,by simp[h2]⟩
  rw[this]
  have h4:((k:Nat):Int)≥0:=by omega
  simp[h4]
theorem Z1c (xs:List α) (z:α) (hl:xs.length < 4611686018427387904) (f:α→Option Bool) (q:α→Bool) (hf:∀a∈xs,f a=some (!q a)) (I:Nat→Int→Option Int)
  (hI:∀m i,I (m+1) i=if decide (i < (xs.length:Int))=true then (idx xs i).bind fun a=>(f a).bind fun r=>if r=true then some i else I m (addW i 1) else some (-1))
  (L:Nat→List α→Int→Int→Option (List α))
  (hL:∀m v i j,L (m+1) v i j=if decide (j < (v.length:Int))=true then (idx v j).bind fun a=>(f a).bind fun r=>if (!r)=true then (idx v i).bind fun _=>(setO v i a).bind fun y=>L m y (addW i 1) (addW j 1) else L m v i (addW j 1)
   else (Wc v i (v.length:Int)).bind fun _=>(clrI z v i (v.length:Int)).bind fun y=>(Wc y 0 i).bind fun s=>some s):
  ((I FU 0).bind fun r=>if decide (r=(-1))=true then some xs else L FU xs r (addW r 1))=some (xs.filter q):=by
 have key:∀(m i j:Nat) (v:List α),i≤j→j≤xs.length→xs.length - j < m→v.length=xs.length→v.take i=(xs.take j).filter q→v.drop j=xs.drop j→L m v i j=some (xs.filter q):=by
  intro m
  induction m with
  | zero=>intro i j v _ _ h;omega
  | succ m ih=>
   intro i j v hij hj hm hv ht hd
   rw[hL]
   by_cases hc:j < v.length
   ·have hc2:j < xs.length:=by omega
    have h1:decide ((j:Int) < (v.length:Int))=true:=by simpa using hc
    have e:v[j]=xs[j]:=by
     have:=congrArg List.head? hd
     simpa [List.head?_drop,hc,hc2] using this
    have hd2:v.drop (j+1)=xs.drop (j+1):=by
     have:=congrArg (List.drop 1) hd
     simpa [List.drop_drop] using this
    rw[if_pos h1,Zt hc,Option.bind_some,e,hf _ (List.getElem_mem hc2),Option.bind_some,Bool.not_not]
    by_cases hq:q xs[j]=true
    ·rw[if_pos hq,Zt (by omega:i < v.length),Option.bind_some]
     simp only[setO,Option.bind_some]
     rw[Z3 (by omega),Z3 (by omega)]
     refine ih (i+1) (j+1) _ (by omega) (by omega) (by omega) (by simp[hv]) ?_ ?_
     ·rw[Int.toNat_natCast,List.take_succ_eq_append_getElem (by simpa using (by omega:i < v.length)),List.take_set_of_le (Nat.le_refl _),ht,List.take_succ_eq_append_getElem hc2,List.filter_append]
      simp[hq]
     ·rw[Int.toNat_natCast,List.drop_set_of_lt (by omega),hd2]
    ·rw[if_neg hq,Z3 (by omega)]
     refine ih i (j+1) v (by omega) (by omega) (by omega) hv ?_ hd2
     rw[ht,List.take_succ_eq_append_getElem hc2,List.filter_append]
     simp[hq]
   ·have h1:¬decide ((j:Int) < (v.length:Int))=true:=by simpa using hc
    have hjx:j=xs.length:=by omega
    rw[if_neg h1]
    have h2:Wc v (i:Int) (v.length:Int)=some ((v.drop i).take (v.length - i)):=by
     unfold Wc;rw[if_pos ⟨by omega,by omega,by omega⟩];simp
    have h3:clrI z v (i:Int) (v.length:Int)=some (v.take i++List.replicate (v.length - i) z++v.drop v.length):=by
     unfold clrI
     have:(i:Int).toNat+((v.length:Int).toNat - (i:Int).toNat)=v.length:=by omega
     rw[if_pos (by omega),this];simp
    rw[h2,Option.bind_some,h3,Option.bind_some]
    have h4:Wc (v.take i++List.replicate (v.length - i) z++v.drop v.length) 0 (i:Int)=some (v.take i):=by
     unfold Wc
     rw[if_pos ⟨by omega,by omega,by simp;omega⟩]
     have:(v.take i).length=i:=by rw[List.length_take];omega
     simp[List.append_assoc,List.take_append,this]
    rw[h4,Option.bind_some,ht,hjx,List.take_length]
 rcases Ztu xs hl f q hf I hI with⟨h1,h2⟩|⟨k,hk,h1,h2,h3⟩
 ·rw[h2,Option.bind_some,if_pos (by decide)]
  congr 1
  exact (List.filter_eq_self.2 (fun a ha=>List.all_eq_true.1 h1 a ha)).symm
 ·rw[h1,Option.bind_some,if_neg (by simp),Z3 (by omega)]
  refine key FU k (k+1) xs (by omega) (by omega) (by have:=Yu;omega) rfl ?_ rfl
  rw[List.take_succ_eq_append_getElem hk,List.filter_append,List.filter_eq_self.2 (fun a ha=>List.all_eq_true.1 h3 a ha)]
  simp[h2]
theorem Z72 (sz:Nat) (hz:sz≤1024) (xs:List α) (hl:xs.length < 1048577) (f:α→Option α) (hf:∀a∈xs,f a=some a) {ρ:Type} (fin:List α→Option ρ) (L:Nat→List α→Int→Option ρ)
  (hL:∀m v i,L (m+1) v i=if decide (i < (xs.length:Int))=true then (idx xs i).bind fun a=>(f a).bind fun b=>(appI sz v [b]).bind fun z=>L m z (addW i 1) else fin v):L FU [] 0=fin xs:=by
 have key:∀(m k:Nat),k≤xs.length→xs.length - k < m→L m (xs.take k) k=fin xs:=by
  intro m
  induction m with
  | zero=>intro k _ h;omega
  | succ m ih=>
   intro k hk hm
   rw[hL]
   by_cases hc:k < xs.length
   ·have h1:decide ((k:Int) < (xs.length:Int))=true:=by simpa using hc
    have hlen:(xs.take k).length=k:=by rw[List.length_take];omega
    have hb:(k+1)*sz≤140737488355328:=Nat.le_trans (Nat.mul_le_mul (by omega:k+1≤1048577) hz) (by decide)
    rw[if_pos h1,Zt hc,Option.bind_some,hf _ (List.getElem_mem hc),Option.bind_some,Y7 (by simpa [hlen] using hb) (by simp[hlen];omega),Option.bind_some,Z3 (by omega),←List.take_succ_eq_append_getElem hc]
    exact ih (k+1) (by omega) (by omega)
   ·have h1:¬decide ((k:Int) < (xs.length:Int))=true:=by simpa using hc
    rw[if_neg h1,List.take_of_length_le (by omega)]
 have:=key FU 0 (Nat.zero_le _) (by have:=Yu;omega)
 simpa using this
end
theorem Zsr {β:Type} {c:Prop} [Decidable c] {x:β}:(if c then x else x)=x:=by split<;>rfl
theorem Kt {σ ρ:Type} {n:Nat} (hn:n < 4611686018427387904) (st:Nat→σ) {B:(σ→Int→ρ)→σ→Int→ρ} {L:Nat→σ→Int→ρ} (hL:∀m s i,L (m+1) s i=B (L m) s i)
  (hs:∀k,k < n→∀κ,B κ (st k) (k:Int)=κ (st (k+1)) (addW (k:Int) 1)) {r:ρ} (hf:∀κ,B κ (st n) (n:Int)=r):L FU (st 0) 0=r:=by
 have key:∀(m k:Nat),k≤n→n - k < m→L m (st k) (k:Int)=r:=by
  intro m
  induction m with
  | zero=>intro k _ h;omega
  | succ m ih=>
   intro k hk hm
   rw[hL]
   by_cases hc:k < n
   ·rw[hs k hc,Z3 (by omega)]
    exact ih (k+1) (by omega) (by omega)
   ·have:k=n:=by omega
    subst this
    exact hf _
 have:=key FU 0 (Nat.zero_le _) (by have:=Yu;omega)
 simpa using this
theorem Zzl {ρ:Type} {n:Nat} (hn:n < 4611686018427387904) {B:(Int→ρ)→Int→ρ} {L:Nat→Int→ρ} (hL:∀m i,L (m+1) i=B (L m) i)
  (hs:∀k,k < n→∀κ,B κ (k:Int)=κ (addW (k:Int) 1)) {r:ρ} (hf:∀κ,B κ (n:Int)=r):L FU 0=r:=
 Kt (σ:=Unit) hn (fun _=>()) (B:=fun κ _ i=>B (κ ()) i) (L:=fun m _ i=>L m i) (fun m _ i=>hL m i) (fun k hk κ=>hs k hk _) fun κ=>hf _
end Go.Proofs.YtlcfolgfmlgncaaGreatDoor.Ev
namespace Go.Proofs.YtlcfolgfmlgncaaGreatDoor.Ev
open Go Go.Proofs
set_option linter.unusedVariables false
def Zmk (x0:GBus)  (v0:Bool):Option Bool:=
 if v0=true then (
  some false)
 else (
  (idx x0.m x0.holder).bind fun a0=>
  if decide ((a0.queue.length:Int) > 0)=true then (
   (idx a0.queue 0).bind fun a1=>
   if a1.lock=true then (
    if (!a0.broken)=true then (
     (idx x0.splits x0.holder).bind fun a2=>
     some (decide (a2=0)))
    else (
     some false))
   else (
    some false))
  else (
   some false))
def Zsv (x0:GBus)  (k:Int→Option Bool) (v1:Int):Option Bool:=
 if decide (v1 < (x0.m.length:Int))=true then (
  (idx x0.m v1).bind fun a3=>
  if decide (a3.beat > 0)=true then (
   (idx a3.queue 0).bind fun a4=>
   if a4.lock=true then (
    if (!a3.broken)=true then (
     if decide (x0.holder≠v1)=true then (
      some false)
     else (
      k (addW v1 1)))
    else (
     k (addW v1 1)))
   else (
    k (addW v1 1)))
  else (
   k (addW v1 1)))
 else (
  if decide (x0.holder=(-1))=true then (
   some (decide (x0.held=0)))
  else (
   (Zk x0.holder 0 (subW (x0.m.length:Int) 1)).bind fun r0=>
   if (!r0)=true then (
    Zmk x0 true)
   else (
    (Zk x0.held 0 x0.conf.lockMost).bind fun r1=>
    Zmk x0 (!r1))))
def Zue (x0:GBus)  : Nat→Int→Option Bool
 | 0,_=>none
 | m+1,v1=>Zsv x0  (Zue x0  m) v1
def Zbb (x0:List GMConf):Option (List GMConf):=appI 32 [] x0
def Zr3 (x0:GConf):Option GConf:=
 (Zbb x0.masters).bind fun r0=>
 some {x0 with masters:=r0}
def Zn2 (x0:GConf)  (v0:Bool):Option Int:=
 if v0=true then (
  some 0)
 else (
  some (mulW (addW x0.maxRetry 2) (addW x0.maxWait 6)))
def Zj0 (x0:GConf):Option Int:=
 (Yb x0.maxRetry 0 3).bind fun r0=>
 if (!r0)=true then (
  Zn2 x0 true)
 else (
  (Yb x0.maxWait 0 3).bind fun r1=>
  Zn2 x0 (!r1))
def Zjn (x0:GConf):Option Int:=
 (Zj0 x0).bind fun r0=>
 if decide (r0=0)=true then (
  some 0)
 else (
  (Yb x0.lockMost 1 40).bind fun r1=>
  if (!r1)=true then (
   some 0)
  else (
   (Zj0 x0).bind fun r2=>
   some (addW (mulW 2 r2) x0.lockMost)))
def Zg9 (x0:GConf)  (k:Int→Int→Option Int) (v0:Int) (v1:Int):Option Int:=
 if decide (v1 < (x0.masters.length:Int))=true then (
  (idx x0.masters v1).bind fun a0=>
  if a0.prio=true then (
   k (addW v0 1) (addW v1 1))
  else (
   k v0 (addW v1 1)))
 else (
  some v0)
def Ziy (x0:GConf)  : Nat→Int→Int→Option Int
 | 0,_,_=>none
 | m+1,v0,v1=>Zg9 x0  (Ziy x0  m) v0 v1
def Zpr (x0:GConf):Option Int:=
 Ziy x0 FU 0 0
def Zg2 (x0:GConf):Option Int:=
 (Zjn x0).bind fun r0=>
 (Zpr x0).bind fun r1=>
 some (mulW (mulW 2 r0) r1)
def Zlj (x0:GMConf) (x1:GConf):Option Bool:=
 (Yb x0.weight 1 4).bind fun r0=>
 if (!r0)=true then (
  some true)
 else (
  if x0.prio=true then (
   (Zg2 x1).bind fun r1=>
   (Yb x0.every r1 1000).bind fun r2=>
   if (!r2)=true then (
    some true)
   else (
    (Yb x0.cap 1 8).bind fun r3=>
    some (!r3)))
  else (
   if decide (x0.every≠0)=true then (
    some true)
   else (
    some (decide (x0.cap≠0)))))
def Ym (x0:List GMConf) (x1c0:GConf)  (k:Int→Option Int) (v0:Int):Option Int:=
 if decide (v0 < (x0.length:Int))=true then (
  (idx x0 v0).bind fun a0=>
  (Zlj a0 x1c0).bind fun r0=>
  if r0=true then (
   some v0)
  else (
   k (addW v0 1)))
 else (
  some (-1))
def Zr (x0:List GMConf) (x1c0:GConf)  : Nat→Int→Option Int
 | 0,_=>none
 | m+1,v0=>Ym x0 x1c0  (Zr x0 x1c0  m) v0
def Wa (x0:List GMConf) (x1c0:GConf):Option Int:=
 Zr x0 x1c0 FU 0
def Yr (x0:List GMConf) (x1c0:GConf):Option Bool:=
 (Wa x0 x1c0).bind fun r0=>
 some (decide (r0≥0))
def Zou (x0:GConf):Option Bool:=
 (Yb (x0.masters.length:Int) 1 4).bind fun r0=>
 if (!r0)=true then (
  some false)
 else (
  (Yb x0.quantum 1 4).bind fun r1=>
  if (!r1)=true then (
   some false)
  else (
   (Yb x0.maxSplit 1 12).bind fun r2=>
   if (!r2)=true then (
    some false)
   else (
    (Zjn x0).bind fun r3=>
    if decide (r3=0)=true then (
     some false)
    else (
     (Yr x0.masters x0).bind fun r4=>
     some (!r4)))))
def Zkt (x0:GConf) (x1:Int):Option Bool:=
 (Yb x1 0 (subW (x0.masters.length:Int) 1)).bind fun r0=>
 some r0
def Znr (x0:GConf) (x1:Int)  (v0:Bool):Option Int:=
 if v0=true then (
  some 0)
 else (
  (idx x0.masters x1).bind fun a0=>
  some (mulW a0.weight x0.quantum))
def Zpb (x0:GConf) (x1:Int):Option Int:=
 (Zou x0).bind fun r0=>
 if (!r0)=true then (
  Znr x0 x1 true)
 else (
  (Zkt x0 x1).bind fun r1=>
  Znr x0 x1 (!r1))
def Zf9 (x0:List Int) (x1:Int)  (v0:Bool):Option Int:=
 if v0=true then (
  some 0)
 else (
  (nzI (x0.length:Int)).bind fun n0=>
  (idx x0 (remW x1 (x0.length:Int))).bind fun a0=>
  some a0)
def Zsf (x0:List Int) (x1:Int):Option Int:=
 if decide ((x0.length:Int)=0)=true then (
  Zf9 x0 x1 true)
 else (
  Zf9 x0 x1 (decide (x1 < 0)))
def Zff (x0:GWrr) (x1:GConf) (x2:List Bool)  (k:Int→Option (GWrr×Int)) (v0:Int):Option (GWrr×Int):=
 if decide (v0≤(x1.masters.length:Int))=true then (
  (nzI (x1.masters.length:Int)).bind fun n0=>
  (idx x2 (remW (addW x0.at_ v0) (x1.masters.length:Int))).bind fun a0=>
  if a0=true then (
   (Zpb x1 (remW (addW x0.at_ v0) (x1.masters.length:Int))).bind fun r0=>
   some ((GWrr.mk (remW (addW x0.at_ v0) (x1.masters.length:Int)) (subW r0 1)),(remW (addW x0.at_ v0) (x1.masters.length:Int))))
  else (
   k (addW v0 1)))
 else (
  some ((GWrr.mk x0.at_ 0),(-1)))
def Zms (x0:GWrr) (x1:GConf) (x2:List Bool)  : Nat→Int→Option (GWrr×Int)
 | 0,_=>none
 | m+1,v0=>Zff x0 x1 x2  (Zms x0 x1 x2  m) v0
end Go.Proofs.YtlcfolgfmlgncaaGreatDoor.Ev
namespace Go.Proofs.YtlcfolgfmlgncaaGreatDoor.Ev
open Go Go.Proofs
set_option linter.unusedVariables false
set_option linter.unusedSimpArgs false
def L8 (b:ByteArray):List UInt8:=b.data.toList
theorem Zie (a b:ByteArray):L8 (a++b)=L8 a++L8 b:=by simp[L8]
theorem Znt {a b:ByteArray} (h:L8 a=L8 b):a=b:=by
 cases a;cases b
 simp only[L8] at h
 rw[Array.toList_inj.1 h]
theorem Zbo (a:ByteArray):a.size=(L8 a).length:=by show a.data.size=a.data.toList.length;rw[Array.length_toList]
theorem Zeu (l:List UInt8):L8 ⟨l.toArray⟩=l:=rfl
theorem Zbl (l:List UInt8):L8 (strL l)=l:=rfl
theorem Yae:L8 ByteArray.empty=[]:=rfl
theorem Zg5 {a b:ByteArray} (h:a.size+b.size < 9223372036854775808):catI a b=some ():=by
 unfold catI
 rw[if_neg (by simp[IntKind.max,IntKind.signed,IntKind.bits];omega)]
theorem Zpa (a b:ByteArray):(a++b).size=a.size+b.size:=by rw[Zbo,Zie,List.length_append,Zbo,Zbo]
theorem Q9 (l:List UInt8):(strL l).size=l.length:=by rw[Zbo,Zbl]
theorem Zp0:∀(k u:Nat),u < 10^(k+1)→(Lib.decDigits u).length≤k+1:=by
 intro k
 induction k with
 | zero=>
  intro u hu
  rw[Lib.decDigits,dif_pos (by omega)];simp
 | succ k ih=>
  intro u hu
  rw[Lib.decDigits]
  split
  ·simp
  ·rw[List.length_append]
   have:=ih (u / 10) (by rw[Nat.pow_succ] at hu;omega)
   simp;omega
def dgL (u:Nat):List UInt8:=if u=0 then [] else Lib.decDigits u
theorem Z9d {u:Nat} (h:u≠0):dgL u=dgL (u / 10)++[UInt8.ofNat (48+u % 10)]:=by
 unfold dgL
 rw[if_neg h,Lib.decDigits]
 split
 ·rename_i h1
  rw[if_pos (by omega),Nat.mod_eq_of_lt h1];rfl
 ·rw[if_neg (by omega)]
def InR (x:Int):Prop:=-9223372036854775808≤x∧x≤9223372036854775807
def decB (x:Int):ByteArray:=⟨(Lib.itoa x).toArray⟩
theorem Znx (x:Int):L8 (decB x)=Lib.itoa x:=rfl
theorem Zne {x:Int} (h:InR x):(Lib.itoa x).length≤20:=by
 obtain⟨h1,h2⟩:=h
 unfold Lib.itoa
 split
 ·have:=Zp0 18 x.natAbs (by omega)
  simp;omega
 ·have:=Zp0 18 x.toNat (by omega)
  omega
theorem Zlw {x:Int} (h:InR x):(decB x).size≤20:=by rw[Zbo,Znx];exact Zne h
theorem Ya5 {x:Int} (h:x≠0):Lib.itoa x=(if x < 0 then [45] else [])++dgL x.natAbs:=by
 unfold Lib.itoa dgL
 have hn:¬x.natAbs=0:=by omega
 by_cases hx:x < 0
 ·rw[if_pos hx,if_pos hx,if_neg hn];rfl
 ·have:x.toNat=x.natAbs:=by omega
  rw[if_neg hx,if_neg hx,if_neg hn,this];rfl
theorem Z6x:Lib.itoa 0=[48]:=by
 unfold Lib.itoa
 rw[if_neg (by omega),show (0:Int).toNat=0 from rfl,Lib.decDigits,dif_pos (by omega)];rfl
theorem digB {d:Int} (h0:0≤d) (h1:d < 10):strB [w8 (addW 48 d)]=strL [UInt8.ofNat (48+d.toNat)]:=by
 have:w8 (addW 48 d)=((48+d.toNat:Nat):Int):=by
  simp[w8,addW,IntKind.wrap,IntKind.bits,IntKind.signed];omega
 rw[this]
 rfl
theorem Z5i (x0:Int):∀(m:Nat) (v0:Int) (v1:ByteArray),v0.natAbs < m→InR v0→(v1.size+v0.natAbs < 9223372036854775807∨v1.size=0)→
  ∃r,Zbg x0 m v0 v1=some r∧L8 r=(if x0 < 0 then [45] else [])++dgL v0.natAbs++L8 v1:=by
 intro m
 induction m with
 | zero=>intro v0 v1 h;omega
 | succ m ih=>
  intro v0 v1 hm hr hs
  show ∃r,Zku x0 (Zbg x0 m) v0 v1=some r∧_
  unfold Zku
  obtain⟨hr1,hr2⟩:=hr
  by_cases h0:v0=0
  ·subst h0
   rw[if_neg (by simp)]
   by_cases hx:x0 < 0
   ·rw[if_pos (by simpa using hx),Zg5 (by
     have hz:(0:Int).natAbs=0:=rfl
     rw[hz] at hs
     rw[Q9]
     show 1+v1.size < _
     omega),Option.bind_some]
    exact⟨_,rfl,by rw[if_pos hx,Zie];rfl⟩
   ·rw[if_neg (by simpa using hx)]
    exact⟨_,rfl,by rw[if_neg hx];rfl⟩
  ·rw[if_pos (by simpa using h0)]
   have hq:quoW v0 10=v0.tdiv 10:=by
    unfold quoW
    have:(v0.tdiv 10).natAbs=v0.natAbs / 10:=by rw[Int.natAbs_tdiv];rfl
    simp[IntKind.wrap,IntKind.bits,IntKind.signed];omega
   have hqa:(v0.tdiv 10).natAbs=v0.natAbs / 10:=by rw[Int.natAbs_tdiv];rfl
   have hra:(v0.tmod 10).natAbs=v0.natAbs % 10:=by rw[Int.natAbs_tmod];rfl
   have step:∀d:Int,0≤d→d.toNat=v0.natAbs % 10→∃r,Zej x0 (Zbg x0 m) v0 v1 d=some r∧L8 r=(if x0 < 0 then [45] else [])++dgL v0.natAbs++L8 v1:=fun d hd0 hd=>by
    unfold Zej
    rw[digB hd0 (by omega),Zg5 (by rw[Q9];simp;omega),Option.bind_some,hq]
    obtain⟨r,h1,h2⟩:=ih (v0.tdiv 10) (strL [UInt8.ofNat (48+d.toNat)]++v1) (by omega) (by constructor<;>omega) (.inl (by rw[Zpa,Q9,hqa];simp;omega))
    refine⟨r,h1,?_⟩
    rw[h2,hqa,Zie,Zbl,Z9d (u:=v0.natAbs) (by omega),hd]
    simp
   unfold remW at*
   by_cases hn:v0.tmod 10 < 0
   ·rw[if_pos (by simpa using hn)]
    have hneg:negW (v0.tmod 10)=-(v0.tmod 10):=by
     simp[negW,IntKind.wrap,IntKind.bits,IntKind.signed];omega
    rw[hneg]
    exact step _ (by omega) (by omega)
   ·rw[if_neg (by simpa using hn)]
    exact step _ (by omega) (by omega)
theorem Zn5 {x:Int} (h:InR x):Zg3 x=some (decB x):=by
 unfold Zg3
 by_cases h0:x=0
 ·subst h0
  rw[if_pos (by simp)]
  exact congrArg some (Znt (by rw[Znx,Z6x,Zbl]))
 ·rw[if_neg (by simpa using h0)]
  obtain⟨r,h1,h2⟩:=Z5i x FU x ByteArray.empty (by obtain⟨h1,h2⟩:=h;unfold FU;omega) h (.inr rfl)
  rw[h1]
  exact congrArg some (Znt (by rw[h2,Znx,Ya5 h0,Yae,List.append_nil]))
theorem Zo6 {x:Int} (h:InR x):Zg6 x=some (decB x):=by
 unfold Zg6 Zdh
 rw[if_pos (show _∧_ from h)]
 rfl
theorem Yb1 {ws:List ByteArray} {sep:ByteArray} (h1:ws.length≤1000000000) (h2:(Lib.join (ws.map L8) (L8 sep)).length≤140737488355328):Jy ws sep=some ⟨(Lib.join (ws.map L8) (L8 sep)).toArray⟩:=by
 unfold Jy
 rw[if_pos ⟨by omega,h2⟩]
 rfl
theorem K7 (x a b:Int):Yb x a b=some (decide (a≤x∧x≤b)):=by
 unfold Yb
 by_cases h:a≤x<;>simp[h]
theorem Yq (x a b:Int):Zk x a b=some (decide (a≤x∧x≤b)):=by
 unfold Zk
 by_cases h:a≤x<;>simp[h]
def Jj (c:GConf):Int:=if (0≤c.maxRetry∧c.maxRetry≤3)∧(0≤c.maxWait∧c.maxWait≤3) then (c.maxRetry+2)*(c.maxWait+6) else 0
def Y3 (c:GConf):Int:=if Jj c=0 then 0 else if 1≤c.lockMost∧c.lockMost≤40 then 2*Jj c+c.lockMost else 0
def Yo (c:GConf):Nat:=c.masters.countP (·.prio)
def Yv (c:GConf) (m:GMConf):Bool:=decide (1≤m.weight∧m.weight≤4)&&if m.prio then decide (2*Y3 c*Yo c≤m.every∧m.every≤1000)&&decide (1≤m.cap∧m.cap≤8) else decide (m.every=0)&&decide (m.cap=0)
def Yd (c:GConf):Bool:=decide (1≤(c.masters.length:Int)∧(c.masters.length:Int)≤4)&&decide (1≤c.quantum∧c.quantum≤4)&&decide (1≤c.maxSplit∧c.maxSplit≤12)&&decide (Y3 c≠0)&&c.masters.all (Yv c)
theorem Zo1 (c:GConf):0≤Jj c∧Jj c≤45:=by
 unfold Jj
 split
 ·rename_i h
  obtain⟨⟨h1,h2⟩,h3,h4⟩:=h
  generalize c.maxRetry=a at*
  generalize c.maxWait=b at*
  have:a=0∨a=1∨a=2∨a=3:=by omega
  rcases this with rfl|rfl|rfl|rfl<;>omega
 ·omega
theorem Zkb (c:GConf):0≤Y3 c∧Y3 c≤130:=by
 have:=Zo1 c
 unfold Y3
 split
 ·omega
 ·split<;>omega
theorem Zhj (c:GConf):Za0 c=some (Jj c):=by
 unfold Za0
 rw[Yq,Option.bind_some,Yq,Option.bind_some]
 unfold Zdr Jj
 by_cases h1:0≤c.maxRetry∧c.maxRetry≤3
 ·by_cases h2:0≤c.maxWait∧c.maxWait≤3
  ·have:=Zo1 c
   unfold Jj at this
   rw[if_pos ⟨h1,h2⟩] at this
   simp only[h1,h2,decide_true,Bool.not_true,Bool.false_eq_true,if_false,and_self,if_true]
   rw[Zp (by omega) (by omega),Zp (by omega) (by omega),W5 (by omega) (by omega)]
  ·simp[h1,h2]
 ·simp[h1]
theorem Z1v (c:GConf):Zj0 c=some (Jj c):=by
 rw[←Zhj]
 unfold Zj0 Za0
 simp only[Yq,K7]
 rfl
theorem Zmw (c:GConf):Q7 c=some (Y3 c):=by
 have:=Zo1 c
 unfold Q7 Y3
 rw[Zhj,Option.bind_some,Yq,Option.bind_some,Option.bind_some]
 by_cases h0:Jj c=0
 ·simp[h0]
 ·by_cases h1:1≤c.lockMost∧c.lockMost≤40
  ·simp only[h0,h1,decide_true,decide_false,Bool.not_true,Bool.false_eq_true,if_false,and_self,if_true]
   rw[W5 (by omega) (by omega),Zp (by omega) (by omega)]
  ·simp[h0,h1]
theorem Zr0 (c:GConf):Zjn c=some (Y3 c):=by
 rw[←Zmw]
 unfold Zjn Q7
 simp only[Yq,K7,Zhj,Z1v]
theorem Zxn (c:GConf):Zfn c=some (decide (1≤c.quantum∧c.quantum≤4)&&decide (1≤c.maxSplit∧c.maxSplit≤12)&&decide (Y3 c≠0)):=by
 have:=Zo1 c
 unfold Zfn Y3
 simp only[Yq,Zhj,Option.bind_some]
 by_cases h1:1≤c.quantum∧c.quantum≤4
 ·by_cases h2:Jj c=0
  ·simp[h2]
  ·have h3:Jj c > 0:=by omega
   by_cases h4:1≤c.maxSplit∧c.maxSplit≤12
   ·by_cases h5:1≤c.lockMost∧c.lockMost≤40
    ·have:¬(2*Jj c+c.lockMost=0):=by omega
     simp[h1,h2,h3,h4,h5,this]
    ·simp[h1,h2,h3,h4,h5]
   ·simp[h1,h2,h3,h4]
 ·simp[h1]
theorem Zun (xs:List GMConf):∀(n:Int),0≤n→n+xs.length < 4611686018427387904→∀{ρ:Type} (fin:Int→Option ρ),runL (fun (a:GMConf) n=>some (.inl (if a.prio=true then addW n 1 else n))) fin xs n=fin (n+(xs.countP (·.prio):Nat)):=by
 induction xs with
 | nil=>intro n _ _ ρ fin;simp[runL]
 | cons a l ih=>
  intro n h0 hl ρ fin
  simp only[List.length_cons] at hl
  simp only[runL,Option.bind_some,List.countP_cons]
  by_cases h:a.prio=true
  ·rw[if_pos h,Zp (by omega) (by omega),ih _ (by omega) (by omega),if_pos h]
   congr 1;omega
  ·rw[if_neg h,ih _ (by omega) (by omega),if_neg h]
   congr 1
theorem Z46 (c:GConf) (hl:c.masters.length < 1048577):Zpr c=some (Yo c:Int):=by
 unfold Zpr
 rw[Zzb c.masters (by omega) (fun (a:GMConf) n=>some (.inl (if a.prio=true then addW n 1 else n))) some (Ziy c) (fun m s i=>?_) 0,Zun _ _ (by omega) (by omega)]
 ·simp[Yo]
 ·show Zg9 c _ s i=_
  unfold Zg9
  congr 1;congr 1;funext a
  by_cases h:a.prio=true<;>simp[h,goL]
theorem Zwi (c:GConf):Yo c≤c.masters.length:=List.countP_le_length
theorem Zyi (c:GConf) (hl:c.masters.length < 1048577):0≤Y3 c*(Yo c:Int)∧Y3 c*(Yo c:Int)≤136314880:=by
 have h1:=Zkb c
 have h2:=Zwi c
 constructor
 ·exact Int.mul_nonneg h1.1 (by omega)
 ·have h3:Y3 c*(Yo c:Int)≤130*(Yo c:Int):=Int.mul_le_mul_of_nonneg_right h1.2 (by omega)
  omega
theorem Zua (c:GConf) (hl:c.masters.length < 1048577):Zg2 c=some (2*Y3 c*Yo c):=by
 have h1:=Zkb c
 have h2:=Zyi c hl
 unfold Zg2
 rw[Zr0,Option.bind_some,Z46 c hl,Option.bind_some]
 rw[W5 (a:=2) (by omega) (by omega),W5 (by rw[Int.mul_assoc];omega) (by rw[Int.mul_assoc];omega)]
theorem Zxk (c:GConf) (m:GMConf) (hl:c.masters.length < 1048577):Zlj m c=some (!Yv c m):=by
 unfold Zlj Yv
 simp only[K7,Option.bind_some,Zua c hl]
 by_cases h1:1≤m.weight∧m.weight≤4
 ·by_cases h2:m.prio=true
  ·by_cases h3:2*Y3 c*Yo c≤m.every∧m.every≤1000
   ·simp[h1,h2,h3]
   ·simp[h1,h2,h3]
  ·by_cases h3:m.every=0
   ·simp[h1,h2,h3]
   ·simp[h1,h2,h3]
 ·simp[h1]
theorem Z1x (c:GConf) (xs:List GMConf) (hl:c.masters.length < 1048577) (hx:xs.length < 4611686018427387904):Yr xs c=some (!xs.all (Yv c)):=by
 unfold Yr Wa
 have key:∀(m k:Nat),k≤xs.length→xs.length - k < m→∃r,Zr xs c m k=some r∧decide (r≥0)=!(xs.drop k).all (Yv c):=by
  intro m
  induction m with
  | zero=>intro k _ h;omega
  | succ m ih=>
   intro k hk hm
   have e:Zr xs c (m+1) k=Ym xs c (Zr xs c m) k:=rfl
   rw[e]
   unfold Ym
   by_cases hc:k < xs.length
   ·have h1:decide ((k:Int) < (xs.length:Int))=true:=by simpa using hc
    rw[if_pos h1,Zt hc,Option.bind_some,Zxk c _ hl,Option.bind_some,List.drop_eq_getElem_cons hc,List.all_cons]
    by_cases hq:Yv c xs[k]=true
    ·have h2:¬(!Yv c xs[k])=true:=by simp[hq]
     rw[if_neg h2,Z3 (by omega),hq,Bool.true_and]
     exact ih (k+1) (by omega) (by omega)
    ·have h2:(!Yv c xs[k])=true:=by simpa using hq
     rw[if_pos h2]
     refine⟨_,rfl,?_⟩
     simp[hq]
   ·have h1:¬decide ((k:Int) < (xs.length:Int))=true:=by simpa using hc
    rw[if_neg h1,List.drop_eq_nil_of_le (by omega)]
    exact⟨_,rfl,by simp⟩
 obtain⟨r,hr,hq⟩:=key FU 0 (Nat.zero_le _) (by have:=Yu;omega)
 rw[show ((0:Nat):Int)=0 from rfl] at hr
 rw[hr,Option.bind_some,hq,List.drop_zero]
theorem Z25 (c:GConf) (hl:c.masters.length < 1048577):Zou c=some (Yd c):=by
 unfold Zou Yd
 simp only[K7,Option.bind_some,Zr0,Z1x c c.masters hl (by omega),Bool.not_not]
 by_cases h1:1≤(c.masters.length:Int)∧(c.masters.length:Int)≤4
 ·by_cases h2:1≤c.quantum∧c.quantum≤4
  ·by_cases h3:1≤c.maxSplit∧c.maxSplit≤12
   ·by_cases h4:Y3 c=0<;>simp[h1,h2,h3,h4]
   ·simp[h1,h2,h3]
  ·simp[h1,h2]
 ·simp[h1]
theorem Yag (c:GConf) (m:GMConf) (hl:c.masters.length < 1048577) (k:Option Bool):
  ((Zk m.weight 1 4).bind fun r1102=>
  if (!r1102)=true then some false
  else if (!m.prio)=true then
    if decide (m.every≠0)=true then some false
    else if decide (m.cap≠0)=true then some false
     else if m.prio=true then
       (Q7 c).bind fun r1128=>
       (Zk m.every (mulW (mulW 2 (Yo c:Int)) r1128) 1000).bind fun r1130=>
       if (!r1130)=true then some false
       else (Zk m.cap 1 8).bind fun r1135=>if (!r1135)=true then some false else k
      else k
   else if m.prio=true then
     (Q7 c).bind fun r1128=>
     (Zk m.every (mulW (mulW 2 (Yo c:Int)) r1128) 1000).bind fun r1130=>
     if (!r1130)=true then some false
     else (Zk m.cap 1 8).bind fun r1135=>if (!r1135)=true then some false else k
    else k)=if Yv c m=true then k else some false:=by
 have h1:=Zkb c
 have h2:=Zyi c hl
 have h3:=Zwi c
 have e:mulW (mulW 2 (Yo c:Int)) (Y3 c)=2*Y3 c*Yo c:=by
  have e2:2*(Yo c:Int)*Y3 c=2*(Y3 c*(Yo c:Int)):=by rw[Int.mul_assoc,Int.mul_comm (Yo c:Int)]
  rw[W5 (a:=2) (by omega) (by omega),W5 (by rw[e2];omega) (by rw[e2];omega),e2,Int.mul_assoc]
 unfold Yv
 simp only[Yq,Option.bind_some,Zmw,e]
 by_cases h1:1≤m.weight∧m.weight≤4
 ·by_cases h2:m.prio=true
  ·by_cases h3:2*Y3 c*Yo c≤m.every∧m.every≤1000
   ·by_cases h4:1≤m.cap∧m.cap≤8<;>simp[h1,h2,h3,h4]
   ·simp[h1,h2,h3]
  ·by_cases h3:m.every=0
   ·by_cases h4:m.cap=0<;>simp[h1,h2,h3,h4]
   ·simp[h1,h2,h3]
 ·simp[h1]
theorem Zt6 (c:GConf) (hl:c.masters.length < 1048577):Wb c FU (Yo c:Int) 0=some (Yd c):=by
 have key:∀(m k:Nat),k≤c.masters.length→c.masters.length - k < m→Wb c m (Yo c:Int) k=some (decide (1≤(c.masters.length:Int)∧(c.masters.length:Int)≤4)&&decide (1≤c.quantum∧c.quantum≤4)&&decide (1≤c.maxSplit∧c.maxSplit≤12)&&decide (Y3 c≠0)&&(c.masters.drop k).all (Yv c)):=by
  intro m
  induction m with
  | zero=>intro k _ h;omega
  | succ m ih=>
   intro k hk hm
   have e:Wb c (m+1) (Yo c:Int) k=Zfy c (Wb c m) (Yo c:Int) k:=rfl
   rw[e]
   unfold Zfy
   by_cases hc:k < c.masters.length
   ·have h1:decide ((k:Int) < (c.masters.length:Int))=true:=by simpa using hc
    rw[if_pos h1,Zt hc,Option.bind_some,Yag c _ hl,List.drop_eq_getElem_cons hc,List.all_cons,Z3 (by omega),ih (k+1) (by omega) (by omega)]
    by_cases hq:Yv c c.masters[k]=true
    ·simp[hq]
    ·simp[hq]
   ·have h1:¬decide ((k:Int) < (c.masters.length:Int))=true:=by simpa using hc
    rw[if_neg h1,List.drop_eq_nil_of_le (by omega),Yq,Option.bind_some,Zxn]
    by_cases h2:1≤(c.masters.length:Int)∧(c.masters.length:Int)≤4
    ·simp[h2]
    ·simp[h2]
 have:=key FU 0 (Nat.zero_le _) (by have:=Yu;omega)
 simpa [Yd] using this
theorem Zhz (c:GConf) (hl:c.masters.length < 1048577):Zd1 c=some (Yd c):=by
 unfold Zd1
 rw[Zzb c.masters (by omega) (fun (a:GMConf) n=>some (.inl (if a.prio=true then addW n 1 else n))) (fun n=>Wb c FU n 0) (Zdw c) (fun m s i=>?_) 0,Zun _ _ (by omega) (by omega)]
 ·rw[show (0:Int)+(c.masters.countP (·.prio):Nat)=(Yo c:Int) by simp[Yo]]
  exact Zt6 c hl
 ·show Zgj c _ s i=_
  unfold Zgj
  congr 1;congr 1;funext a
  by_cases h:a.prio=true<;>simp[h,goL]
def Zny (c:GConf) (i:Int):Int:=((c.masters[i.toNat]?).map (·.weight)).getD 0
def Zb (c:GConf) (i:Int):Bool:=decide (0≤i∧i < (c.masters.length:Int))
def Js (c:GConf) (i:Int):Int:=if Yd c=true∧Zb c i=true then Zny c i*c.quantum else 0
theorem Zui {c:GConf} {i:Int} (h:Zb c i=true):∃m,idx c.masters i=some m∧m∈c.masters∧m.weight=Zny c i:=by
 simp only[Zb,decide_eq_true_eq] at h
 obtain⟨k,rfl⟩:∃k:Nat,i=k:=⟨i.toNat,by omega⟩
 have hk:k < c.masters.length:=by omega
 refine⟨c.masters[k],Zt hk,List.getElem_mem hk,?_⟩
 simp[Zny,hk]
theorem Zrt {c:GConf} {m:GMConf} (h:Yd c=true) (hm:m∈c.masters):1≤m.weight∧m.weight≤4:=by
 simp only[Yd,Bool.and_eq_true,List.all_eq_true] at h
 have:=h.2 m hm
 simp only[Yv,Bool.and_eq_true,decide_eq_true_eq] at this
 exact this.1
theorem Zqq {c:GConf} (h:Yd c=true):1≤c.quantum∧c.quantum≤4:=by
 simp only[Yd,Bool.and_eq_true,decide_eq_true_eq] at h
 exact h.1.1.1.2
theorem Z0g {c:GConf} {i:Int} (h:Yd c=true) (hm:Zb c i=true):1≤Zny c i∧Zny c i≤4:=by
 obtain⟨m,_,h1,h2⟩:=Zui hm
 rw[←h2];exact Zrt h h1
theorem Z0m {a b:Int} (h1:1≤a) (h2:a≤4) (h3:1≤b) (h4:b≤4):1≤a*b∧a*b≤16:=by
 have:a=1∨a=2∨a=3∨a=4:=by omega
 rcases this with rfl|rfl|rfl|rfl<;>omega
theorem Zl9 {c:GConf} {i:Int} (h:Yd c=true) (hm:Zb c i=true):1≤Js c i∧Js c i≤16:=by
 unfold Js
 rw[if_pos ⟨h,hm⟩]
 have h1:=Z0g h hm
 have h2:=Zqq h
 exact Z0m h1.1 h1.2 h2.1 h2.2
theorem Z4v {c:GConf} {i:Int}:Js c i=0↔¬(Yd c=true∧Zb c i=true):=by
 constructor
 ·intro h hc
  have:=Zl9 hc.1 hc.2
  omega
 ·intro h;unfold Js;rw[if_neg h]
theorem Zor (c:GConf) (i:Int):0≤Js c i∧Js c i≤16:=by
 by_cases h:Yd c=true∧Zb c i=true
 ·have:=Zl9 h.1 h.2;omega
 ·rw[Z4v.2 h];omega
theorem Zni {c:GConf} (i:Int) (hl:c.masters.length < 1048577):decide (0≤i∧i≤subW (c.masters.length:Int) 1)=Zb c i:=by
 rw[Y0 (by omega) (by omega)]
 unfold Zb
 congr 1
 apply propext
 omega
theorem Zhm (c:GConf) (i:Int) (hl:c.masters.length < 1048577):Zag c i=some (Js c i):=by
 unfold Zag
 rw[Zhz c hl,Option.bind_some,Yq,Option.bind_some,Zni i hl]
 unfold Zdm
 by_cases h1:Yd c=true
 ·by_cases h2:Zb c i=true
  ·obtain⟨m,hm1,hm2,hm3⟩:=Zui h2
   have hw:=Zrt h1 hm2
   have hq:=Zqq h1
   have:=Z0m hw.1 hw.2 hq.1 hq.2
   simp only[h1,h2,hm1,Bool.not_true,Bool.false_eq_true,if_false,Option.bind_some]
   rw[W5 (by omega) (by omega)]
   simp[Js,h1,h2,hm3]
  ·simp[Js,h1,h2]
 ·simp[Js,h1]
theorem Zxy (c:GConf) (i:Int) (hl:c.masters.length < 1048577):Zkt c i=some (Zb c i):=by
 unfold Zkt
 rw[K7,Option.bind_some,Zni i hl]
theorem Z1l (c:GConf) (i:Int) (hl:c.masters.length < 1048577):Zpb c i=some (Js c i):=by
 rw[←Zhm c i hl]
 unfold Zpb Zag
 rw[Zhz c hl,Z25 c hl,Zxy c i hl,Yq,Zni i hl]
 rfl
theorem Zfg (a b:Int):minI a b=min a b:=by unfold minI;omega
theorem Zq8 (a b:Int):maxI a b=max a b:=by unfold maxI;omega
theorem Jk {c:GConf} (h:Yd c=true):1≤(c.masters.length:Int)∧(c.masters.length:Int)≤4:=by
 simp only[Yd,Bool.and_eq_true,decide_eq_true_eq] at h
 exact h.1.1.1.1
theorem Znu {c:GConf} (h:Yd c=true):c.masters.length < 1048577:=by have:=Jk h;omega
instance:Inhabited GMConf:=⟨GMConf.z0⟩
instance:Inhabited GBucket:=⟨GBucket.z0⟩
theorem Zgz {c:GConf} {i:Int} (h:Yd c=true) (hm:Zb c i=true):Yv c (atI c.masters i)=true:=by
 simp only[Zb,decide_eq_true_eq] at hm
 have:=Zeh hm.1 hm.2
 simp only[Yd,Bool.and_eq_true,List.all_eq_true] at h
 exact h.2 _ this
theorem Jo {c:GConf} {m:GMConf} (h:Yv c m=true):-1≤m.every∧m.every≤1000∧0≤m.cap∧m.cap≤8:=by
 have h1:=Zkb c
 have h2:0≤2*Y3 c*(Yo c:Int):=Int.mul_nonneg (by omega) (by omega)
 simp only[Yv,Bool.and_eq_true,decide_eq_true_eq] at h
 obtain⟨h3,h4⟩:=h
 split at h4
 ·simp only[Bool.and_eq_true,decide_eq_true_eq] at h4;omega
 ·simp only[Bool.and_eq_true,decide_eq_true_eq] at h4;omega
def Zz (b:GBucket) (m:GMConf):Bool:=if m.prio then decide (0≤b.tokens∧b.tokens≤m.cap)&&decide (0≤b.count∧b.count < m.every) else decide (b.tokens=0)&&decide (b.count=0)
def Zjj (b:GBucket) (m:GMConf):GBucket:=if (m.prio&&Zz b m)=true then (if b.count+1=m.every then ⟨min (b.tokens+1) m.cap,0⟩ else ⟨b.tokens,b.count+1⟩) else b
def Ze4 (b:GBucket) (m:GMConf):GBucket×Bool:=if (m.prio&&Zz b m&&decide (b.tokens≠0))=true then (⟨b.tokens - 1,b.count⟩,true) else (b,false)
def Zqa (b:GBucket) (m:GMConf):GBucket:=if (m.prio&&Zz b m)=true then ⟨min (b.tokens+1) m.cap,b.count⟩ else b
def Zmp (m:GMConf):GBucket:=if m.prio then ⟨max m.cap 0,0⟩ else ⟨0,0⟩
theorem Ziv (b:GBucket) {m:GMConf} (h:-1≤m.every∧m.every≤1000):Jx b m=some (Zz b m):=by
 unfold Jx Zz
 rw[Yq,Option.bind_some,Yq,Option.bind_some,Y0 (by omega) (by omega)]
 by_cases h1:m.prio=true
 ·have e:(0≤b.count∧b.count≤m.every - 1)↔(0≤b.count∧b.count < m.every):=by omega
  by_cases h2:0≤b.tokens∧b.tokens≤m.cap
  ·simp[h1,h2,e]
  ·simp[h1,h2]
 ·simp[h1]
theorem Zjb {b:GBucket} {c:GConf} {m:GMConf} (h:Zz b m=true) (hm:Yv c m=true):0≤b.tokens∧b.tokens≤8∧0≤b.count∧b.count≤1000:=by
 have:=Jo hm
 unfold Zz at h
 split at h<;>simp only[Bool.and_eq_true,decide_eq_true_eq] at h<;>omega
theorem Zub (b:GBucket) {c:GConf} {m:GMConf} (h:Yv c m=true):Zdj b m=some (Zjj b m):=by
 have hm:=Jo h
 unfold Zdj K9 Zjj
 rw[Ziv b ⟨hm.1,hm.2.1⟩,Option.bind_some]
 by_cases h1:m.prio=true
 ·by_cases h2:Zz b m=true
  ·have:=Zjb h2 h
   simp only[h1,h2,Bool.not_true,Bool.false_eq_true,if_false,Bool.and_self,if_true]
   rw[Zp (by omega) (by omega),Zp (by omega) (by omega),Zfg,Int.min_comm]
   by_cases h3:b.count+1=m.every<;>simp[h3]
  ·simp[h1,h2]
 ·simp[h1]
theorem Zus (b:GBucket) {c:GConf} {m:GMConf} (h:Yv c m=true):Zdx b m=some (Ze4 b m):=by
 have hm:=Jo h
 unfold Zdx Qh Ze4
 rw[Ziv b ⟨hm.1,hm.2.1⟩,Option.bind_some]
 by_cases h1:m.prio=true
 ·by_cases h2:Zz b m=true
  ·have:=Zjb h2 h
   rw[Y0 (by omega) (by omega)]
   by_cases h3:b.tokens=0<;>simp[h1,h2,h3]
  ·simp[h1,h2]
 ·simp[h1]
theorem Zuq (b:GBucket) {c:GConf} {m:GMConf} (h:Yv c m=true):Zd8 b m=some (Zqa b m):=by
 have hm:=Jo h
 unfold Zd8 Jg Zqa
 rw[Ziv b ⟨hm.1,hm.2.1⟩,Option.bind_some]
 by_cases h1:m.prio=true
 ·by_cases h2:Zz b m=true
  ·have:=Zjb h2 h
   simp only[h1,h2,if_true,Bool.and_self]
   rw[Zp (by omega) (by omega),Zfg,Int.min_comm]
  ·simp[h1,h2]
 ·simp[h1]
theorem Zwb (m:GMConf):Zey m=some (Zmp m):=by
 unfold Zey Zmp
 rw[Zq8,Int.max_comm]
 by_cases h1:m.prio=true<;>simp[h1]
theorem Ybx {c:GConf} {m:GMConf} (h:Yv c m=true) (hs:0 < Y3 c∧(m.prio=true→0 < Yo c)):Zz (Zmp m) m=true:=by
 have hm:=Jo h
 unfold Zz Zmp
 by_cases h1:m.prio=true
 ·simp only[h1,if_true,Bool.and_eq_true,decide_eq_true_eq]
  simp only[Yv,h1,if_true,Bool.and_eq_true,decide_eq_true_eq] at h
  have h2:0 < Y3 c*(Yo c:Int):=Int.mul_pos hs.1 (by have:=hs.2 h1;omega)
  have h3:2*Y3 c*(Yo c:Int)=2*(Y3 c*(Yo c:Int)):=Int.mul_assoc ..
  omega
 ·simp[h1]
theorem Yal {b:GBucket} {c:GConf} {m:GMConf} (h:Zz b m=true) (hm:Yv c m=true):Zz (Zjj b m) m=true:=by
 have hb:=Jo hm
 have hn:=Zjb h hm
 unfold Zjj
 split
 ·rename_i h1
  simp only[Bool.and_eq_true] at h1
  unfold Zz at h
  rw[if_pos h1.1] at h
  simp only[Bool.and_eq_true,decide_eq_true_eq] at h
  split
  ·unfold Zz
   rw[if_pos h1.1]
   simp only[Bool.and_eq_true,decide_eq_true_eq]
   omega
  ·unfold Zz
   rw[if_pos h1.1]
   simp only[Bool.and_eq_true,decide_eq_true_eq]
   omega
 ·exact h
theorem Ya4 {b:GBucket} {c:GConf} {m:GMConf} (h:Zz b m=true) (hm:Yv c m=true):Zz (Ze4 b m).1 m=true:=by
 unfold Ze4
 split
 ·rename_i h1
  simp only[Bool.and_eq_true,decide_eq_true_eq] at h1
  unfold Zz at h ⊢
  rw[if_pos h1.1.1] at h ⊢
  simp only[Bool.and_eq_true,decide_eq_true_eq] at h ⊢
  omega
 ·exact h
theorem Z8s {b:GBucket} {c:GConf} {m:GMConf} (h:Zz b m=true) (hm:Yv c m=true):Zz (Zqa b m) m=true:=by
 have hb:=Jo hm
 unfold Zqa
 split
 ·rename_i h1
  simp only[Bool.and_eq_true] at h1
  unfold Zz at h ⊢
  rw[if_pos h1.1] at h ⊢
  simp only[Bool.and_eq_true,decide_eq_true_eq] at h ⊢
  omega
 ·exact h
def wrrG (w:GWrr) (c:GConf):Bool:=Yd c&&(Zb c w.at_&&decide (0≤w.credit∧w.credit≤Js c w.at_))
theorem Zul (w:GWrr) (c:GConf) (hl:c.masters.length < 1048577):Zid w c=some (wrrG w c):=by
 unfold Zid wrrG
 rw[Zhz c hl,Option.bind_some,Yq,Option.bind_some,Zni _ hl,Zhm c _ hl,Option.bind_some,Yq,Option.bind_some]
 by_cases h1:Yd c=true<;>by_cases h2:Zb c w.at_=true<;>simp[h1,h2]
def Zc3 (w:GWrr) (c:GConf) (wants:List Bool):Nat→Int→GWrr×Int
 | 0,_=>(⟨w.at_,0⟩,-1)
 | r+1,k=>if atI wants ((w.at_+k) % (wants.length:Int))=true then (⟨(w.at_+k) % (wants.length:Int),Js c ((w.at_+k) % (wants.length:Int)) - 1⟩,(w.at_+k) % (wants.length:Int)) else Zc3 w c wants r (k+1)
def Zcp (w:GWrr) (c:GConf) (wants:List Bool):GWrr×Int:=if (decide (0 < w.credit)&&atI wants w.at_)=true then (⟨w.at_,w.credit - 1⟩,w.at_) else Zc3 w c wants wants.length 1
def Zpy (w:GWrr) (c:GConf) (who:Int):GWrr:=if w.at_=who then ⟨w.at_,min (w.credit+1) (Js c who)⟩ else w
theorem Zfh {w:GWrr} {c:GConf} (h:wrrG w c=true):Yd c=true∧Zb c w.at_=true∧0≤w.credit∧w.credit≤Js c w.at_:=by
 simp only[wrrG,Bool.and_eq_true,decide_eq_true_eq] at h
 exact⟨h.1,h.2.1,h.2.2.1,h.2.2.2⟩
theorem Yay (w:GWrr) (c:GConf) (wants:List Bool) (h:wrrG w c=true) (hn:wants.length=c.masters.length):∀(m r:Nat) (k:Int),r < m→k+r=wants.length+1→1≤k→Zms w c wants m k=some (Zc3 w c wants r k)∧Zby w c wants m k=some (Zc3 w c wants r k):=by
 obtain⟨hc,hm,h1,h2⟩:=Zfh h
 have hl:=Jk hc
 have hl2:=Znu hc
 simp only[Zb,decide_eq_true_eq] at hm
 intro m
 induction m with
 | zero=>intro r k hr;omega
 | succ m ih=>
  intro r k hr hk h1k
  show Zff w c wants _ k=_∧Zfe w c wants _ k=_
  unfold Zff Zfe
  rw[←hn]
  cases r with
  | zero=>
   rw[if_neg (by simp;omega),if_neg (by simp;omega)]
   exact⟨rfl,rfl⟩
  | succ r=>
   have h0:0≤(w.at_+k) % (wants.length:Int):=Int.emod_nonneg _ (by omega)
   have h0':(w.at_+k) % (wants.length:Int) < (wants.length:Int):=Int.emod_lt_of_pos _ (by omega)
   have hmm:Zb c ((w.at_+k) % (wants.length:Int))=true:=by
    simp only[Zb,decide_eq_true_eq];omega
   have ht:=Zl9 hc hmm
   rw[if_pos (by simp;omega),if_pos (by simp;omega),Zeg (by omega),Option.bind_some,Option.bind_some,Zp (a:=w.at_) (by omega) (by omega),Kw (by omega),Xu h0 h0',Option.bind_some,Option.bind_some,Z1l c _ hl2,Zhm c _ hl2,Option.bind_some,Y0 (by omega) (by omega),Zp (a:=k) (by omega) (by omega)]
   have:=ih r (k+1) (by omega) (by omega) (by omega)
   simp only[Zc3]
   by_cases hq:atI wants ((w.at_+k) % (wants.length:Int))=true
   ·simp[hq]
   ·simp only[hq,if_false,Bool.false_eq_true]
    exact this
theorem Z0h (w:GWrr) (c:GConf) (wants:List Bool) (h:wrrG w c=true) (hn:wants.length=c.masters.length):Zho w c wants=some (Zcp w c wants):=by
 obtain⟨hc,hm,h1,h2⟩:=Zfh h
 have hl:=Jk hc
 have hl2:=Znu hc
 simp only[Zb,decide_eq_true_eq] at hm
 have hs:=(Yay w c wants h hn FU wants.length 1 (by have:=Yu;omega) (by omega) (by omega)).2
 have ht:=Zor c w.at_
 unfold Zho Zbu Zbt Zcp
 rw[Zul w c hl2,Option.bind_some,h,Xu hm.1 (by omega),Option.bind_some,hs,Y0 (by omega) (by omega)]
 have h3:¬((wants.length:Int)≠(c.masters.length:Int)):=by omega
 by_cases h4:0 < w.credit<;>by_cases h5:atI wants w.at_=true<;>simp[h3,h4,h5]
theorem Z0q (w:GWrr) (c:GConf) (who:Int) (h:wrrG w c=true):Zh3 w c who=some (Zpy w c who):=by
 obtain⟨hc,hm,h1,h2⟩:=Zfh h
 have hl2:=Znu hc
 have ht:=Zor c w.at_
 unfold Zh3 Zca Zpy
 rw[Zul w c hl2,Option.bind_some,h,Zhm c _ hl2,Option.bind_some,Zp (by omega) (by omega),Zfg,Int.min_comm]
 by_cases h4:w.at_=who<;>simp[h4]
theorem Z9e {w:GWrr} {c:GConf} (who:Int) (h:wrrG w c=true):wrrG (Zpy w c who) c=true:=by
 obtain⟨hc,hm,h1,h2⟩:=Zfh h
 unfold Zpy
 split
 ·rename_i h4
  subst h4
  have ht:=Zor c w.at_
  simp only[wrrG,Bool.and_eq_true,decide_eq_true_eq]
  exact⟨hc,hm,by omega,by omega⟩
 ·exact h
theorem Z8j {w:GWrr} {c:GConf} {wants:List Bool} (h:wrrG w c=true) (hn:wants.length=c.masters.length):∀(r:Nat) (k:Int),1≤k→wrrG (Zc3 w c wants r k).1 c=true∧((Zc3 w c wants r k).2=-1∨(Zb c (Zc3 w c wants r k).2=true∧atI wants (Zc3 w c wants r k).2=true)):=by
 obtain⟨hc,hm,h1,h2⟩:=Zfh h
 have hl:=Jk hc
 intro r
 induction r with
 | zero=>
  intro k _
  refine⟨?_,.inl rfl⟩
  simp only[Zc3]
  simp only[wrrG,Bool.and_eq_true,decide_eq_true_eq]
  exact⟨hc,hm,by omega,by omega⟩
 | succ r ih=>
  intro k hk
  simp only[Zc3]
  split
  ·rename_i hq
   have h0:0≤(w.at_+k) % (wants.length:Int):=Int.emod_nonneg _ (by omega)
   have h0':(w.at_+k) % (wants.length:Int) < (wants.length:Int):=Int.emod_lt_of_pos _ (by omega)
   have hmm:Zb c ((w.at_+k) % (wants.length:Int))=true:=by
    simp only[Zb,decide_eq_true_eq];omega
   have ht:=Zl9 hc hmm
   refine⟨?_,.inr ⟨hmm,hq⟩⟩
   simp only[wrrG,Bool.and_eq_true,decide_eq_true_eq]
   exact⟨hc,hmm,by omega,by omega⟩
  ·exact ih (k+1) (by omega)
theorem Z9h {w:GWrr} {c:GConf} {wants:List Bool} (h:wrrG w c=true) (hn:wants.length=c.masters.length):wrrG (Zcp w c wants).1 c=true∧((Zcp w c wants).2=-1∨(Zb c (Zcp w c wants).2=true∧atI wants (Zcp w c wants).2=true)):=by
 obtain⟨hc,hm,h1,h2⟩:=Zfh h
 unfold Zcp
 split
 ·rename_i h3
  simp only[Bool.and_eq_true,decide_eq_true_eq] at h3
  refine⟨?_,.inr ⟨hm,h3.2⟩⟩
  simp only[wrrG,Bool.and_eq_true,decide_eq_true_eq]
  exact⟨hc,hm,by omega,by omega⟩
 ·exact Z8j h hn _ _ (by omega)
def Zo (s:Int):Int:=if s=0 then 1 else if s=1 then 2 else if s=2 then 4 else 0
def K4 (s:Int):Int:=if s=0 then 256 else if s=1 then 65536 else if s=2 then 4294967296 else 0
def Ys (b:Int):Int:=if b=0 then 1 else if b=1 then 4 else if b=2 then 4 else if b=3 then 8 else 0
theorem Zcu (s:Int):0≤Zo s∧Zo s≤4:=by unfold Zo;repeat' split<;>omega
theorem Zil (s:Int):0≤K4 s∧K4 s≤4294967296:=by unfold K4;repeat' split<;>omega
theorem Zcr (b:Int):0≤Ys b∧Ys b≤8:=by unfold Ys;repeat' split<;>omega
theorem X4 (s:Int):Xi s=some (Zo s):=by
 unfold Xi
 rw[Yq,Option.bind_some]
 by_cases h:0≤s∧s≤2
 ·have:s=0∨s=1∨s=2:=by omega
  rcases this with rfl|rfl|rfl<;>rfl
 ·have:Zo s=0:=by unfold Zo;repeat' split<;>omega
  simp[h,this]
theorem Zcx (s:Int):Qf s=some (Zo s):=by
 rw[←X4]
 unfold Qf Xi
 rw[K7,Yq]
theorem J9 (b:Int):Wi b=some (Ys b):=by
 unfold Wi
 rw[Yq,Option.bind_some]
 by_cases h:0≤b∧b≤3
 ·have:b=0∨b=1∨b=2∨b=3:=by omega
  rcases this with rfl|rfl|rfl|rfl<;>rfl
 ·have:Ys b=0:=by unfold Ys;repeat' split<;>omega
  simp[h,this]
theorem Wn (s:Int):Xh s=some (K4 s):=by
 unfold Xh
 rw[X4,Option.bind_some,Option.bind_some]
 by_cases h:s=0∨s=1∨s=2
 ·rcases h with rfl|rfl|rfl<;>rfl
 ·have h1:Zo s=0:=by unfold Zo;repeat' split<;>omega
  have h2:K4 s=0:=by unfold K4;repeat' split<;>omega
  simp[h1,h2]
theorem Zp3 (s:Int):Zel s=some (K4 s):=by
 rw[←Wn]
 unfold Zel Xh
 simp only[Zcx,X4]
def numG (v s:Int):Bool:=decide (0≤v∧v < K4 s)
theorem Zfq (v s:Int):Zaf v s=some (numG v s):=by
 have:=Zil s
 unfold Zaf numG
 rw[Zp3,Option.bind_some,K7,Option.bind_some,Y0 (by omega) (by omega)]
 congr 2
 apply propext
 omega
theorem Zg4 (v s:Int):Zk v 0 (subW (K4 s) 1)=some (numG v s):=by
 have:=Zil s
 unfold numG
 rw[Yq,Y0 (by omega) (by omega)]
 congr 2
 apply propext
 omega
def Yj (a s:Int):Bool:=decide (0 < Zo s)&&(decide (0≤a)&&decide (a % Zo s=0))
theorem Zlk (a s:Int):Zbn a s=some (Yj a s):=by
 unfold Zbn Yj
 rw[X4,Option.bind_some,Option.bind_some]
 by_cases h1:0 < Zo s
 ·by_cases h2:0≤a
  ·rw[Zeg (by omega),Kw h2];simp[h1,h2]
  ·simp[h1,h2]
 ·simp[h1]
theorem Zdf (s:Int):0 < Zo s↔(0≤s∧s≤2):=by
 unfold Zo
 repeat' split<;>omega
theorem Zq2 (a s:Int):Zek a s=some (Yj a s):=by
 unfold Zek Yj
 rw[K7,Option.bind_some,Zcx,Option.bind_some]
 by_cases h1:0 < Zo s
 ·have h3:=(Zdf s).1 h1
  by_cases h2:0≤a
  ·rw[Zeg (by omega),Kw h2];simp[h1,h2,h3]
  ·simp[h1,h2,h3]
 ·have h3:¬(0≤s∧s≤2):=fun h=>h1 ((Zdf s).2 h)
  simp[h1,h3]
def Zhs (a s b:Int):Int:=if (Yj a s=true∧a < 512)∧Ys b≠0 then (if b=2∧(a+Zo s) % (4*Zo s)=0 then a+Zo s - 4*Zo s else a+Zo s) else -1
theorem Qx {a s:Int} (h:Yj a s=true):0 < Zo s∧0≤a∧a % Zo s=0:=by
 simpa [Yj,Bool.and_eq_true,decide_eq_true_eq] using h
theorem Zxw (a s b:Int):Zc9 a s b=some (Zhs a s b):=by
 have hb:=Zcu s
 unfold Zc9 Kj Zat Zhs
 rw[X4,Option.bind_some,Zlk,Option.bind_some,Yq,Option.bind_some,J9,Option.bind_some]
 by_cases h1:Yj a s=true
 ·obtain⟨h2,h3,h4⟩:=Qx h1
  by_cases h5:a < 512
  ·have h6:0≤a∧a≤511:=by omega
   rw[W5 (by omega) (by omega),Zp (by omega) (by omega),Y0 (by omega) (by omega),Zeg (by omega),Kw (by omega)]
   by_cases h7:Ys b=0
   ·simp[h1,h5,h6,h7]
   ·by_cases h8:b=2
    ·subst h8
     by_cases h9:(a+Zo s) % (4*Zo s)=0<;>simp[h1,h5,h6,h7,h9]
    ·simp[h1,h5,h6,h7,h8]
  ·have h6:¬(0≤a∧a≤511):=by omega
   simp[h1,h5,h6]
 ·simp[h1]
theorem Z3f {a s b:Int} (h:0≤Zhs a s b):Yj a s=true∧a < 512:=by
 unfold Zhs at h
 split at h
 ·rename_i h1;exact h1.1
 ·omega
def Zba (s b:Int):Nat→Int→Option (List Int)
 | 0,_=>some []
 | n+1,a=>if Zhs a s b < 0 then none else (Zba s b n (Zhs a s b)).map (a::·)
def Wz (a s b:Int):List Int:=(Zba s b (Ys b).toNat a).getD []
theorem Zmg (a s b:Int):Zab a s b=some (Wz a s b):=by
 have hb:=Zcr b
 unfold Zab
 have key:∀(n m:Nat) (x:Int) (out:List Int),n < m→(out.length:Int)+n=Ys b→Jb a s b m x out=some (match Zba s b n x with|some l=>out++l|none=>[]):=by
  intro n
  induction n with
  | zero=>
   intro m x out hm hk
   obtain⟨m,rfl⟩:∃m',m=m'+1:=⟨m - 1,by omega⟩
   show W1 a s b _ x out=_
   unfold W1 Qk
   have h1:¬((out.length:Int) < Ys b):=by omega
   simp[J9,h1,Zba]
  | succ n ih=>
   intro m x out hm hk
   obtain⟨m,rfl⟩:∃m',m=m'+1:=⟨m - 1,by omega⟩
   show W1 a s b _ x out=_
   unfold W1 Qk
   have h1:(out.length:Int) < Ys b:=by omega
   simp only[J9,Zxw,Option.bind_some,h1,decide_true,if_true,Zba,decide_eq_true_eq]
   by_cases h2:Zhs x s b < 0
   ·have h3:¬(Zhs x s b≥0):=by omega
    rw[if_neg h3,if_pos h2]
   ·have h3:Zhs x s b≥0:=by omega
    rw[if_pos h3,if_neg h2,Y7 (by simp;omega) (by simp;omega),Option.bind_some,ih m _ _ (by omega) (by simp;omega)]
    cases Zba s b n (Zhs x s b)<;>simp
 have:=key (Ys b).toNat FU a [] (by have:=Yu;omega) (by simp;omega)
 rw[this]
 unfold Wz
 cases Zba s b (Ys b).toNat a<;>simp
theorem Zxb {s b:Int}:∀{n:Nat} {a:Int} {l:List Int},Zba s b n a=some l→l.length=n∧(∀x∈l,Yj x s=true∧x < 512)∧(0 < n→l.head?=some a):=by
 intro n
 induction n with
 | zero=>intro a l h;simp only[Zba,Option.some.injEq] at h;subst h;simp
 | succ n ih=>
  intro a l h
  simp only[Zba] at h
  split at h
  ·cases h
  ·rename_i h1
   obtain⟨l',h2,rfl⟩:=Option.map_eq_some_iff.1 h
   obtain⟨h3,h4,_⟩:=ih h2
   refine⟨by simp[h3],fun x hx=>?_,fun _=>rfl⟩
   rcases List.mem_cons.1 hx with rfl|hx
   ·exact Z3f (s:=s) (b:=b) (by omega)
   ·exact h4 x hx
theorem Zs4 (a s b:Int):Wz a s b=[]∨((Wz a s b).length:Int)=Ys b:=by
 unfold Wz
 have hb:=Zcr b
 cases h:Zba s b (Ys b).toNat a with
 | none=>exact .inl rfl
 | some l=>
  have:=(Zxb h).1
  exact .inr (by simp only[Option.getD_some];omega)
theorem Zu8 {a s b x:Int} (h:x∈Wz a s b):Yj x s=true∧0≤x∧x < 512:=by
 unfold Wz at h
 cases h2:Zba s b (Ys b).toNat a with
 | none=>rw[h2] at h;simp at h
 | some l=>
  rw[h2] at h
  have:=(Zxb h2).2.1 x h
  exact⟨this.1,(Qx this.1).2.1,this.2⟩
theorem Z70 (a s b:Int):(Wz a s b).length≤8:=by
 have:=Zcr b
 rcases Zs4 a s b with h|h
 ·rw[h];simp
 ·omega
def Zll (a s b:Int):Bool:=(Wz a s b).all (fun x=>decide (x / 64=atI (Wz a s b) 0 / 64))&&decide (Wz a s b≠[])
theorem Z3h {x:Int} (h0:0≤x) (h1:x < 512):quoW x 64=x / 64:=Zq6 h0 (by omega) (by omega)
theorem Zp4 (a s b:Int):Zei a s b=some (Zll a s b):=by
 unfold Zei Zll
 rw[Zmg,Option.bind_some]
 generalize hA:Wz a s b=l
 have hm:∀x∈l,0≤x∧x < 512:=fun x hx=>by rw[←hA] at hx;exact (Zu8 hx).2
 have hl:l.length≤8:=by rw[←hA];exact Z70 a s b
 have key:∀(m k:Nat),k≤l.length→l.length - k < m→Zbv a s b m l k=some ((l.drop k).all (fun x=>decide (x / 64=atI l 0 / 64))&&decide (l≠[])):=by
  intro m
  induction m with
  | zero=>intro k _ h;omega
  | succ m ih=>
   intro k hk hm2
   show Zfc a s b _ l k=_
   unfold Zfc
   by_cases hc:k < l.length
   ·have h0:=hm _ (List.getElem_mem hc)
    have h1:=hm _ (List.getElem_mem (by omega:0 < l.length))
    rw[if_pos (by simpa using hc),Zt hc,Option.bind_some,show (0:Int)=((0:Nat):Int) from rfl,Zt (by omega:0 < l.length),Option.bind_some,Z3h h0.1 h0.2,Z3h h1.1 h1.2,Wp (by omega:0 < l.length),List.drop_eq_getElem_cons hc,List.all_cons]
    by_cases hq:(l[k]:Int) / (64:Int)=(l[0]:Int) / (64:Int)
    ·rw[if_neg (by simpa using hq),Z3 (by omega),ih (k+1) (by omega) (by omega),show (0:Int)=((0:Nat):Int) from rfl,Wp (by omega:0 < l.length),decide_eq_true hq,Bool.true_and]
    ·rw[if_pos (by simpa using hq),decide_eq_false hq,Bool.false_and,Bool.false_and]
   ·rw[if_neg (by simpa using hc),List.drop_eq_nil_of_le (by omega)]
    simp[List.length_pos_iff]
 have:=key FU 0 (Nat.zero_le _) (by have:=Yu;omega)
 simpa using this
instance:Inhabited GReq:=⟨GReq.z0⟩
def reqG (r:GReq):Bool:=Zll r.addr r.size r.burst&&(decide ((r.data_.length:Int)=if r.write then Ys r.burst else 0)&&r.data_.all fun v=>numG v r.size)
def GReq.sm (r:GReq):Prop:=r.data_.length < 1048577
theorem Zum (r:GReq) (hs:r.sm):Zik r=some (reqG r):=by
 unfold GReq.sm at hs
 unfold Zik
 rw[Zp4,Option.bind_some]
 have hb:=Zcr r.burst
 have key:∀(m k:Nat),k≤r.data_.length→r.data_.length - k < m→Zex r m k=some (decide ((r.data_.length:Int)=if r.write then Ys r.burst else 0)&&(r.data_.drop k).all fun v=>numG v r.size):=by
  intro m
  induction m with
  | zero=>intro k _ h;omega
  | succ m ih=>
   intro k hk hm
   show Zg8 r _ k=_
   unfold Zg8
   by_cases hc:k < r.data_.length
   ·rw[if_pos (by simpa using hc),Zt hc,Option.bind_some,Wn,Option.bind_some,Zg4,Option.bind_some,List.drop_eq_getElem_cons hc,List.all_cons]
    by_cases hq:numG r.data_[k] r.size=true
    ·rw[if_neg (by simp[hq]),Z3 (by omega),ih (k+1) (by omega) (by omega)]
     simp[hq]
    ·rw[if_pos (by simp[hq])]
     simp[hq]
   ·rw[if_neg (by simpa using hc),List.drop_eq_nil_of_le (by omega),J9]
    cases h2:r.write<;>simp only[if_true,if_false,Bool.false_eq_true,Option.bind_some,List.all_nil,Bool.and_true]<;>generalize decide ((r.data_.length:Int)=0)=x<;>generalize decide ((r.data_.length:Int)=Ys r.burst)=y<;>cases x<;>cases y<;>rfl
 have:=key FU 0 (Nat.zero_le _) (by have:=Yu;omega)
 unfold reqG
 by_cases h1:Zll r.addr r.size r.burst=true
 ·rw[if_neg (by simp[h1]),show (0:Int)=((0:Nat):Int) from rfl,this]
  simp[h1]
 ·rw[if_pos (by simp[h1])]
  simp[h1]
theorem Zcs {r:GReq} (h:reqG r=true):Zll r.addr r.size r.burst=true∧(r.data_.length:Int)=(if r.write then Ys r.burst else 0)∧∀v∈r.data_,numG v r.size=true:=by
 simp only[reqG,Bool.and_eq_true,decide_eq_true_eq,List.all_eq_true] at h
 exact⟨h.1,h.2.1,h.2.2⟩
theorem Ziq {a s b:Int} (h:Zll a s b=true):((Wz a s b).length:Int)=Ys b∧1≤Ys b:=by
 simp only[Zll,Bool.and_eq_true,decide_eq_true_eq] at h
 rcases Zs4 a s b with h1|h1
 ·exact absurd h1 h.2
 ·have:0 < (Wz a s b).length:=List.length_pos_iff.2 h.2
  omega
theorem req_sm {r:GReq} (h:reqG r=true):r.sm:=by
 have:=(Zcs h).2.1
 have hb:=Zcr r.burst
 unfold GReq.sm
 split at this<;>omega
theorem Zp2 (r:GReq) (hs:r.sm):Zar r=some r:=by
 unfold GReq.sm at hs
 unfold Zar
 rw[Y7 (by simp;omega) (by simp;omega)]
 rfl
instance:Inhabited GMst:=⟨GMst.z0⟩
def Ze (m:GMst):Int:=if m.queue=[] then 0 else Ys (atI m.queue 0).burst
theorem Zok (m:GMst):0≤Ze m∧Ze m≤8:=by
 unfold Ze
 have:=Zcr (atI m.queue 0).burst
 split<;>omega
def Zud (m:GMst):Bool:=decide (m.queue.length≤4)&&(decide (0≤m.tries)&&(m.queue.all reqG&&
 (if m.queue=[] then decide (m.beat=0)&&(decide (m.done=0)&&(decide (m.tries=0)&&(!m.parted&&!m.broken))) else decide (0≤m.done∧m.done≤Ze m - 1)&&decide (m.done≤m.beat∧m.beat≤min (m.done+2) (Ze m)))))
def GMst.sm (m:GMst):Prop:=m.queue.length < 1048577∧∀r∈m.queue,r.sm
structure RightP (m:GMst):Prop where
 len:m.queue.length≤4
 tries:0≤m.tries
 reqs:∀r∈m.queue,reqG r=true
 none:m.queue=[]→m.beat=0∧m.done=0∧m.tries=0∧m.parted=false∧m.broken=false
 some:m.queue≠[]→0≤m.done∧m.done < Ze m∧m.done≤m.beat∧m.beat≤m.done+2∧m.beat≤Ze m
theorem Zir {m:GMst}:Zud m=true↔RightP m:=by
 unfold Zud
 by_cases h:m.queue=[]
 ·constructor
  ·intro h1
   simp only[h,if_true,Bool.and_eq_true,decide_eq_true_eq,Bool.not_eq_true'] at h1
   exact⟨by simp[h],h1.2.1,by simp[h],fun _=>⟨h1.2.2.2.1,h1.2.2.2.2.1,h1.2.2.2.2.2.1,h1.2.2.2.2.2.2.1,h1.2.2.2.2.2.2.2⟩,fun h2=>absurd h h2⟩
  ·intro h1
   obtain⟨h2,h3,h4,h5,h6⟩:=h1.none h
   simp[h,h2,h3,h4,h5,h6]
 ·constructor
  ·intro h1
   rw[if_neg h] at h1
   simp only[Bool.and_eq_true,decide_eq_true_eq,List.all_eq_true] at h1
   exact⟨h1.1,h1.2.1,h1.2.2.1,fun h2=>absurd h2 h,fun _=>by omega⟩
  ·intro h1
   have h2:=h1.some h
   rw[if_neg h]
   simp only[Bool.and_eq_true,decide_eq_true_eq,List.all_eq_true]
   exact⟨h1.len,h1.tries,h1.reqs,by omega,by omega⟩
theorem RightP.sm {m:GMst} (h:RightP m):m.sm:=⟨by have:=h.len;omega,fun r hr=>req_sm (h.reqs r hr)⟩
theorem Zjh (m:GMst):Ql m=some (Ze m):=by
 unfold Ql Ze
 by_cases h:m.queue=[]
 ·simp[h]
 ·have h1:0 < m.queue.length:=List.length_pos_iff.2 h
  rw[if_neg (by simpa using h),if_neg h,Xu (by omega) (by omega),Option.bind_some,J9]
  rfl
theorem Zbc (m:GMst) (hs:m.sm):Qi m=some (Zud m):=by
 have hb:=Zok m
 have hJ:X6 m false=some (if m.queue=[] then decide (m.beat=0)&&(decide (m.done=0)&&(decide (m.tries=0)&&(!m.parted&&!m.broken))) else decide (0≤m.done∧m.done≤Ze m - 1)&&decide (m.done≤m.beat∧m.beat≤min (m.done+2) (Ze m))):=by
  unfold X6
  rw[Zjh,Option.bind_some,Option.bind_some,Yq,Option.bind_some,Yq,Option.bind_some,Y0 (by omega) (by omega)]
  by_cases h:m.queue=[]
  ·rw[if_neg (by simp),if_pos (by simpa using h),if_pos h]
   by_cases h1:m.beat=0<;>by_cases h2:m.done=0<;>by_cases h3:m.tries=0<;>by_cases h4:m.parted=true<;>simp[h1,h2,h3,h4]
  ·rw[if_neg (by simp),if_neg (by simpa using h),if_neg h]
   by_cases h1:0≤m.done∧m.done≤Ze m - 1
   ·rw[Zp (by omega) (by omega),Zfg]
    simp[h1]
   ·simp[h1]
 unfold Qi
 have hl:=hs.1
 have key:∀(n k:Nat),k≤m.queue.length→m.queue.length - k < n→Zaz m n k=some (decide (m.queue.length≤4)&&(decide (0≤m.tries)&&((m.queue.drop k).all reqG&&
 (if m.queue=[] then decide (m.beat=0)&&(decide (m.done=0)&&(decide (m.tries=0)&&(!m.parted&&!m.broken))) else decide (0≤m.done∧m.done≤Ze m - 1)&&decide (m.done≤m.beat∧m.beat≤min (m.done+2) (Ze m)))))):=by
  intro n
  induction n with
  | zero=>intro k _ h;omega
  | succ n ih=>
   intro k hk hm
   show Zed m _ k=_
   unfold Zed
   by_cases hc:k < m.queue.length
   ·rw[if_pos (by simpa using hc),Zt hc,Option.bind_some,Zum _ (hs.2 _ (List.getElem_mem hc)),Option.bind_some,List.drop_eq_getElem_cons hc,List.all_cons]
    by_cases hq:reqG m.queue[k]=true
    ·rw[if_neg (by simp[hq]),Z3 (by omega),ih (k+1) (by omega) (by omega)]
     simp[hq]
    ·rw[if_pos (by simp[hq])]
     simp[hq]
   ·rw[if_neg (by simpa using hc),List.drop_eq_nil_of_le (by omega)]
    by_cases h1:(m.queue.length:Int) > 4
    ·have h2:¬m.queue.length≤4:=by omega
     simp[h1,h2,X6]
    ·have h2:m.queue.length≤4:=by omega
     by_cases h3:m.tries < 0
     ·have h4:¬0≤m.tries:=by omega
      simp[h1,h2,h3,h4,X6]
     ·have h4:0≤m.tries:=by omega
      rw[if_neg (by simpa using h1),decide_eq_false h3,hJ]
      simp only[h2,h4,decide_true,Bool.true_and,List.all_nil]
 have:=key FU 0 (Nat.zero_le _) (by have:=Yu;omega)
 simpa [Zud] using this
theorem Zco (m:GMst) (hs:m.sm):Q8 m=some m:=by
 unfold Q8
 refine (Z72 64 (by decide) m.queue hs.1 Zar (fun r hr=>Zp2 r (hs.2 r hr)) (fun v=>some {m with queue:=v}) (Zce m) (fun n v i=>rfl)).trans ?_
 rfl
def Wf (m:GMst) (r:GReq):GMst:=if reqG r=true∧m.queue.length≠4 then {m with queue:=m.queue++[r]} else m
def Znj (m:GMst):Bool:=decide (m.beat < Ze m)
def X3 (m:GMst) (b:Int):Int:=if 0≤b∧b≤Ze m - 1 then atI (Wz (atI m.queue 0).addr (atI m.queue 0).size (atI m.queue 0).burst) b else -1
def Z8 (m:GMst):GMst:=if m.beat < Ze m∧m.beat≠m.done+2 then {m with beat:=m.beat+1} else m
def Qe (m:GMst):GMst:=if m.beat=m.done then m else {m with beat:=m.beat - 1}
def endG (m:GMst):GMst:=if m.beat=m.done then m else if m.done+1=Ze m then GMst.mk m.queue.tail 0 0 0 false false else GMst.mk m.queue m.beat (m.done+1) 0 false m.broken
theorem Zde {m:GMst} (h:RightP m):0≤m.done∧m.done≤8∧0≤m.beat∧m.beat≤8:=by
 have hb:=Zok m
 by_cases hq:m.queue=[]
 ·have:=h.none hq;omega
 ·have:=h.some hq;omega
theorem Zmt {m:GMst} (h:RightP m) (hq:m.queue≠[]):reqG (atI m.queue 0)=true∧Ze m=Ys (atI m.queue 0).burst∧1≤Ze m:=by
 have h1:0 < m.queue.length:=List.length_pos_iff.2 hq
 have h2:reqG (atI m.queue 0)=true:=h.reqs _ (Zeh (by omega) (by omega))
 have h3:Ze m=Ys (atI m.queue 0).burst:=by unfold Ze;rw[if_neg hq]
 exact⟨h2,h3,by rw[h3];exact (Ziq (Zcs h2).1).2⟩
theorem Zzr {m:GMst} {b:Int} (h:RightP m) (h0:0≤b) (h1:b < Ze m):X3 m b∈Wz (atI m.queue 0).addr (atI m.queue 0).size (atI m.queue 0).burst∧Yj (X3 m b) (atI m.queue 0).size=true∧0≤X3 m b∧X3 m b < 512:=by
 have hq:m.queue≠[]:=by
  intro hq
  unfold Ze at h1
  rw[if_pos hq] at h1
  omega
 obtain⟨h2,h3,h4⟩:=Zmt h hq
 have h5:=(Ziq (Zcs h2).1).1
 have h6:X3 m b=atI (Wz (atI m.queue 0).addr (atI m.queue 0).size (atI m.queue 0).burst) b:=by
  unfold X3;rw[if_pos (by omega)]
 have h7:=Zeh (xs:=Wz (atI m.queue 0).addr (atI m.queue 0).size (atI m.queue 0).burst) h0 (by omega)
 rw[h6]
 have h8:=Zu8 h7
 exact⟨h7,h8.1,h8.2.1,h8.2.2⟩
theorem J8 {m:GMst} (b:Int) (h:RightP m):Jn m b=some (X3 m b):=by
 have hb:=Zok m
 unfold Jn Zb4
 rw[Zbc m h.sm,Option.bind_some,Zir.2 h,Zjh,Option.bind_some,Yq,Option.bind_some,Y0 (by omega) (by omega)]
 by_cases h1:0≤b∧b≤Ze m - 1
 ·have hq:m.queue≠[]:=by
   intro hq
   unfold Ze at h1
   rw[if_pos hq] at h1
   omega
  obtain⟨h2,h3,h4⟩:=Zmt h hq
  have h5:=(Ziq (Zcs h2).1).1
  have h6:0 < m.queue.length:=List.length_pos_iff.2 hq
  rw[Xu (by omega) (by omega),Option.bind_some,Zmg,Option.bind_some,Xu h1.1 (by omega)]
  simp[h1,X3]
 ·simp[h1,X3]
theorem Zpj {m:GMst} (h:RightP m):Zcl m=some (Znj m):=by
 unfold Zcl Znj
 rw[Zbc m h.sm,Option.bind_some,Zir.2 h,Zjh]
 rfl
theorem Zyn {m:GMst} {r:GReq} (h:RightP m) (hr:r.sm):∃b,Zhu m r=some (Wf m r,b):=by
 have hl:=h.len
 unfold Zhu K6 Wf
 rw[Zco m h.sm,Option.bind_some,Zbc m h.sm,Option.bind_some,Zir.2 h,Zum r hr,Option.bind_some,Zp2 r hr,Option.bind_some,Y7 (by simp;omega) (by simp;omega),Option.bind_some]
 by_cases h1:reqG r=true
 ·by_cases h2:m.queue.length=4
  ·simp[h1,h2]
  ·have h3:¬((m.queue.length:Int)=4):=by omega
   simp[h1,h2,h3]
 ·simp[h1]
theorem Zxz {m:GMst} (h:RightP m):∃b,Zgv m=some (Z8 m,b):=by
 have hb:=Zde h
 unfold Zgv Zaq Z8
 rw[Zco m h.sm,Option.bind_some,Zpj h,Option.bind_some,Zp (a:=m.done) (by omega) (by omega),Zp (by omega) (by omega)]
 unfold Znj
 by_cases h1:m.beat < Ze m
 ·by_cases h2:m.beat=m.done+2<;>simp[h1,h2]
 ·simp[h1]
theorem Z0e {m:GMst} (h:RightP m):∃b,Zhe m=some (Qe m,b):=by
 have hb:=Zde h
 unfold Zhe Zbx Qe
 rw[Zco m h.sm,Option.bind_some,Zbc m h.sm,Option.bind_some,Zir.2 h,Y0 (by omega) (by omega)]
 by_cases h1:m.beat=m.done<;>simp[h1]
theorem Zod {α:Type} (xs:List α) (h:xs≠[]) (hl:xs.length < 1048577):Wc xs 1 (xs.length:Int)=some xs.tail:=by
 have h1:0 < xs.length:=List.length_pos_iff.2 h
 unfold Wc
 rw[if_pos ⟨by omega,by omega,by omega⟩]
 congr 1
 rw[List.take_of_length_le (by simp),←List.drop_one]
 rfl
theorem Zcw {m:GMst} (h:RightP m) (hb:m.beat≠m.done):m.queue≠[]:=by
 intro hq;have:=h.none hq;omega
theorem Z2m {m:GMst} (h:RightP m):∃b,Zjz m=some (endG m,b):=by
 have hb:=Zde h
 have hl:=h.len
 unfold Zjz Zdl endG
 rw[Zco m h.sm,Option.bind_some,Zbc m h.sm,Option.bind_some,Zir.2 h,Zp (by omega) (by omega),Zjh,Option.bind_some]
 by_cases h1:m.beat=m.done
 ·simp[h1]
 ·rw[Zod _ (Zcw h h1) (by omega),Option.bind_some]
  by_cases h2:m.done+1=Ze m<;>simp[h1,h2]
theorem Zsj {m:GMst} {r:GReq} (h:m.queue≠[]):atI (m.queue++[r]) 0=atI m.queue 0:=by
 cases hq:m.queue with
 | nil=>exact absurd hq h
 | cons a l=>rfl
theorem Z4t {m:GMst} {r:GReq} (h:RightP m):RightP (Wf m r):=by
 unfold Wf
 split
 ·rename_i h1
  have hl:=h.len
  have hne:m.queue++[r]≠[]:=by simp
  refine⟨by simp;omega,h.tries,fun x hx=>?_,fun hx=>absurd hx hne,fun _=>?_⟩
  ·rcases List.mem_append.1 hx with hx|hx
   ·exact h.reqs x hx
   ·rw[List.mem_singleton.1 hx];exact h1.1
  ·by_cases hq:m.queue=[]
   ·obtain⟨h2,h3,h4,h5,h6⟩:=h.none hq
    have hm:Ze {m with queue:=m.queue++[r]}=Ys r.burst:=by
     unfold Ze;rw[if_neg hne];simp[hq,atI]
    have:=(Ziq (Zcs h1.1).1).2
    rw[hm]
    simp only[h2,h3]
    omega
   ·have h2:=h.some hq
    have hm:Ze {m with queue:=m.queue++[r]}=Ze m:=by
     unfold Ze;rw[if_neg hne,if_neg hq];simp only[Zsj hq]
    rw[hm]
    exact h2
 ·exact h
theorem Z20 {m:GMst} (h:RightP m):RightP (Z8 m):=by
 unfold Z8
 split
 ·rename_i h1
  have hq:m.queue≠[]:=by
   intro hq
   unfold Ze at h1
   rw[if_pos hq] at h1
   have:=Zde h
   omega
  have h2:=h.some hq
  refine⟨h.len,h.tries,h.reqs,fun hx=>absurd hx hq,fun _=>?_⟩
  have hm:Ze {m with beat:=m.beat+1}=Ze m:=rfl
  rw[hm]
  simp only
  omega
 ·exact h
theorem Zuc {m:GMst} (h:RightP m):RightP (Qe m):=by
 unfold Qe
 split
 ·exact h
 ·rename_i h1
  have hq:=Zcw h h1
  have h2:=h.some hq
  refine⟨h.len,h.tries,h.reqs,fun hx=>absurd hx hq,fun _=>?_⟩
  have hm:Ze {m with beat:=m.beat - 1}=Ze m:=rfl
  rw[hm]
  simp only
  omega
theorem Z7p {m:GMst} (h:RightP m):RightP (endG m):=by
 unfold endG
 split
 ·exact h
 ·rename_i h1
  have hq:=Zcw h h1
  have h2:=h.some hq
  split
  ·have hr:∀r∈m.queue.tail,reqG r=true:=fun r hr=>h.reqs r (List.mem_of_mem_tail hr)
   refine⟨by have:=h.len;simp;omega,by simp,hr,fun _=>by simp,fun hx=>?_⟩
   have h3:RightP (GMst.mk m.queue.tail 0 0 0 false false)→True:=fun _=>trivial
   have h4:0 < m.queue.tail.length:=List.length_pos_iff.2 hx
   have h5:reqG (atI m.queue.tail 0)=true:=hr _ (Zeh (by omega) (by omega))
   have h6:=(Ziq (Zcs h5).1).2
   have hm:Ze (GMst.mk m.queue.tail 0 0 0 false false)=Ys (atI m.queue.tail 0).burst:=by
    unfold Ze;rw[if_neg hx]
   rw[hm]
   simp only
   omega
  ·rename_i h3
   refine⟨h.len,by simp,h.reqs,fun hx=>absurd hx hq,fun _=>?_⟩
   have hm:Ze (GMst.mk m.queue m.beat (m.done+1) 0 false m.broken)=Ze m:=rfl
   rw[hm]
   simp only
   omega
theorem Yan {a b:Int} {k:Nat} (h0:0≤a) (h1:a < 2^k) (hb:0≤b) (hk:b*2^k+a < 9223372036854775808):orW a (b*2^k)=a+b*2^k:=by
 obtain⟨a,rfl⟩:=Int.eq_ofNat_of_zero_le h0
 obtain⟨b,rfl⟩:=Int.eq_ofNat_of_zero_le hb
 have e1:(b:Int)*2^k=((b*2^k:Nat):Int):=by simp
 rw[e1] at hk ⊢
 have h1':a < 2^k:=by
  have:((a:Nat):Int) < ((2^k:Nat):Int):=by simpa using h1
  exact Int.ofNat_lt.1 this
 have h2:a+b*2^k < 18446744073709551616:=by omega
 unfold orW
 show IntKind.i64.wrap (((BitVec.ofInt 64 ((a:Nat):Int) ||| BitVec.ofInt 64 ((b*2^k:Nat):Int)).toNat:Nat):Int)=_
 rw[BitVec.ofInt_natCast,BitVec.ofInt_natCast,BitVec.toNat_or,BitVec.toNat_ofNat,BitVec.toNat_ofNat,Nat.mod_eq_of_lt (by omega),Nat.mod_eq_of_lt (by omega)]
 have h3:a ||| b*2^k=a+b*2^k:=by
  rw[Nat.or_comm,←Nat.shiftLeft_eq,←Nat.shiftLeft_add_eq_or_of_lt h1',Nat.add_comm]
 rw[h3,Zip (by omega) (by omega)]
 simp
theorem Z9b {a:Int} (h0:0≤a) (h1:a < 9223372036854775808):andW a 255=a % 256:=by
 obtain⟨a,rfl⟩:=Int.eq_ofNat_of_zero_le h0
 unfold andW
 show IntKind.i64.wrap (((BitVec.ofInt 64 ((a:Nat):Int) &&& BitVec.ofInt 64 ((255:Nat):Int)).toNat:Nat):Int)=_
 rw[BitVec.ofInt_natCast,BitVec.ofInt_natCast,BitVec.toNat_and,BitVec.toNat_ofNat,BitVec.toNat_ofNat,Nat.mod_eq_of_lt (by omega),Nat.mod_eq_of_lt (by omega)]
 have h3:a &&& 255=a % 256:=Nat.and_two_pow_sub_one_eq_mod a 8
 rw[h3,Zip (by omega) (by omega)]
 omega
theorem Yam {a:Int} {k:Nat} (hk:k≤64) (h0:0≤a) (h1:a*2^k < 9223372036854775808):shlW a (k:Int)=a*2^k:=by
 unfold shlW
 have:min ((k:Int).toNat) IntKind.i64.bits=k:=by
  show min ((k:Int).toNat) 64=k
  omega
 rw[this]
 have:0≤a*2^k:=Int.mul_nonneg h0 (Int.pow_nonneg (by omega))
 exact Zip (by omega) h1
theorem Ybl {a:Int} {k:Nat} (hk:k≤64) (h0:0≤a):shrW a (k:Int)=a / 2^k:=by
 unfold shrW
 have:min ((k:Int).toNat) IntKind.i64.bits=k:=by
  show min ((k:Int).toNat) 64=k
  omega
 rw[this,Int.fdiv_eq_ediv_of_nonneg _ (Int.pow_nonneg (by omega))]
def Wv (n:Int):Bool:=decide (0≤n∧n≤255)
def memG (mem:List Int):Bool:=decide (mem.length≤512)&&mem.all Wv
def Zci (mem:List Int) (a s:Int):Bool:=memG mem&&(Yj a s&&decide (a≤(mem.length:Int) - Zo s))
theorem Zqh (mem:List Int) (a s:Int) (hl:mem.length < 1048577):Zha mem a s=some (Zci mem a s):=by
 have hb:=Zcu s
 have hf:Yh mem=some (!mem.all Wv):=by
  unfold Yh Xn
  refine Zxa mem (by omega) Zjg Wv (fun r hr=>?_) _ (fun m i=>rfl)
  unfold Zjg
  rw[K7];rfl
 unfold Zha Zci memG
 rw[hf,Option.bind_some,Zq2,Option.bind_some,Zcx,Option.bind_some,Y0 (by omega) (by omega)]
 by_cases h1:mem.length≤512
 ·have h2:(mem.length:Int)≤512:=by omega
  by_cases h3:mem.all Wv=true
  ·by_cases h4:Yj a s=true<;>simp only[h1,h2,h3,h4,decide_true,if_true,Bool.not_true,Bool.not_false,Bool.true_and,Bool.and_self,Bool.false_and,Bool.false_eq_true,if_false]
  ·simp[h1,h2,h3]
 ·have h2:¬(mem.length:Int)≤512:=by omega
  simp[h1,h2]
theorem Zqw (mem:List Int) (hl:mem.length < 1048577):Zeo mem=some (memG mem):=by
 unfold Zeo memG
 have key:∀(n k:Nat),k≤mem.length→mem.length - k < n→Zbp mem n k=some (decide (mem.length≤512)&&(mem.drop k).all Wv):=by
  intro n
  induction n with
  | zero=>intro k _ h;omega
  | succ n ih=>
   intro k hk hm
   show Zfd mem _ k=_
   unfold Zfd
   by_cases hc:k < mem.length
   ·rw[if_pos (by simpa using hc),Zt hc,Option.bind_some,Yq,Option.bind_some,List.drop_eq_getElem_cons hc,List.all_cons]
    by_cases hq:0≤mem[k]∧mem[k]≤255
    ·rw[if_neg (by simp[hq]),Z3 (by omega),ih (k+1) (by omega) (by omega)]
     simp[hq,Wv]
    ·rw[if_pos (by simp[hq])]
     simp[hq,Wv]
   ·rw[if_neg (by simpa using hc),List.drop_eq_nil_of_le (by omega)]
    by_cases h1:mem.length≤512
    ·have h2:(mem.length:Int)≤512:=by omega
     simp[h1,h2]
    ·have h2:¬(mem.length:Int)≤512:=by omega
     simp[h1,h2]
 have:=key FU 0 (Nat.zero_le _) (by have:=Yu;omega)
 simpa using this
theorem Zrj (mem:List Int) (a s:Int) (hl:mem.length < 1048577):Zfs mem a s=some (Zci mem a s):=by
 have hb:=Zcu s
 unfold Zfs Zci
 rw[Zqw mem hl,Option.bind_some,Zlk,Option.bind_some,X4,Option.bind_some,Y0 (by omega) (by omega)]
 by_cases h3:memG mem=true
 ·by_cases h4:Yj a s=true<;>simp only[h3,h4,if_true,Bool.true_and,Bool.false_and,Bool.false_eq_true,if_false]
 ·simp[h3]
def getL (mem:List Int):Nat→Int→Int
 | 0,_=>0
 | n+1,a=>atI mem a+256*getL mem n (a+1)
def putL:Nat→List Int→Int→Int→List Int
 | 0,l,_,_=>l
 | n+1,l,a,v=>putL n (l.set a.toNat (v % 256)) (a+1) (v / 256)
theorem Z8k:∀(n:Nat) (l:List Int) (a v:Int),(putL n l a v).length=l.length:=by
 intro n
 induction n with
 | zero=>intro l a v;rfl
 | succ n ih=>intro l a v;simp only[putL,ih,List.length_set]
theorem Z4k:∀(n:Nat) (l:List Int) (a v:Int),l.all Wv=true→(putL n l a v).all Wv=true:=by
 intro n
 induction n with
 | zero=>intro l a v h;exact h
 | succ n ih=>
  intro l a v h
  refine ih _ _ _ ?_
  rw[List.all_eq_true] at h ⊢
  intro x hx
  rcases List.mem_or_eq_of_mem_set hx with hx|rfl
  ·exact h x hx
  ·have h1:0≤v % 256:=Int.emod_nonneg _ (by omega)
   have h2:v % 256 < 256:=Int.emod_lt_of_pos _ (by omega)
   simp[Wv];omega
theorem Zwq (mem:List Int):∀(n:Nat) (a:Int),getL mem (n+1) a=getL mem n a+256^n*atI mem (a+n):=by
 intro n
 induction n with
 | zero=>intro a;simp[getL]
 | succ n ih=>
  intro a
  rw[getL,ih (a+1),getL]
  rw[Int.mul_add,←Int.mul_assoc,show (256:Int)*256^n=256^(n+1) by rw[Int.pow_succ,Int.mul_comm],show a+1+(n:Int)=a+((n+1:Nat):Int) by omega]
  omega
theorem Z32 {mem:List Int} (h:mem.all Wv=true):∀(n:Nat) (a:Int),0≤a→a+n≤(mem.length:Int)→0≤getL mem n a∧getL mem n a < 256^n:=by
 intro n
 induction n with
 | zero=>intro a _ _;simp[getL]
 | succ n ih=>
  intro a h0 h1
  have h2:=ih (a+1) (by omega) (by omega)
  have h3:=List.all_eq_true.1 h _ (Zeh h0 (by omega:a < (mem.length:Int)))
  simp only[Wv,decide_eq_true_eq] at h3
  simp only[getL]
  have e:(256:Int)^(n+1)=256*256^n:=by rw[Int.pow_succ,Int.mul_comm]
  rw[e]
  omega
def getG (mem:List Int) (a s:Int):Int:=getL mem (Zo s).toNat a
def putG (mem:List Int) (a s v:Int):List Int:=putL (Zo s).toNat mem a v
theorem Zgy {mem:List Int} {a s:Int} (h:Zci mem a s=true):mem.length≤512∧mem.all Wv=true∧0 < Zo s∧0≤a∧a+Zo s≤(mem.length:Int):=by
 simp only[Zci,memG,Bool.and_eq_true,decide_eq_true_eq] at h
 have:=Qx h.2.1
 exact⟨h.1.1,h.1.2,this.1,this.2.1,by omega⟩
theorem Zy6 (k:Nat) (h:k≤4):(256:Int)^k=2^(8*k)∧(256:Int)^k≤4294967296:=by
 have:k=0∨k=1∨k=2∨k=3∨k=4:=by omega
 rcases this with rfl|rfl|rfl|rfl|rfl<;>decide
theorem Z12 {mem:List Int} {a s:Int} (h:Zci mem a s=true):Zj5 mem a s=some (getG mem a s,true):=by
 obtain⟨h1,h2,h3,h4,h5⟩:=Zgy h
 have hb:=Zcu s
 unfold Zj5 getG
 rw[Zqh mem a s (by omega),Option.bind_some,h,if_neg (by simp),Zcx,Option.bind_some]
 have key:∀(r n k:Nat),r < n→(k:Int)+r=Zo s→Zd4 mem a s n (getL mem k a) (Zo s) k=some (getL mem (k+r) a,true):=by
  intro r
  induction r with
  | zero=>
   intro n k hn hk
   obtain⟨n,rfl⟩:∃m',n=m'+1:=⟨n - 1,by omega⟩
   show K1 mem a s _ (getL mem k a) (Zo s) k=_
   unfold K1
   rw[if_neg (by simp;omega)]
   rfl
  | succ r ih=>
   intro n k hn hk
   obtain⟨n,rfl⟩:∃m',n=m'+1:=⟨n - 1,by omega⟩
   show K1 mem a s _ (getL mem k a) (Zo s) k=_
   unfold K1
   have h6:0≤a+(k:Int):=by omega
   have h7:a+(k:Int) < (mem.length:Int):=by omega
   have h8:=List.all_eq_true.1 h2 _ (Zeh h6 h7)
   simp only[Wv,decide_eq_true_eq] at h8
   have h9:=Z32 h2 k a h4 (by omega)
   have hp:=Zy6 k (by omega)
   have hp1:(0:Int) < 2^(8*k):=Int.pow_pos (by omega)
   have h10:atI mem (a+k)*2^(8*k)≤255*4294967296:=by
    rw[←hp.1]
    exact Int.mul_le_mul h8.2 hp.2 (by rw[hp.1];omega) (by omega)
   rw[if_pos (by simp;omega),Zp (by omega) (by omega),Xu h6 h7,Option.bind_some,W5 (by omega) (by omega),Z7h (by omega),Option.bind_some,show (8:Int)*(k:Int)=((8*k:Nat):Int) by omega,Yam (by omega) h8.1 (by omega),Yan h9.1 (by rw[←hp.1];exact h9.2) h8.1 (by have:=h9.2;rw[hp.1] at this;have:=hp.2;rw[hp.1] at this;omega),Z3 (by omega)]
   have e:getL mem k a+atI mem (a+k)*2^(8*k)=getL mem (k+1) a:=by
    rw[Zwq,hp.1,Int.mul_comm]
   rw[e,ih n (k+1) (by omega) (by omega),show k+1+r=k+(r+1) by omega]
 have:=key (Zo s).toNat FU 0 (by have:=Yu;omega) (by omega)
 simpa [getL] using this
theorem Z1b {mem:List Int} {a s:Int} (h:Zci mem a s=true):Zjw mem a s=some (getG mem a s,true):=by
 obtain⟨h1,h2,h3,h4,h5⟩:=Zgy h
 have hb:=Zcu s
 unfold Zjw getG
 rw[Zrj mem a s (by omega),Option.bind_some,h,if_neg (by simp),X4,Option.bind_some,Y0 (by omega) (by omega)]
 have key:∀(r n j:Nat) (v:Int),r < n→(r:Int)≤Zo s→j+r≤4→0≤v→v < 256^j→Zd9 mem a s n v ((r:Int) - 1)=some (v*256^r+getL mem r a,true):=by
  intro r
  induction r with
  | zero=>
   intro n j v hn hk _ _ _
   obtain⟨n,rfl⟩:∃m',n=m'+1:=⟨n - 1,by omega⟩
   show Ja mem a s _ v _=_
   unfold Ja
   rw[if_neg (by simp)]
   simp[getL]
  | succ r ih=>
   intro n j v hn hk hj hv hv2
   obtain⟨n,rfl⟩:∃m',n=m'+1:=⟨n - 1,by omega⟩
   show Ja mem a s _ v _=_
   unfold Ja
   have h6:0≤a+(r:Int):=by omega
   have h7:a+(r:Int) < (mem.length:Int):=by omega
   have h8:=List.all_eq_true.1 h2 _ (Zeh h6 h7)
   simp only[Wv,decide_eq_true_eq] at h8
   have hp:=(Zy6 j (by omega)).2
   have e1:(256:Int)^(r+1)=256^r*256:=Int.pow_succ ..
   have e3:(256:Int)^(j+1)=256^j*256:=Int.pow_succ ..
   have e2:(((r+1:Nat):Int) - 1)=(r:Int):=by omega
   rw[e2,if_pos (by simp),Zp (by omega) (by omega),Xu h6 h7,Option.bind_some,W5 (by omega) (by omega),Zp (by omega) (by omega),Y0 (by omega) (by omega),ih n (j+1) _ (by omega) (by omega) (by omega) (by omega) (by rw[e3];omega)]
   rw[Zwq,Int.add_mul,e1,Int.mul_comm (256^r) 256,←Int.mul_assoc,Int.mul_comm (256^r) (atI mem (a+r))]
   congr 2
   omega
 have:=key (Zo s).toNat FU 0 0 (by have:=Yu;omega) (by omega) (by omega) (by omega) (by simp)
 rw[show ((Zo s).toNat:Int)=Zo s by omega] at this
 simpa using this
theorem Zln (xs:List Int) (h:xs.length < 1048577):Z6 xs=some xs:=by
 unfold Z6
 rw[Y7 (by simp;omega) (by simp;omega)]
 rfl
theorem Zn1 (xs:List Int) (h:xs.length < 1048577):appI 8 [] xs=some xs:=by
 rw[Y7 (by simp;omega) (by simp;omega)]
 rfl
theorem Z26 {mem:List Int} {a s v:Int} (h:Zci mem a s=true) (hv:numG v s=true):Zje mem a s v=some (putG mem a s v,true):=by
 obtain⟨h1,h2,h3,h4,h5⟩:=Zgy h
 have hb:=Zcu s
 have hl:=Zil s
 simp only[numG,decide_eq_true_eq] at hv
 unfold Zje Zdp putG
 rw[Zln mem (by omega),Option.bind_some,Zqh mem a s (by omega),Option.bind_some,h,if_neg (by simp),Zfq,Option.bind_some,Zcx,Option.bind_some]
 have hn:numG v s=true:=by simp[numG,hv]
 rw[hn,if_neg (by simp)]
 have key:∀(r n k:Nat) (l:List Int),r < n→(k:Int)+r=Zo s→l.length=mem.length→Zdt mem a s v n l (Zo s) k=some (putL r l (a+k) (v / 256^k),true):=by
  intro r
  induction r with
  | zero=>
   intro n k l hn hk _
   obtain⟨n,rfl⟩:∃m',n=m'+1:=⟨n - 1,by omega⟩
   show Ky mem a s v _ l (Zo s) k=_
   unfold Ky
   rw[if_neg (by simp;omega)]
   rfl
  | succ r ih=>
   intro n k l hn hk hl2
   obtain⟨n,rfl⟩:∃m',n=m'+1:=⟨n - 1,by omega⟩
   show Ky mem a s v _ l (Zo s) k=_
   unfold Ky
   have h6:0≤a+(k:Int):=by omega
   have h7:a+(k:Int) < (l.length:Int):=by omega
   have hp:=Zy6 k (by omega)
   have hp1:(0:Int) < 256^k:=Int.pow_pos (by omega)
   have h8:0≤v / 256^k:=Int.ediv_nonneg hv.1 (by omega)
   have h9:v / 256^k≤v:=Int.ediv_le_self _ hv.1
   rw[if_pos (by simp;omega),W5 (by omega) (by omega),Z7h (by omega),Option.bind_some,Zp (a:=a) (by omega) (by omega),Xu h6 h7,Option.bind_some,X2,Option.bind_some,show (8:Int)*(k:Int)=((8*k:Nat):Int) by omega,Ybl (by omega) hv.1,←hp.1,Z9b h8 (by omega),Z3 (by omega),ih n (k+1) _ (by omega) (by omega) (by simp[hl2])]
   simp only[putL]
   rw[Int.ediv_ediv_of_nonneg (by omega),←Int.pow_succ,show a+((k+1:Nat):Int)=a+k+1 by omega]
 have:=key (Zo s).toNat FU 0 mem (by have:=Yu;omega) (by omega) rfl
 simpa using this
theorem Z29 {mem:List Int} {a s v:Int} (h:Zci mem a s=true) (hv:numG v s=true):Zj3 mem a s v=some (putG mem a s v,true):=by
 obtain⟨h1,h2,h3,h4,h5⟩:=Zgy h
 have hb:=Zcu s
 have hl:=Zil s
 unfold Zj3 Zdy putG
 rw[Zn1 mem (by omega),Option.bind_some,Zrj mem a s (by omega),Option.bind_some,h,if_neg (by simp),Wn,Option.bind_some,Zg4,Option.bind_some,hv,if_neg (by simp)]
 simp only[numG,decide_eq_true_eq] at hv
 have key:∀(r n k:Nat) (l:List Int) (x:Int),r < n→(k:Int)+r=Zo s→l.length=mem.length→0≤x→x < 9223372036854775808→Zdu mem a s v n x l k=some (putL r l (a+k) x,true):=by
  intro r
  induction r with
  | zero=>
   intro n k l x hn hk _ _ _
   obtain⟨n,rfl⟩:∃m',n=m'+1:=⟨n - 1,by omega⟩
   show K5 mem a s v _ x l k=_
   unfold K5
   rw[X4,Option.bind_some,if_neg (by simp;omega)]
   rfl
  | succ r ih=>
   intro n k l x hn hk hl2 hx hx2
   obtain⟨n,rfl⟩:∃m',n=m'+1:=⟨n - 1,by omega⟩
   show K5 mem a s v _ x l k=_
   unfold K5
   have h6:0≤a+(k:Int):=by omega
   have h7:a+(k:Int) < (l.length:Int):=by omega
   rw[X4,Option.bind_some,if_pos (by simp;omega),Zp (a:=a) (by omega) (by omega),Xu h6 h7,Option.bind_some,X2,Option.bind_some,Kw hx,Zq6 hx hx2 (by omega),Z3 (by omega),ih n (k+1) _ _ (by omega) (by omega) (by simp[hl2]) (by omega) (by omega)]
   simp only[putL]
   rw[show a+((k+1:Nat):Int)=a+k+1 by omega]
 have:=key (Zo s).toNat FU 0 mem v (by have:=Yu;omega) (by omega) rfl hv.1 (by omega)
 simpa using this
def GDev.sm (d:GDev):Prop:=d.regs.length < 1048577∧d.fifo.length < 1048577
def devG (d:GDev):Bool:=decide (d.regs.length=4)&&(d.regs.all (fun v=>numG v 2)&&(numG d.timer 2&&(decide (d.fifo.length≤4)&&d.fifo.all fun v=>numG v 2)))
theorem Ztj (d:GDev) (hs:d.sm):Zih d=some (devG d):=by
 have hf:∀xs:List Int,xs.length < 1048577→Z0 xs=some (!xs.all fun v=>numG v 2):=by
  intro xs hl
  unfold Z0 Xl
  refine Zxa xs (by omega) Zh2 (fun v=>numG v 2) (fun r hr=>?_) _ (fun m i=>rfl)
  unfold Zh2
  rw[Zfq];rfl
 unfold Zih devG
 rw[hf _ hs.1,Option.bind_some,hf _ hs.2,Option.bind_some,Zfq,Option.bind_some]
 by_cases h1:d.regs.length=4
 ·have h2:(d.regs.length:Int)=4:=by omega
  by_cases h3:d.fifo.length≤4
  ·have h4:(d.fifo.length:Int)≤4:=by omega
   cases h5:(d.regs.all fun v=>numG v 2)<;>cases h6:(d.fifo.all fun v=>numG v 2)<;>cases h7:numG d.timer 2<;>simp[h1,h2,h3,h4]
  ·have h4:¬(d.fifo.length:Int)≤4:=by omega
   simp[h1,h2,h3,h4]
 ·have h2:¬(d.regs.length:Int)=4:=by omega
  simp[h1,h2]
theorem Zqv (xs:List Int) (hl:xs.length < 1048577):Zep xs=some (xs.all fun v=>numG v 2):=by
 unfold Zep
 have key:∀(n k:Nat),k≤xs.length→xs.length - k < n→Zbs xs n k=some ((xs.drop k).all fun v=>numG v 2):=by
  intro n
  induction n with
  | zero=>intro k _ h;omega
  | succ n ih=>
   intro k hk hm
   show Zfb xs _ k=_
   unfold Zfb
   by_cases hc:k < xs.length
   ·rw[if_pos (by simpa using hc),Zt hc,Option.bind_some,Wn,Option.bind_some,Zg4,Option.bind_some,List.drop_eq_getElem_cons hc,List.all_cons]
    by_cases hq:numG xs[k] 2=true
    ·rw[if_neg (by simp[hq]),Z3 (by omega),ih (k+1) (by omega) (by omega)]
     simp[hq]
    ·rw[if_pos (by simp[hq])]
     simp[hq]
   ·rw[if_neg (by simpa using hc),List.drop_eq_nil_of_le (by omega)]
    rfl
 have:=key FU 0 (Nat.zero_le _) (by have:=Yu;omega)
 simpa using this
theorem Ztr (d:GDev) (hs:d.sm):Zh9 d=some (devG d):=by
 unfold Zh9 devG
 rw[Zqv _ hs.1,Option.bind_some,Zqv _ hs.2,Option.bind_some,Wn,Option.bind_some,Zg4,Option.bind_some]
 by_cases h1:d.regs.length=4
 ·have h2:(d.regs.length:Int)=4:=by omega
  by_cases h3:d.fifo.length≤4
  ·have h4:(d.fifo.length:Int)≤4:=by omega
   cases h5:(d.regs.all fun v=>numG v 2)<;>cases h6:(d.fifo.all fun v=>numG v 2)<;>cases h7:numG d.timer 2<;>simp[h1,h2,h3,h4]
  ·have h4:¬(d.fifo.length:Int)≤4:=by omega
   cases h5:(d.regs.all fun v=>numG v 2)<;>cases h7:numG d.timer 2<;>simp[h1,h2,h3,h4]
 ·have h2:¬(d.regs.length:Int)=4:=by omega
  simp[h1,h2]
structure DevP (d:GDev):Prop where
 regs:d.regs.length=4
 nums:∀v∈d.regs,numG v 2=true
 timer:numG d.timer 2=true
 len:d.fifo.length≤4
 fifo:∀v∈d.fifo,numG v 2=true
theorem Zvw {d:GDev}:devG d=true↔DevP d:=by
 simp only[devG,Bool.and_eq_true,decide_eq_true_eq,List.all_eq_true]
 constructor
 ·intro h;exact⟨h.1,h.2.1,h.2.2.1,h.2.2.2.1,h.2.2.2.2⟩
 ·intro h;exact⟨h.regs,h.nums,h.timer,h.len,h.fifo⟩
theorem DevP.sm {d:GDev} (h:DevP d):d.sm:=⟨by have:=h.regs;omega,by have:=h.len;omega⟩
theorem Zr9 (d:GDev) (hs:d.sm):Zfo d=some d:=by
 unfold Zfo
 rw[Zln _ hs.1,Option.bind_some,Zln _ hs.2]
 rfl
theorem Zr1 (d:GDev) (hs:d.sm):Zgr d=some d:=by
 unfold Zgr
 rw[Zn1 _ hs.1,Option.bind_some,Zn1 _ hs.2]
 rfl
def Wk (d:GDev) (w:Bool) (a v:Int):GDev×Int×Bool:=
 if (w&&!numG v 2)=true then (d,0,false) else
 if a=16 then (if w then ({d with timer:=v},v,true) else ({d with timer:=(d.timer+1) % 4294967296},d.timer,true)) else
 if a=20 then (if w then (if d.fifo.length < 4 then ({d with fifo:=d.fifo++[v]},v,true) else (d,0,false)) else (if d.fifo=[] then (d,0,false) else ({d with fifo:=d.fifo.tail},atI d.fifo 0,true))) else
 if (0≤a∧a < 16)∧a % 4=0 then (if w then ({d with regs:=d.regs.set (a / 4).toNat v},v,true) else (d,atI d.regs (a / 4),true)) else (d,0,false)
theorem num2 {v:Int} (h:numG v 2=true):0≤v∧v < 4294967296:=by
 simpa [numG,K4] using h
theorem Z5n {d:GDev} (w:Bool) (a v:Int) (h:DevP d):Zml d w a v=some (Wk d w a v):=by
 have ht:=num2 h.timer
 have hl:=h.len
 have hr:=h.regs
 unfold Zml
 rw[Zr9 d h.sm,Option.bind_some,Ztj d h.sm,Option.bind_some,Zvw.2 h,Zfq,Option.bind_some]
 have hJ:Qw d w a v d false=some (if a=16 then (if w then ({d with timer:=v},v,true) else ({d with timer:=(d.timer+1) % 4294967296},d.timer,true)) else
 if a=20 then (if w then (if d.fifo.length < 4 then ({d with fifo:=d.fifo++[v]},v,true) else (d,0,false)) else (if d.fifo=[] then (d,0,false) else ({d with fifo:=d.fifo.tail},atI d.fifo 0,true))) else
 if (0≤a∧a < 16)∧a % 4=0 then (if w then ({d with regs:=d.regs.set (a / 4).toNat v},v,true) else (d,atI d.regs (a / 4),true)) else (d,0,false)):=by
  unfold Qw Zew Zbe Za8 Za4
  by_cases h16:a=16
  ·subst h16
   rw[Zp3,Option.bind_some,show K4 2=4294967296 from rfl,Zeg (by omega),Zp (by omega) (by omega),Kw (by omega)]
   cases w<;>simp
  ·by_cases h20:a=20
   ·subst h20
    cases w with
    | true=>
     by_cases h3:d.fifo.length < 4
     ·have h4:(d.fifo.length:Int) < 4:=by omega
      rw[Y7 (by simp;omega) (by simp;omega)]
      simp[h3,h4]
     ·have h4:¬(d.fifo.length:Int) < 4:=by omega
      simp[h3,h4]
    | false=>
     by_cases h3:d.fifo=[]
     ·simp[h3]
     ·have h4:0 < d.fifo.length:=List.length_pos_iff.2 h3
      have h5:(d.fifo.length:Int) > 0:=by omega
      rw[Xu (by omega) (by omega),Option.bind_some,Zod _ h3 (by omega),Option.bind_some,Zln _ (by simp;omega)]
      simp[h3,h5]
   ·by_cases h3:(0≤a∧a < 16)∧a % 4=0
    ·obtain⟨⟨h4,h5⟩,h6⟩:=h3
     have h7:¬a≥16:=by omega
     have h8:¬a < 0:=by omega
     rw[Zq6 h4 (by omega) (by omega),Xu (xs:=d.regs) (by omega) (by omega),Option.bind_some,Option.bind_some,X2,Kw h4]
     cases w<;>simp[h16,h20,h4,h5,h6,h7,h8]
    ·by_cases h4:a≥16
     ·have h5:¬a < 16:=by omega
      cases w<;>simp[h16,h20,h4,h5]
     ·by_cases h5:a < 0
      ·have h6:¬0≤a:=by omega
       cases w<;>simp[h16,h20,h4,h5,h6]
      ·have h6:a % 4≠0:=fun h=>h3 ⟨by omega,h⟩
       rw[Kw (by omega)]
       cases w<;>simp[h16,h20,h4,h5,h6]
 unfold Wk
 cases w with
 | false=>simp only[Bool.not_true,Bool.false_eq_true,if_false,Bool.false_and];exact hJ
 | true=>
  by_cases hv:numG v 2=true
  ·simp only[hv,Bool.not_true,Bool.false_eq_true,if_false,if_true,Bool.and_false]
   exact hJ
  ·simp[hv,Qw]
theorem Z40 {d:GDev} (w:Bool) (a v:Int) (h:DevP d):Zmm d w a v=some (Wk d w a v):=by
 have ht:=num2 h.timer
 have hl:=h.len
 have hr:=h.regs
 unfold Zmm
 rw[Zr1 d h.sm,Option.bind_some,Ztr d h.sm,Option.bind_some,Zvw.2 h,Wn,Option.bind_some,Zg4,Option.bind_some]
 have hJ:∀_:remW a 4=0,X5 d w a v d false=some (if a=16 then (if w then ({d with timer:=v},v,true) else ({d with timer:=(d.timer+1) % 4294967296},d.timer,true)) else
 if a=20 then (if w then (if d.fifo.length < 4 then ({d with fifo:=d.fifo++[v]},v,true) else (d,0,false)) else (if d.fifo=[] then (d,0,false) else ({d with fifo:=d.fifo.tail},atI d.fifo 0,true))) else
 if (0≤a∧a < 16)∧a % 4=0 then (if w then ({d with regs:=d.regs.set (a / 4).toNat v},v,true) else (d,atI d.regs (a / 4),true)) else (d,0,false)):=by
  intro hrem
  unfold X5 Zer Zez Za3 Zbd
  rw[Yq,Option.bind_some,Option.bind_some]
  by_cases h16:a=16
  ·subst h16
   rw[Wn,Option.bind_some,show K4 2=4294967296 from rfl,Zeg (by omega),Zp (by omega) (by omega),Kw (by omega)]
   cases w<;>simp
  ·by_cases h20:a=20
   ·subst h20
    cases w with
    | true=>
     by_cases h3:d.fifo.length < 4
     ·have h4:(d.fifo.length:Int) < 4:=by omega
      rw[Y7 (by simp;omega) (by simp;omega)]
      simp[h3,h4]
     ·have h4:¬(d.fifo.length:Int) < 4:=by omega
      simp[h3,h4]
    | false=>
     by_cases h3:d.fifo=[]
     ·simp[h3]
     ·have h4:0 < d.fifo.length:=List.length_pos_iff.2 h3
      have h5:(d.fifo.length:Int) > 0:=by omega
      rw[Xu (xs:=d.fifo) (by omega) (by omega),Option.bind_some,Zod _ h3 (by omega),Option.bind_some]
      simp[h3,h5]
   ·by_cases h3:0≤a∧a < 16
    ·rw[Kw h3.1] at hrem
     have h4:0≤a∧a≤12:=by omega
     rw[Zq6 h3.1 (by omega) (by omega),Xu (xs:=d.regs) (by omega) (by omega),Option.bind_some,Option.bind_some,X2]
     cases w<;>simp[h16,h20,h3,h4,hrem]
    ·have h4:¬(0≤a∧a≤12):=by omega
     cases w<;>simp[h16,h20,h3,h4]
 unfold Wk
 by_cases hrem:remW a 4=0
 ·rw[if_neg (by simp),if_neg (by simp[hrem])]
  cases w with
  | false=>simp only[Bool.false_eq_true,if_false,Bool.false_and];exact hJ hrem
  | true=>
   by_cases hv:numG v 2=true
   ·simp only[hv,Bool.not_true,Bool.false_eq_true,if_false,if_true,Bool.and_false]
    exact hJ hrem
   ·simp[hv,X5]
 ·have h16:a≠16:=fun h=>hrem (by subst h;rfl)
  have h20:a≠20:=fun h=>hrem (by subst h;rfl)
  have h3:¬((0≤a∧a < 16)∧a % 4=0):=fun h=>hrem (by rw[Kw h.1.1];exact h.2)
  rw[if_neg (by simp),if_pos (by simp[hrem])]
  simp only[h16,h20,h3,if_false,X5,if_true]
  split<;>rfl
theorem Yat {xs:List Int} {p:Int→Prop} (h:∀x∈xs,p x) {k:Nat} {v:Int} (hv:p v):∀x∈xs.set k v,p x:=by
 intro x hx
 rcases List.mem_or_eq_of_mem_set hx with hx|rfl
 ·exact h x hx
 ·exact hv
theorem Yad {d:GDev} {w:Bool} {a v:Int} (h:DevP d):DevP (Wk d w a v).1∧((Wk d w a v).2.2=true→numG (Wk d w a v).2.1 2=true):=by
 have ht:=num2 h.timer
 have hl:=h.len
 unfold Wk
 split
 ·exact⟨h,by simp⟩
 ·rename_i hw
  have hv:w=true→numG v 2=true:=by
   intro h1
   rw[h1] at hw
   simpa using hw
  split
  ·split
   ·rename_i h1
    exact⟨⟨h.regs,h.nums,hv h1,h.len,h.fifo⟩,fun _=>hv h1⟩
   ·refine⟨⟨h.regs,h.nums,?_,h.len,h.fifo⟩,fun _=>h.timer⟩
    have:K4 2=4294967296:=rfl
    simp only[numG,this,decide_eq_true_eq]
    omega
  ·split
   ·split
    ·rename_i h1
     split
     ·rename_i h2
      refine⟨⟨h.regs,h.nums,h.timer,by simp;omega,fun x hx=>?_⟩,fun _=>hv h1⟩
      rcases List.mem_append.1 hx with hx|hx
      ·exact h.fifo x hx
      ·rw[List.mem_singleton.1 hx];exact hv h1
     ·exact⟨h,by simp⟩
    ·split
     ·exact⟨h,by simp⟩
     ·rename_i h2
      have h4:0 < d.fifo.length:=List.length_pos_iff.2 h2
      refine⟨⟨h.regs,h.nums,h.timer,by simp;omega,fun x hx=>h.fifo x (List.mem_of_mem_tail hx)⟩,fun _=>h.fifo _ (Zeh (by omega) (by omega))⟩
   ·split
    ·rename_i h3
     split
     ·rename_i h1
      exact⟨⟨by simp[h.regs],Yat h.nums (hv h1),h.timer,h.len,h.fifo⟩,fun _=>hv h1⟩
     ·refine⟨h,fun _=>h.nums _ (Zeh (by omega) (by have:=h.regs;omega))⟩
    ·exact⟨h,by simp⟩
def Zw (a:Int):Int:=if a < 0∨224≤a then 0 else if a < 128 then 1 else if a < 192 then 2 else 3
theorem Zqy (a:Int):Zhq a=some (Zw a):=by
 unfold Zhq Zcj Zw
 by_cases h1:a < 0
 ·simp[h1]
 ·by_cases h2:a≥224
  ·simp[h1,h2]
  ·by_cases h3:a < 128
   ·simp[h1,h2,h3]
   ·by_cases h4:a < 192<;>simp[h1,h2,h3,h4]
theorem Zqp (a:Int):Zhi a=some (Zw a):=by
 rw[←Zqy]
 rfl
def GModel.sm (m:GModel):Prop:=m.mem.length < 1048577∧m.dev.sm
def Znh (m:GModel):Bool:=decide (m.mem.length=192)&&(m.mem.all Wv&&devG m.dev)
structure ModelP (m:GModel):Prop where
 len:m.mem.length=192
 bytes:m.mem.all Wv=true
 dev:DevP m.dev
theorem Zwt {m:GModel}:Znh m=true↔ModelP m:=by
 simp only[Znh,Bool.and_eq_true,decide_eq_true_eq,Zvw]
 constructor
 ·intro h;exact⟨h.1,h.2.1,h.2.2⟩
 ·intro h;exact⟨h.len,h.bytes,h.dev⟩
theorem ModelP.sm {m:GModel} (h:ModelP m):m.sm:=⟨by have:=h.len;omega,h.dev.sm⟩
theorem Zyy (m:GModel) (hs:m.sm):Zh0 m=some (Znh m):=by
 unfold Zh0 Znh
 rw[Zqh m.mem 0 0 hs.1,Option.bind_some,Ztj m.dev hs.2,Option.bind_some]
 by_cases h1:m.mem.length=192
 ·have h2:(m.mem.length:Int)=192:=by omega
  have h3:Zci m.mem 0 0=m.mem.all Wv:=by
   simp[Zci,memG,h1,Yj,Zo]
  rw[h3]
  cases h4:m.mem.all Wv<;>simp[h1,h2]
 ·have h2:¬(m.mem.length:Int)=192:=by omega
  simp[h1,h2]
theorem Zyj (m:GModel) (hs:m.sm):Zhf m=some (Znh m):=by
 unfold Zhf Znh
 rw[Zqw m.mem hs.1,Option.bind_some,Ztr m.dev hs.2,Option.bind_some]
 by_cases h1:m.mem.length=192
 ·have h2:(m.mem.length:Int)=192:=by omega
  have h3:memG m.mem=m.mem.all Wv:=by
   simp[memG,h1]
  rw[h3]
  cases h4:m.mem.all Wv<;>simp[h1,h2]
 ·have h2:¬(m.mem.length:Int)=192:=by omega
  simp[h1,h2]
theorem Zpl (m:GModel) (hs:m.sm):Zdd m=some m:=by
 unfold Zdd
 rw[Zln _ hs.1,Option.bind_some,Zr9 _ hs.2]
 rfl
theorem Zrp (m:GModel) (hs:m.sm):Zf4 m=some m:=by
 unfold Zf4
 rw[Zn1 _ hs.1,Option.bind_some,Zr1 _ hs.2]
 rfl
def Yp (m:GModel) (w:Bool) (a s v:Int):GModel×Int×Int:=
 if (Yj a s&&!(w&&!numG v s))=true then
  (if Zw a=1∨Zw a=2 then (if w then ({m with mem:=putG m.mem a s v},v,0) else (m,getG m.mem a s,0))
  else if Zw a=3∧s=2 then (if (Wk m.dev w (a - 192) v).2.2=true then ({m with dev:=(Wk m.dev w (a - 192) v).1},(Wk m.dev w (a - 192) v).2.1,0) else (m,0,1))
  else (m,0,1))
 else (m,0,1)
theorem Z7v {a:Int} (h:Zw a=1∨Zw a=2):0≤a∧a < 192:=by
 unfold Zw at h
 repeat' split at h
 all_goals omega
theorem Zw7 {a:Int} (h:Zw a=3):192≤a∧a < 224:=by
 unfold Zw at h
 repeat' split at h
 all_goals omega
theorem Zsz {m:GModel} {a s:Int} (h:ModelP m) (ha:Yj a s=true) (hs:Zw a=1∨Zw a=2):Zci m.mem a s=true:=by
 have h1:=Z7v hs
 have h2:=h.len
 have h3:=Qx ha
 have h4:a+Zo s≤192:=by
  have h5:=(Zdf s).1 h3.1
  have h6:s=0∨s=1∨s=2:=by omega
  have h7:=h3.2.2
  rcases h6 with rfl|rfl|rfl<;>simp[Zo] at h7 ⊢<;>omega
 simp only[Zci,memG,Bool.and_eq_true,decide_eq_true_eq]
 exact⟨⟨by omega,h.bytes⟩,ha,by omega⟩
theorem Zz8 {m:GModel} (w:Bool) (a s v:Int) (h:ModelP m):Zhw m w a s v=some (Yp m w a s v):=by
 unfold Zhw Yp
 rw[Zpl m h.sm,Option.bind_some,Zyy m h.sm,Option.bind_some,Zwt.2 h,Zq2,Option.bind_some,Zfq,Option.bind_some,if_neg (by simp)]
 by_cases ha:Yj a s=true
 ·rw[ha,if_neg (by simp)]
  have hJ:(w=true→numG v s=true)→Xj m w a s v m false=some (if Zw a=1∨Zw a=2 then (if w then ({m with mem:=putG m.mem a s v},v,0) else (m,getG m.mem a s,0))
  else if Zw a=3∧s=2 then (if (Wk m.dev w (a - 192) v).2.2=true then ({m with dev:=(Wk m.dev w (a - 192) v).1},(Wk m.dev w (a - 192) v).2.1,0) else (m,0,1))
  else (m,0,1)):=by
   intro hw
   unfold Xj
   rw[if_neg (by simp),Zqy,Option.bind_some]
   unfold Zbz Zb6 Qt
   rw[Zpl m h.sm,Option.bind_some]
   by_cases h1:Zw a=1∨Zw a=2
   ·have h3:¬Zw a=3:=by omega
    have hf:=Zsz h ha h1
    cases w with
    | true=>
     rw[Z26 hf (hw rfl),Option.bind_some]
     rcases h1 with h1|h1<;>simp[h1,h3]
    | false=>
     rw[Z12 hf,Option.bind_some]
     rcases h1 with h1|h1<;>simp[h1,h3]
   ·have h2:¬Zw a=1:=fun h=>h1 (.inl h)
    have h4:¬Zw a=2:=fun h=>h1 (.inr h)
    by_cases h3:Zw a=3
    ·have h5:=Zw7 h3
     rw[Y0 (by omega) (by omega),Z5n w _ v h.dev,Option.bind_some]
     by_cases h6:s=2
     ·by_cases h7:(Wk m.dev w (a - 192) v).2.2=true<;>simp[h3,h6,h7]
     ·simp[h3,h6]
    ·simp[h2,h3,h4]
  cases w with
  | false=>
   simp only[Bool.false_eq_true,if_false,Bool.false_and,Bool.not_false,Bool.and_true,if_true]
   exact hJ (by simp)
  | true=>
   by_cases hv:numG v s=true
   ·simp only[hv,Bool.not_true,if_true,Bool.and_false,Bool.not_false,Bool.and_true]
    exact hJ (fun _=>hv)
   ·simp[hv,Xj]
 ·simp[ha,Xj]
theorem Zky {m:GModel} (w:Bool) (a s v:Int) (h:ModelP m):Zbm m w a s v=some (Yp m w a s v):=by
 unfold Zbm Yp
 rw[Zrp m h.sm,Option.bind_some,Zyj m h.sm,Option.bind_some,Zwt.2 h,Zlk,Option.bind_some,Wn,Option.bind_some,Zg4,Option.bind_some,if_neg (by simp)]
 by_cases ha:Yj a s=true
 ·rw[ha,if_neg (by simp)]
  have hJ:(w=true→numG v s=true)→Xk m w a s v m false=some (if Zw a=1∨Zw a=2 then (if w then ({m with mem:=putG m.mem a s v},v,0) else (m,getG m.mem a s,0))
  else if Zw a=3∧s=2 then (if (Wk m.dev w (a - 192) v).2.2=true then ({m with dev:=(Wk m.dev w (a - 192) v).1},(Wk m.dev w (a - 192) v).2.1,0) else (m,0,1))
  else (m,0,1)):=by
   intro hw
   unfold Xk
   rw[if_neg (by simp),Zqp,Option.bind_some]
   unfold Zbq Zcc
   by_cases h1:Zw a=1∨Zw a=2
   ·have h3:¬Zw a=3:=by omega
    have hf:=Zsz h ha h1
    cases w with
    | true=>
     rw[Z29 hf (hw rfl),Option.bind_some]
     rcases h1 with h1|h1<;>simp[h1,h3]
    | false=>
     rw[Z1b hf,Option.bind_some]
     rcases h1 with h1|h1<;>simp[h1,h3]
   ·have h2:¬Zw a=1:=fun h=>h1 (.inl h)
    have h4:¬Zw a=2:=fun h=>h1 (.inr h)
    by_cases h3:Zw a=3
    ·have h5:=Zw7 h3
     rw[Y0 (by omega) (by omega),Z40 w _ v h.dev,Option.bind_some]
     by_cases h6:s=2
     ·by_cases h7:(Wk m.dev w (a - 192) v).2.2=true<;>simp[h3,h6,h7]
     ·simp[h3,h6]
    ·simp[h2,h3,h4]
  cases w with
  | false=>
   simp only[Bool.false_eq_true,if_false,Bool.false_and,Bool.not_false,Bool.and_true,if_true]
   exact hJ (by simp)
  | true=>
   by_cases hv:numG v s=true
   ·simp only[hv,Bool.not_true,if_true,Bool.and_false,Bool.not_false,Bool.and_true]
    exact hJ (fun _=>hv)
   ·simp[hv,Xk]
 ·simp[ha,Xk]
theorem Z6j (s:Int) (h:0 < Zo s):(256:Int)^(Zo s).toNat=K4 s:=by
 have h1:=(Zdf s).1 h
 have:s=0∨s=1∨s=2:=by omega
 rcases this with rfl|rfl|rfl<;>decide
theorem Zo7 {m:GModel} {w:Bool} {a s v:Int} (h:ModelP m) (hs:Yj a s=true):ModelP (Yp m w a s v).1∧numG (Yp m w a s v).2.1 s=true∧((Yp m w a s v).2.2=0∨(Yp m w a s v).2.2=1):=by
 have hp:=Qx hs
 have hz:numG 0 s=true:=by
  have h1:=(Zdf s).1 hp.1
  have:s=0∨s=1∨s=2:=by omega
  rcases this with rfl|rfl|rfl<;>decide
 unfold Yp
 split
 ·rename_i h1
  split
  ·rename_i h2
   have hf:=Zsz h hs h2
   split
   ·rename_i hw
    have hv:numG v s=true:=by
     rw[hw] at h1
     simpa [hs] using h1
    exact⟨⟨by simp only[putG,Z8k,h.len],Z4k _ _ _ _ h.bytes,h.dev⟩,hv,.inl rfl⟩
   ·obtain⟨h3,h4,h5,h6,h7⟩:=Zgy hf
    have h8:=Z32 h4 (Zo s).toNat a h6 (by omega)
    rw[Z6j s h5] at h8
    exact⟨h,by simp only[numG,getG];exact decide_eq_true h8,.inl rfl⟩
  ·split
   ·rename_i h3
    split
    ·rename_i h4
     have h5:=Yad (w:=w) (a:=a - 192) (v:=v) h.dev
     have h6:=h5.2 h4
     rw[h3.2]
     exact⟨⟨h.len,h.bytes,h5.1⟩,h6,.inl rfl⟩
    ·exact⟨h,hz,.inr rfl⟩
   ·exact⟨h,hz,.inr rfl⟩
 ·exact⟨h,hz,.inr rfl⟩
section
variable {σ:Type}
end
def Zx (m:GMst):Bool:=decide (m.queue≠[])&&((atI m.queue 0).lock&&!m.broken)
def flyG (b:GBus) (i:Int):Int:=(if b.addr.live=true∧b.addr.who=i then 1 else 0)+(if b.data_.live=true∧b.data_.who=i then 1 else 0)
structure MstP (c:GConf) (b:GBus) (i:Int):Prop where
 right:RightP (atI b.m i)
 tries:(atI b.m i).tries≤c.maxRetry
 bucket:Zz (atI b.buckets i) (atI c.masters i)=true
 split:0≤atI b.splits i∧atI b.splits i≤c.maxSplit
def Zx9 (b:GBus) (x:GBeat):Prop:=Zb b.conf x.who=true∧(1≤x.by_∧x.by_≤3)∧atI b.splits x.who=0
def Jv (b:GBus):Prop:=if b.addr.live=true then b.addr.beat=(atI b.m b.addr.who).beat - 1∧b.addr.left=0∧b.addr.resp=0∧b.addr.second=false else b.addr=GBeat.z0
def Q6 (b:GBus):Prop:=if b.data_.live=true then
  (b.data_.beat=(atI b.m b.data_.who).done∧(0≤b.data_.left∧b.data_.left≤b.conf.maxWait+2)∧(0≤b.data_.resp∧b.data_.resp≤3))∧
  (b.data_.resp=2→(atI b.m b.data_.who).tries < b.conf.maxRetry)∧(b.data_.resp=3→(atI b.m b.data_.who).parted=false∧b.data_.who≠b.holder)∧
  (b.data_.second=true→b.data_.left=0∧b.data_.resp≠0∧b.addr.live=false)
 else b.data_=GBeat.z0
def Zl0 (b:GBus):Prop:=(∀i,Zb b.conf i=true→(atI b.m i).beat > 0→Zx (atI b.m i)=true→b.holder=i)∧
 (if b.holder=-1 then b.held=0 else Zb b.conf b.holder=true∧Zx (atI b.m b.holder)=true∧atI b.splits b.holder=0∧(0≤b.held∧b.held≤b.conf.lockMost))
def Ztb (c:GConf) (now:Int) (d:GDone):Prop:=(0≤d.cycle∧d.cycle < now)∧Zb c d.who=true∧Yj d.addr d.size=true∧d.addr < 512∧numG d.value d.size=true∧(d.resp=0∨d.resp=1)
def logP (b:GBus):Prop:=(∀d∈b.log,Ztb b.conf b.now d)∧b.log.Pairwise fun x y=>x.cycle < y.cycle
structure BusP (b:GBus):Prop where
 conf:Yd b.conf=true
 now:0≤b.now∧b.now≤4000
 ml:b.m.length=b.conf.masters.length
 bl:b.buckets.length=b.conf.masters.length
 sl:b.splits.length=b.conf.masters.length
 mst:∀i,Zb b.conf i=true→MstP b.conf b i
 arb:wrrG b.arb b.conf=true
 last:b.last=-1∨Zb b.conf b.last=true
 model:ModelP b.model
 picks:0≤b.picks∧b.picks≤b.now
 alive:b.addr.live=true→Zx9 b b.addr
 dlive:b.data_.live=true→Zx9 b b.data_
 fly:∀i,Zb b.conf i=true→(atI b.m i).beat - (atI b.m i).done=flyG b i
 addr:Jv b
 data:Q6 b
 held:Zl0 b
 log:logP b
structure GBus.sm (b:GBus):Prop where
 conf:b.conf.masters.length < 1048577
 ml:b.m.length < 1048577
 mst:∀x∈b.m,x.sm
 bl:b.buckets.length < 1048577
 sl:b.splits.length < 1048577
 model:b.model.sm
 log:b.log.length < 1048577
theorem mas {c:GConf} {k:Nat} (h:k < c.masters.length):Zb c (k:Int)=true:=by simp[Zb,h]
theorem Zrc {c:GConf} {i:Int} (h:Zb c i=true):∃k:Nat,i=(k:Int)∧k < c.masters.length:=by
 simp only[Zb,decide_eq_true_eq] at h
 exact⟨i.toNat,by omega,by omega⟩
theorem Zea {b:GBus} (hl:b.m.length=b.conf.masters.length) {i:Int} (h:Zb b.conf i=true):idx b.m i=some (atI b.m i):=by
 simp only[Zb,decide_eq_true_eq] at h;exact Xu h.1 (by omega)
theorem idx_b {b:GBus} (hl:b.buckets.length=b.conf.masters.length) {i:Int} (h:Zb b.conf i=true):idx b.buckets i=some (atI b.buckets i):=by
 simp only[Zb,decide_eq_true_eq] at h;exact Xu h.1 (by omega)
theorem idx_s {b:GBus} (hl:b.splits.length=b.conf.masters.length) {i:Int} (h:Zb b.conf i=true):idx b.splits i=some (atI b.splits i):=by
 simp only[Zb,decide_eq_true_eq] at h;exact Xu h.1 (by omega)
theorem Z47 {c:GConf} {i:Int} (h:Zb c i=true):idx c.masters i=some (atI c.masters i):=by
 simp only[Zb,decide_eq_true_eq] at h;exact Xu h.1 h.2
theorem X9 {c:GConf} (hc:Yd c=true):(0≤c.maxRetry∧c.maxRetry≤3)∧(0≤c.maxWait∧c.maxWait≤3)∧(1≤c.lockMost∧c.lockMost≤40)∧(1≤c.maxSplit∧c.maxSplit≤12):=by
 simp only[Yd,Bool.and_eq_true,decide_eq_true_eq] at hc
 have h3:=hc.1.2
 have h4:Jj c≠0:=fun h=>h3 (by unfold Y3;rw[if_pos h])
 have h5:1≤c.lockMost∧c.lockMost≤40:=by
  unfold Y3 at h3
  rw[if_neg h4] at h3
  by_cases h6:1≤c.lockMost∧c.lockMost≤40
  ·exact h6
  ·rw[if_neg h6] at h3;exact absurd rfl h3
 have h6:(0≤c.maxRetry∧c.maxRetry≤3)∧(0≤c.maxWait∧c.maxWait≤3):=by
  unfold Jj at h4
  by_cases h7:(0≤c.maxRetry∧c.maxRetry≤3)∧(0≤c.maxWait∧c.maxWait≤3)
  ·exact h7
  ·rw[if_neg h7] at h4;exact absurd rfl h4
 exact⟨h6.1,h6.2,h5,hc.1.1.2⟩
theorem Zxs {b:GBus} (h1:b.m.length=b.conf.masters.length) (hlt:b.conf.masters.length < 1048577) (i:Int):Zk i 0 (subW (b.m.length:Int) 1)=some (Zb b.conf i):=by
 rw[Yq,h1,Zni i hlt]
def Zdv (l:List Int) (k:Int):Int:=if l=[]∨k < 0 then 0 else atI l (k % (l.length:Int))
def Zlx (c:GConf) (s:GScript) (k:Int):Int:=max 0 (min (Zdv s.waits k) c.maxWait)
def Zt7 (s:GScript) (k:Int):Int:=if Zdv s.says k=2∨Zdv s.says k=3 then Zdv s.says k else 0
def Zh8 (c:GConf) (s:GScript) (k:Int):Int:=max 1 (min (max 0 (min (Zdv s.waits k) 99)+1) c.maxSplit)
def Zl4 (b:GBus):GWave:=
 GWave.mk b.now (if b.addr.live then X3 (atI b.m b.addr.who) b.addr.beat else -1) (if b.addr.live then (if b.addr.first then 2 else 3) else 0) (if b.addr.live then b.addr.who else -1)
  (if b.data_.live then X3 (atI b.m b.data_.who) b.data_.beat else -1) (if b.data_.live then b.data_.who else -1) true 0 (-1)
def J6 (s:GScript) (t:Int):List GPost:=s.posts.filter fun p=>decide (p.at_=t)
def Xm (b:GBus) (p:GPost):GBus:=if Zb b.conf p.who=true then {b with m:=b.m.set p.who.toNat (Wf (atI b.m p.who) p.req)} else b
def Yl (b:GBus) (ps:List GPost):GBus:=ps.foldl Xm b
def Z7 (b:GBus):GBus:={b with splits:=b.splits.map fun n=>max (n - 1) 0,buckets:=List.zipWith Zjj b.buckets b.conf.masters}
def Wu (b:GBus):GBus:=if b.holder=-1 then b else {b with held:=min (b.held+1) b.conf.lockMost}
def freeG (b:GBus):GBus:={b with holder:=-1,held:=0}
def Yx (b:GBus) (x:GBeat):GBus:=
 if x.by_=1 then {b with m:=b.m.set x.who.toNat (Qe (atI b.m x.who)),buckets:=b.buckets.set x.who.toNat (Zqa (atI b.buckets x.who) (atI b.conf.masters x.who))}
 else if x.by_=2 then {b with m:=b.m.set x.who.toNat (Qe (atI b.m x.who)),arb:=Zpy b.arb b.conf x.who}
 else {b with m:=b.m.set x.who.toNat (Qe (atI b.m x.who))}
def Zj7 (m:GMst) (k:Int):Int:=if (atI m.queue 0).write then atI (atI m.queue 0).data_ k else 0
def doG (b:GBus) (x:GBeat):GModel×Int×Int:=Yp b.model (atI (atI b.m x.who).queue 0).write (X3 (atI b.m x.who) x.beat) (atI (atI b.m x.who).queue 0).size (Zj7 (atI b.m x.who) x.beat)
def Zyb (b:GBus) (x:GBeat):GDone:=GDone.mk b.now x.who (atI (atI b.m x.who).queue 0).write (X3 (atI b.m x.who) x.beat) (atI (atI b.m x.who).queue 0).size (if x.resp=0 then (doG b x).2.1 else 0) x.resp
def Zim (b:GBus) (x:GBeat):GBus:=
 {b with model:=if x.resp=0 then (doG b x).1 else b.model,log:=b.log++[Zyb b x],m:=b.m.set x.who.toNat (endG (atI b.m x.who)),holder:=if b.holder=x.who∧(atI b.m x.who).done+1=Ze (atI b.m x.who) then -1 else b.holder,held:=if b.holder=x.who∧(atI b.m x.who).done+1=Ze (atI b.m x.who) then 0 else b.held}
def Zj (b:GBus) (s:GScript):GBus×Bool×Int:=
 if b.data_.live=false then (b,true,0)
 else if b.data_.left > 0 then ({b with data_:={b.data_ with left:=b.data_.left - 1}},false,0)
 else if b.data_.resp≠0∧b.data_.second=false then
  (if b.addr.live then {Yx {b with data_:={b.data_ with second:=true}} b.addr with addr:=GBeat.z0} else {b with data_:={b.data_ with second:=true}},false,b.data_.resp)
 else if b.data_.resp=2 then (Yx {b with data_:=GBeat.z0,m:=b.m.set b.data_.who.toNat {atI b.m b.data_.who with tries:=(atI b.m b.data_.who).tries+1}} b.data_,true,b.data_.resp)
 else if b.data_.resp=3 then (Yx {b with data_:=GBeat.z0,m:=b.m.set b.data_.who.toNat {atI b.m b.data_.who with parted:=true},splits:=b.splits.set b.data_.who.toNat (Zh8 b.conf s b.picks)} b.data_,true,b.data_.resp)
 else (Zim {b with data_:=GBeat.z0} b.data_,true,b.data_.resp)
def Yz (b:GBus):GBus:=if b.holder≠-1∧b.held=b.conf.lockMost then freeG {b with m:=b.m.set b.holder.toNat {atI b.m b.holder with broken:=true}} else b
def Zbj (b:GBus) (s:GScript) (x:GBeat):Int×Int:=
 if (atI b.m x.who).broken=true∨Zw (X3 (atI b.m x.who) x.beat)=0 then (1,0) else
 (if Zt7 s b.picks=2∧Zw (X3 (atI b.m x.who) x.beat)≠3∧(atI b.m x.who).tries < b.conf.maxRetry then 2
  else if Zt7 s b.picks=3∧Zw (X3 (atI b.m x.who) x.beat)=2∧(atI b.m x.who).parted=false∧x.who≠b.holder then 3 else (doG b x).2.2,if Zw (X3 (atI b.m x.who) x.beat)=3 then Zlx b.conf s b.picks+2 else Zlx b.conf s b.picks)
def Xp (b:GBus) (s:GScript):GBus:=if b.addr.live then {b with data_:={b.addr with left:=(Zbj b s b.addr).2,resp:=(Zbj b s b.addr).1},addr:=GBeat.z0,picks:=b.picks+1} else b
def Ww (b:GBus) (i:Int):Bool:=Znj (atI b.m i)&&(decide (atI b.splits i=0)&&(decide (b.holder=-1)||decide (b.holder=i)))
def Qp (b:GBus):List Bool:=(List.range b.m.length).map fun k:Nat=>Ww b (k:Int)
def Zcy (b:GBus) (k:Nat):Bool:=Ww b (k:Int)&&(Ze4 (atI b.buckets (k:Int)) (atI b.conf.masters (k:Int))).2
def Q4 (b:GBus):Int×Int×GBus:=
 if b.holder≠-1∧Ww b b.holder=true then (b.holder,3,b)
 else match (List.range b.m.length).find? (Zcy b) with
  | some k=>((k:Int),1,{b with buckets:=b.buckets.set k (Ze4 (atI b.buckets (k:Int)) (atI b.conf.masters (k:Int))).1})
  | none=>if b.holder≠-1 then (-1,0,b) else ((Zcp b.arb b.conf (Qp b)).2,2,{b with arb:=(Zcp b.arb b.conf (Qp b)).1})
def Zuk (b:GBus) (who by_:Int):GBus:=
 {b with addr:=GBeat.mk true who (atI b.m who).beat (decide ((atI b.m who).beat=0)||decide (b.last≠who)) by_ 0 0 false,holder:=if Zx (atI b.m who)=true∧b.holder=-1 then who else b.holder,held:=if Zx (atI b.m who)=true∧b.holder=-1 then 0 else b.held,m:=b.m.set who.toNat (Z8 (atI b.m who)),last:=who}
def Wy (b:GBus):Int×GBus:=if (Q4 b).1 < 0 then (-1,(Q4 b).2.2) else ((Q4 b).1,Zuk (Q4 b).2.2 (Q4 b).1 (Q4 b).2.1)
def Xd (b:GBus) (s:GScript):Int×GBus:=Wy (Xp (Yz b) s)
def Xt (b:GBus) (s:GScript):GBus:=Wu (Z7 (Yl b (J6 s b.now)))
def Zo4 (b:GBus) (s:GScript):GBus×GWave:=
 if (Zj (Xt b s) s).2.1=true then
  ({(Xd (Zj (Xt b s) s).1 s).2 with now:=b.now+1},{Zl4 b with resp:=(Zj (Xt b s) s).2.2,got:=(Xd (Zj (Xt b s) s).1 s).1})
 else ({(Zj (Xt b s) s).1 with now:=b.now+1},{Zl4 b with ready:=false,resp:=(Zj (Xt b s) s).2.2})
structure BusI (n:Int) (b:GBus):Prop where
 conf:Yd b.conf=true
 ml:b.m.length=b.conf.masters.length
 bl:b.buckets.length=b.conf.masters.length
 sl:b.splits.length=b.conf.masters.length
 mst:∀i,Zb b.conf i=true→MstP b.conf b i
 arb:wrrG b.arb b.conf=true
 last:b.last=-1∨Zb b.conf b.last=true
 model:ModelP b.model
 alive:b.addr.live=true→Zx9 b b.addr
 dlive:b.data_.live=true→Zx9 b b.data_
 fly:∀i,Zb b.conf i=true→(atI b.m i).beat - (atI b.m i).done=flyG b i
 addr:Jv b
 data:Q6 b
 held:Zl0 b
 log:(∀d∈b.log,Ztb b.conf n d)∧b.log.Pairwise fun x y=>x.cycle < y.cycle
theorem BusP.i {b:GBus} (h:BusP b):BusI b.now b:=⟨h.conf,h.ml,h.bl,h.sl,h.mst,h.arb,h.last,h.model,h.alive,h.dlive,h.fly,h.addr,h.data,h.held,h.log⟩
theorem Zq0 {α:Type} [Inhabited α] {xs:List α} {w i:Int} (a:α) (h0:0≤w) (h1:w < (xs.length:Int)) (hi:0≤i):atI (xs.set w.toNat a) i=if i=w then a else atI xs i:=by
 split
 ·rename_i h;subst h;exact Zmx a h0 h1
 ·rename_i h;exact Z65 a h0 hi (fun h2=>h h2.symm)
theorem Z9 {c:GConf} {i:Int} (h:Zb c i=true):0≤i∧i < (c.masters.length:Int):=by simpa [Zb] using h
theorem BusI.at_m {n:Int} {b:GBus} (h:BusI n b) {w:Int} (hw:Zb b.conf w=true) (x:GMst) {i:Int} (hi:Zb b.conf i=true):atI (b.m.set w.toNat x) i=if i=w then x else atI b.m i:=by
 have h1:=Z9 hw
 have h2:=Z9 hi
 exact Zq0 x h1.1 (by have:=h.ml;omega) h2.1
theorem Kn {n:Int} {b:GBus} (h:BusI n b) (hl:b.addr.live=true):Zb b.conf b.addr.who=true:=(h.alive hl).1
theorem Xq {n:Int} {b:GBus} (h:BusI n b) (hl:b.data_.live=true):Zb b.conf b.data_.who=true:=(h.dlive hl).1
theorem Z7r {m:GMst} {r:GReq} (hq:m.queue≠[]):(Wf m r).queue≠[]∧atI (Wf m r).queue 0=atI m.queue 0:=by
 unfold Wf
 split
 ·exact⟨by simp,Zsj hq⟩
 ·exact⟨hq,rfl⟩
theorem Zwk (m:GMst) (r:GReq):(Wf m r).beat=m.beat∧(Wf m r).done=m.done∧(Wf m r).tries=m.tries∧(Wf m r).parted=m.parted∧(Wf m r).broken=m.broken:=by
 unfold Wf;split<;>exact⟨rfl,rfl,rfl,rfl,rfl⟩
theorem Z4b {m:GMst} {r:GReq} (hq:m.queue≠[]):Zx (Wf m r)=Zx m:=by
 have h:=Z7r (r:=r) hq
 have h2:=Zwk m r
 unfold Zx
 rw[h.2,h2.2.2.2.2]
 simp[h.1,hq]
theorem Zyw {m:GMst} (h:Zx m=true):m.queue≠[]:=by
 intro hq;simp[Zx,hq] at h
theorem Z5j {n:Int} {b:GBus} {p:GPost} (h:BusI n b):BusI n (Xm b p):=by
 unfold Xm
 split
 ·rename_i hw
  have ha:=fun {i} hi=>h.at_m hw (Wf (atI b.m p.who) p.req) (i:=i) hi
  have hs:=Zwk (atI b.m p.who) p.req
  have hbd:∀i,Zb b.conf i=true→(atI (b.m.set p.who.toNat (Wf (atI b.m p.who) p.req)) i).beat=(atI b.m i).beat∧(atI (b.m.set p.who.toNat (Wf (atI b.m p.who) p.req)) i).done=(atI b.m i).done∧(atI (b.m.set p.who.toNat (Wf (atI b.m p.who) p.req)) i).tries=(atI b.m i).tries∧(atI (b.m.set p.who.toNat (Wf (atI b.m p.who) p.req)) i).parted=(atI b.m i).parted:=by
   intro i hi
   rw[ha hi]
   split
   ·rename_i e;subst e;exact⟨hs.1,hs.2.1,hs.2.2.1,hs.2.2.2.1⟩
   ·exact⟨rfl,rfl,rfl,rfl⟩
  have hlk:∀i,Zb b.conf i=true→(atI b.m i).queue≠[]→Zx (atI (b.m.set p.who.toNat (Wf (atI b.m p.who) p.req)) i)=Zx (atI b.m i):=by
   intro i hi hq
   rw[ha hi]
   split
   ·rename_i e;subst e;exact Z4b hq
   ·rfl
  refine⟨h.conf,by simp[h.ml],h.bl,h.sl,fun i hi=>?_,h.arb,h.last,h.model,h.alive,h.dlive,fun i hi=>?_,?_,?_,?_,h.log⟩
  ·have hm:=h.mst i hi
   refine⟨?_,by have:=(hbd i hi).2.2.1;simp only at this ⊢;rw[this];exact hm.tries,hm.bucket,hm.split⟩
   show RightP (atI (b.m.set p.who.toNat (Wf (atI b.m p.who) p.req)) i)
   rw[ha hi]
   split
   ·exact Z4t (h.mst _ hw).right
   ·exact hm.right
  ·show (atI (b.m.set p.who.toNat (Wf (atI b.m p.who) p.req)) i).beat - (atI (b.m.set p.who.toNat (Wf (atI b.m p.who) p.req)) i).done=flyG b i
   rw[(hbd i hi).1,(hbd i hi).2.1]
   exact h.fly i hi
  ·have:=h.addr
   unfold Jv at this ⊢
   simp only
   by_cases hl:b.addr.live=true
   ·rw[if_pos hl] at this ⊢
    rw[(hbd _ (Kn h hl)).1];exact this
   ·rw[if_neg hl] at this ⊢;exact this
  ·have:=h.data
   unfold Q6 at this ⊢
   simp only
   by_cases hl:b.data_.live=true
   ·rw[if_pos hl] at this ⊢
    have e:=hbd _ (Xq h hl)
    rw[e.2.1,e.2.2.1,e.2.2.2];exact this
   ·rw[if_neg hl] at this ⊢;exact this
  ·obtain⟨h1,h2⟩:=h.held
   refine⟨fun i hi hb hk=>?_,?_⟩
   ·simp only at hb hk
    have hi2:Zb b.conf i=true:=hi
    rw[(hbd i hi2).1] at hb
    have hq:(atI b.m i).queue≠[]:=by
     intro hq
     have:=(h.mst i hi2).right.none hq
     omega
    rw[hlk i hi2 hq] at hk
    exact h1 i hi2 hb hk
   ·simp only
    split
    ·rename_i e;rw[if_pos e] at h2;exact h2
    ·rename_i e
     rw[if_neg e] at h2
     exact⟨h2.1,by rw[hlk _ h2.1 (Zyw h2.2.1)];exact h2.2.1,h2.2.2⟩
 ·exact h
theorem Zoh {n:Int} {b:GBus} (h:BusI n b) (ps:List GPost):BusI n (Yl b ps):=by
 induction ps generalizing b with
 | nil=>exact h
 | cons p ps ih=>exact ih (Z5j h)
theorem Zy7 (b:GBus) (p:GPost):(Xm b p).conf=b.conf∧(Xm b p).now=b.now∧(Xm b p).picks=b.picks∧(Xm b p).log=b.log∧(Xm b p).model=b.model∧(Xm b p).holder=b.holder∧(Xm b p).held=b.held∧(Xm b p).addr=b.addr∧(Xm b p).data_=b.data_∧(Xm b p).splits=b.splits∧(Xm b p).buckets=b.buckets∧(Xm b p).arb=b.arb∧(Xm b p).last=b.last:=by
 unfold Xm;split<;>exact⟨rfl,rfl,rfl,rfl,rfl,rfl,rfl,rfl,rfl,rfl,rfl,rfl,rfl⟩
theorem Zki (b:GBus) (ps:List GPost):(Yl b ps).conf=b.conf∧(Yl b ps).now=b.now∧(Yl b ps).picks=b.picks∧(Yl b ps).log=b.log∧(Yl b ps).model=b.model∧(Yl b ps).holder=b.holder∧(Yl b ps).held=b.held∧(Yl b ps).addr=b.addr∧(Yl b ps).data_=b.data_∧(Yl b ps).splits=b.splits∧(Yl b ps).buckets=b.buckets∧(Yl b ps).arb=b.arb∧(Yl b ps).last=b.last:=by
 induction ps generalizing b with
 | nil=>exact⟨rfl,rfl,rfl,rfl,rfl,rfl,rfl,rfl,rfl,rfl,rfl,rfl,rfl⟩
 | cons p ps ih=>
  have h1:=ih (Xm b p)
  have h2:=Zy7 b p
  simp only[h2] at h1
  exact h1
theorem at_map {α β:Type} [Inhabited α] [Inhabited β] (f:α→β) {xs:List α} {i:Int} (h0:0≤i) (h1:i < (xs.length:Int)):atI (xs.map f) i=f (atI xs i):=by
 obtain⟨k,rfl⟩:∃k:Nat,i=k:=⟨i.toNat,by omega⟩
 have hk:k < xs.length:=by omega
 rw[Wp hk,Wp (by simpa using hk)];simp
theorem at_zip {α β γ:Type} [Inhabited α] [Inhabited β] [Inhabited γ] (f:α→β→γ) {xs:List α} {ys:List β} {i:Int} (h0:0≤i) (h1:i < (xs.length:Int)) (h2:i < (ys.length:Int)):atI (List.zipWith f xs ys) i=f (atI xs i) (atI ys i):=by
 obtain⟨k,rfl⟩:∃k:Nat,i=k:=⟨i.toNat,by omega⟩
 have hk:k < xs.length:=by omega
 have hk2:k < ys.length:=by omega
 rw[Wp hk,Wp hk2,Wp (by simp;omega)];simp
theorem Ztm {n:Int} {b:GBus} (h:BusI n b):BusI n (Z7 b):=by
 have hsp:∀i,Zb b.conf i=true→atI (b.splits.map fun n=>max (n - 1) 0) i=max (atI b.splits i - 1) 0:=fun i hi=>by
  have:=Z9 hi
  exact at_map _ this.1 (by have:=h.sl;omega)
 have hbu:∀i,Zb b.conf i=true→atI (List.zipWith Zjj b.buckets b.conf.masters) i=Zjj (atI b.buckets i) (atI b.conf.masters i):=fun i hi=>by
  have:=Z9 hi
  exact at_zip _ this.1 (by have:=h.bl;omega) this.2
 have h0:∀i,Zb b.conf i=true→atI b.splits i=0→atI (b.splits.map fun n=>max (n - 1) 0) i=0:=fun i hi e=>by rw[hsp i hi,e];rfl
 refine⟨h.conf,h.ml,by simp[Z7,h.bl],by simp[Z7,h.sl],fun i hi=>?_,h.arb,h.last,h.model,fun hl=>?_,fun hl=>?_,h.fly,h.addr,h.data,?_,h.log⟩
 ·have hm:=h.mst i hi
  refine⟨hm.right,hm.tries,?_,?_⟩
  ·show Zz (atI (List.zipWith Zjj b.buckets b.conf.masters) i) _=true
   rw[hbu i hi]
   exact Yal hm.bucket (Zgz h.conf hi)
  ·show 0≤atI (b.splits.map fun n=>max (n - 1) 0) i∧_
   have:=hm.split
   have hx:=(X9 h.conf).2.2.2
   show 0≤atI (b.splits.map fun n=>max (n - 1) 0) i∧atI (b.splits.map fun n=>max (n - 1) 0) i≤b.conf.maxSplit
   rw[hsp i hi]
   omega
 ·obtain⟨h1,h2,h3⟩:=h.alive hl
  exact⟨h1,h2,h0 _ h1 h3⟩
 ·obtain⟨h1,h2,h3⟩:=h.dlive hl
  exact⟨h1,h2,h0 _ h1 h3⟩
 ·obtain⟨h1,h2⟩:=h.held
  refine⟨h1,?_⟩
  show if b.holder=-1 then b.held=0 else _
  split
  ·rename_i e;rw[if_pos e] at h2;exact h2
  ·rename_i e
   rw[if_neg e] at h2
   exact⟨h2.1,h2.2.1,h0 _ h2.1 h2.2.2.1,h2.2.2.2⟩
theorem Z5u {n:Int} {b:GBus} (h:BusI n b):BusI n (Wu b):=by
 unfold Wu
 split
 ·exact h
 ·rename_i e
  refine⟨h.conf,h.ml,h.bl,h.sl,fun i hi=>?_,h.arb,h.last,h.model,h.alive,h.dlive,h.fly,h.addr,h.data,?_,h.log⟩
  ·have hm:=h.mst i hi;exact⟨hm.right,hm.tries,hm.bucket,hm.split⟩
  ·obtain⟨h1,h2⟩:=h.held
   refine⟨h1,?_⟩
   rw[if_neg e] at h2
   show if b.holder=-1 then _ else _
   rw[if_neg e]
   have hl:=(X9 h.conf).2.2.1
   refine⟨h2.1,h2.2.1,h2.2.2.1,?_⟩
   have:=h2.2.2.2
   show 0≤min (b.held+1) b.conf.lockMost∧min (b.held+1) b.conf.lockMost≤b.conf.lockMost
   omega
theorem Zw4 {b b':GBus} (h:Zl0 b) (hc:b'.conf=b.conf) (hh:b'.holder=b.holder) (hd:b'.held=b.held)
  (hm:∀i,Zb b.conf i=true→Zx (atI b'.m i)=Zx (atI b.m i)∧((atI b'.m i).beat > 0→(atI b.m i).beat > 0)) (hs:b.holder≠-1→atI b.splits b.holder=0→atI b'.splits b.holder=0):Zl0 b':=by
 obtain⟨h1,h2⟩:=h
 unfold Zl0
 rw[hc,hh,hd]
 refine⟨fun i hi hb hk=>h1 i hi ((hm i hi).2 hb) (by rw[←(hm i hi).1];exact hk),?_⟩
 split
 ·rename_i e;rw[if_pos e] at h2;exact h2
 ·rename_i e
  rw[if_neg e] at h2
  exact⟨h2.1,by rw[(hm _ h2.1).1];exact h2.2.1,hs e h2.2.2.1,h2.2.2.2⟩
theorem Zwo (m:GMst):(Qe m).queue=m.queue∧(Qe m).done=m.done∧(Qe m).tries=m.tries∧(Qe m).parted=m.parted∧(Qe m).broken=m.broken:=by
 unfold Qe;split<;>exact⟨rfl,rfl,rfl,rfl,rfl⟩
theorem Zgx {m m':GMst} (h1:m'.queue=m.queue) (h2:m'.broken=m.broken):Zx m'=Zx m:=by
 unfold Zx;rw[h1,h2]
structure Revoked (b r:GBus) (x:GBeat):Prop where
 conf:r.conf=b.conf
 m:r.m=b.m.set x.who.toNat (Qe (atI b.m x.who))
 bl:r.buckets.length=b.conf.masters.length
 bk:∀i,Zb b.conf i=true→Zz (atI r.buckets i) (atI b.conf.masters i)=true
 arb:wrrG r.arb b.conf=true
 splits:r.splits=b.splits
 holder:r.holder=b.holder
 held:r.held=b.held
 addr:r.addr=b.addr
 data:r.data_=b.data_
 model:r.model=b.model
 log:r.log=b.log
 last:r.last=b.last
 now:r.now=b.now
 picks:r.picks=b.picks
theorem Zqk {b:GBus} {x:GBeat} (hc:Yd b.conf=true) (hw:Zb b.conf x.who=true) (hbl:b.buckets.length=b.conf.masters.length) (hbk:∀i,Zb b.conf i=true→Zz (atI b.buckets i) (atI b.conf.masters i)=true) (har:wrrG b.arb b.conf=true):Revoked b (Yx b x) x:=by
 have hb:=Z9 hw
 unfold Yx
 split
 ·refine⟨rfl,rfl,by simp[hbl],fun i hi=>?_,har,rfl,rfl,rfl,rfl,rfl,rfl,rfl,rfl,rfl,rfl⟩
  show Zz (atI (b.buckets.set x.who.toNat _) i) _=true
  rw[Zq0 _ hb.1 (by omega) (Z9 hi).1]
  split
  ·rename_i e;subst e;exact Z8s (hbk _ hi) (Zgz hc hi)
  ·exact hbk i hi
 ·split
  ·exact⟨rfl,rfl,hbl,hbk,Z9e _ har,rfl,rfl,rfl,rfl,rfl,rfl,rfl,rfl,rfl,rfl⟩
  ·exact⟨rfl,rfl,hbl,hbk,har,rfl,rfl,rfl,rfl,rfl,rfl,rfl,rfl,rfl,rfl⟩
theorem BusI.mono {n:Int} {b:GBus} (h:BusI n b):BusI (n+1) b:=
 ⟨h.conf,h.ml,h.bl,h.sl,h.mst,h.arb,h.last,h.model,h.alive,h.dlive,h.fly,h.addr,h.data,h.held,fun d hd=>by have:=h.log.1 d hd;exact⟨⟨this.1.1,by have:=this.1.2;omega⟩,this.2⟩,h.log.2⟩
theorem Z3w {n:Int} {b:GBus} (h:BusI n b) (hl:b.addr.live=true):(atI b.m b.addr.who).beat - (atI b.m b.addr.who).done≥1:=by
 rw[h.fly _ (Kn h hl)]
 unfold flyG
 rw[if_pos ⟨hl,rfl⟩]
 split<;>omega
theorem Zkc {n:Int} {b:GBus} (h:BusI n b) (hl:b.data_.live=true):(atI b.m b.data_.who).beat - (atI b.m b.data_.who).done≥1:=by
 rw[h.fly _ (Xq h hl)]
 unfold flyG
 rw[if_pos (⟨hl,rfl⟩:b.data_.live=true∧b.data_.who=b.data_.who)]
 split<;>omega
theorem Z4j {n:Int} {b:GBus} (h:BusI n b) (hd:b.data_.live=true) (hl:b.data_.left > 0):BusI n {b with data_:={b.data_ with left:=b.data_.left - 1}}:=by
 refine⟨h.conf,h.ml,h.bl,h.sl,fun i hi=>?_,h.arb,h.last,h.model,h.alive,fun _=>h.dlive hd,fun i hi=>?_,h.addr,?_,h.held,h.log⟩
 ·have hm:=h.mst i hi;exact⟨hm.right,hm.tries,hm.bucket,hm.split⟩
 ·have:=h.fly i hi
  unfold flyG at this ⊢
  exact this
 ·have:=h.data
  unfold Q6 at this ⊢
  rw[if_pos hd] at this
  simp only
  rw[if_pos hd]
  refine⟨⟨this.1.1,by have:=this.1.2.1;omega,this.1.2.2⟩,this.2.1,this.2.2.1,fun hs=>?_⟩
  have:=(this.2.2.2 hs).1
  omega
theorem Z5w {n:Int} {b:GBus} (h:BusI n b) (hd:b.data_.live=true) (hl:b.data_.left=0) (hr:b.data_.resp≠0):
  BusI n (if b.addr.live then {Yx {b with data_:={b.data_ with second:=true}} b.addr with addr:=GBeat.z0} else {b with data_:={b.data_ with second:=true}}):=by
 have hdat:=h.data
 unfold Q6 at hdat
 rw[if_pos hd] at hdat
 by_cases ha:b.addr.live=true
 ·rw[if_pos ha]
  have hw:=Kn h ha
  have hb:=Z9 hw
  have hf:=Zqk (b:={b with data_:={b.data_ with second:=true}}) (x:=b.addr) h.conf hw h.bl (fun i hi=>(h.mst i hi).bucket) h.arb
  generalize Yx {b with data_:={b.data_ with second:=true}} b.addr=r at hf
  have hat:∀i,Zb b.conf i=true→atI r.m i=if i=b.addr.who then Qe (atI b.m b.addr.who) else atI b.m i:=fun i hi=>by
   rw[hf.m];exact h.at_m hw _ hi
  have hs:=Zwo (atI b.m b.addr.who)
  have hsm:∀i,Zb b.conf i=true→(atI r.m i).queue=(atI b.m i).queue∧(atI r.m i).done=(atI b.m i).done∧(atI r.m i).tries=(atI b.m i).tries∧(atI r.m i).parted=(atI b.m i).parted∧(atI r.m i).broken=(atI b.m i).broken:=fun i hi=>by
   rw[hat i hi]
   split
   ·rename_i e;subst e;exact hs
   ·exact⟨rfl,rfl,rfl,rfl,rfl⟩
  have hp:=Z3w h ha
  have hbt:(Qe (atI b.m b.addr.who)).beat=(atI b.m b.addr.who).beat - 1:=by
   unfold Qe;rw[if_neg (by omega)]
  refine⟨by rw[show ({r with addr:=GBeat.z0}:GBus).conf=r.conf from rfl,hf.conf];exact h.conf,?_,?_,?_,fun i hi=>?_,?_,?_,?_,fun hx=>?_,fun hx=>?_,fun i hi=>?_,?_,?_,?_,?_⟩
  ·show r.m.length=r.conf.masters.length
   rw[hf.m,hf.conf];simp[h.ml]
  ·show r.buckets.length=r.conf.masters.length
   rw[hf.bl,hf.conf]
  ·show r.splits.length=r.conf.masters.length
   rw[hf.splits,hf.conf];exact h.sl
  ·have hi':Zb b.conf i=true:=by rw[←show r.conf=b.conf from hf.conf];exact hi
   have hm:=h.mst i hi'
   refine⟨?_,?_,?_,?_⟩
   ·show RightP (atI r.m i)
    rw[hat i hi']
    split
    ·exact Zuc (h.mst _ hw).right
    ·exact hm.right
   ·show (atI r.m i).tries≤r.conf.maxRetry
    rw[(hsm i hi').2.2.1,hf.conf];exact hm.tries
   ·show Zz (atI r.buckets i) (atI r.conf.masters i)=true
    rw[hf.conf];exact hf.bk i hi'
   ·show 0≤atI r.splits i∧atI r.splits i≤r.conf.maxSplit
    rw[hf.splits,hf.conf];exact hm.split
  ·show wrrG r.arb r.conf=true
   rw[hf.conf];exact hf.arb
  ·show r.last=-1∨Zb r.conf r.last=true
   rw[hf.last,hf.conf];exact h.last
  ·show ModelP r.model
   rw[hf.model];exact h.model
  ·cases hx
  ·have hx':r.data_.live=true:=hx
   obtain⟨h1,h2,h3⟩:=h.dlive hd
   refine⟨?_,?_,?_⟩
   ·show Zb r.conf r.data_.who=true
    rw[hf.conf,hf.data];exact h1
   ·show 1≤r.data_.by_∧r.data_.by_≤3
    rw[hf.data];exact h2
   ·show atI r.splits r.data_.who=0
    rw[hf.splits,hf.data];exact h3
  ·have hi':Zb b.conf i=true:=by rw[←show r.conf=b.conf from hf.conf];exact hi
   show (atI r.m i).beat - (atI r.m i).done=flyG {r with addr:=GBeat.z0} i
   have hfl:=h.fly i hi'
   unfold flyG at hfl ⊢
   simp only[hf.data]
   rw[(hsm i hi').2.1,hat i hi']
   by_cases e:i=b.addr.who
   ·subst e
    rw[if_pos rfl,hbt]
    rw[if_pos ⟨ha,rfl⟩] at hfl
    simp only[Bool.false_eq_true,false_and,if_false]
    omega
   ·rw[if_neg e]
    rw[if_neg (fun hx=>e hx.2.symm)] at hfl
    simp only[Bool.false_eq_true,false_and,if_false]
    exact hfl
  ·unfold Jv
   simp
  ·unfold Q6
   show if r.data_.live=true then _ else _
   simp only[hf.data,hf.conf,hf.holder]
   rw[if_pos hd]
   have e:=hsm _ (Xq h hd)
   rw[e.2.1,e.2.2.1,e.2.2.2.1]
   exact⟨hdat.1,hdat.2.1,hdat.2.2.1,fun _=>⟨hl,hr,trivial⟩⟩
  ·refine Zw4 (b:=b) h.held hf.conf hf.holder hf.held (fun i hi=>⟨Zgx (hsm i hi).1 (hsm i hi).2.2.2.2,fun hx=>?_⟩) (fun _ hx=>by show atI r.splits b.holder=0;rw[hf.splits];exact hx)
   show (atI b.m i).beat > 0
   have hx':(atI r.m i).beat > 0:=hx
   rw[hat i hi] at hx'
   split at hx'
   ·rename_i e;subst e;rw[hbt] at hx';omega
   ·exact hx'
  ·show (∀d∈r.log,Ztb r.conf n d)∧r.log.Pairwise _
   rw[hf.log,hf.conf];exact h.log
 ·rw[if_neg ha]
  refine⟨h.conf,h.ml,h.bl,h.sl,fun i hi=>?_,h.arb,h.last,h.model,h.alive,fun _=>h.dlive hd,fun i hi=>?_,h.addr,?_,h.held,h.log⟩
  ·have hm:=h.mst i hi;exact⟨hm.right,hm.tries,hm.bucket,hm.split⟩
  ·have:=h.fly i hi
   unfold flyG at this ⊢
   exact this
  ·unfold Q6
   simp only
   rw[if_pos hd]
   exact⟨hdat.1,hdat.2.1,hdat.2.2.1,fun _=>⟨hl,hr,by simpa using ha⟩⟩
theorem Ztp {n:Int} {b:GBus} (h:BusI n b) (hd:b.data_.live=true) (ha:b.addr.live=false) (x:GMst) (sp:List Int) (hq:x.queue=(atI b.m b.data_.who).queue) (hbe:x.beat=(atI b.m b.data_.who).beat) (hdo:x.done=(atI b.m b.data_.who).done) (hbr:x.broken=(atI b.m b.data_.who).broken)
  (ht:0≤x.tries∧x.tries≤b.conf.maxRetry) (hsl:sp.length=b.splits.length) (hsp:∀i,Zb b.conf i=true→0≤atI sp i∧atI sp i≤b.conf.maxSplit) (hsh:b.holder≠-1→atI b.splits b.holder=0→atI sp b.holder=0):
  BusI n (Yx {b with data_:=GBeat.z0,m:=b.m.set b.data_.who.toNat x,splits:=sp} b.data_):=by
 have hw:=Xq h hd
 have hb:=Z9 hw
 have hf:=Zqk (b:={b with data_:=GBeat.z0,m:=b.m.set b.data_.who.toNat x,splits:=sp}) (x:=b.data_) h.conf hw h.bl (fun i hi=>(h.mst i hi).bucket) h.arb
 generalize Yx {b with data_:=GBeat.z0,m:=b.m.set b.data_.who.toNat x,splits:=sp} b.data_=r at hf
 have hmw:=(h.mst _ hw).right
 have hp:=Zkc h hd
 have hne:(atI b.m b.data_.who).queue≠[]:=Zcw hmw (by omega)
 have hxr:RightP x:=by
  have h2:=hmw.some hne
  refine⟨by rw[hq];exact hmw.len,ht.1,by rw[hq];exact hmw.reqs,fun hx=>absurd (by rw[←hq];exact hx) hne,fun _=>?_⟩
  have:Ze x=Ze (atI b.m b.data_.who):=by unfold Ze;rw[hq]
  rw[this,hbe,hdo];exact h2
 have hxx:atI (b.m.set b.data_.who.toNat x) b.data_.who=x:=Zmx x hb.1 (by have:=h.ml;omega)
 have hat:∀i,Zb b.conf i=true→atI r.m i=if i=b.data_.who then Qe x else atI b.m i:=fun i hi=>by
  have hi':=Z9 hi
  rw[hf.m]
  show atI ((b.m.set b.data_.who.toNat x).set b.data_.who.toNat (Qe (atI (b.m.set b.data_.who.toNat x) b.data_.who))) i=_
  rw[hxx,List.set_set]
  exact h.at_m hw _ hi
 have hs:=Zwo x
 have hbt:(Qe x).beat=(atI b.m b.data_.who).beat - 1:=by
  unfold Qe;rw[if_neg (by rw[hbe,hdo];omega)];simp only[hbe]
 have hbz:GBeat.z0.live=false:=rfl
 refine⟨by rw[hf.conf];exact h.conf,?_,?_,?_,fun i hi=>?_,?_,?_,?_,fun hx=>?_,fun hx=>?_,fun i hi=>?_,?_,?_,?_,?_⟩
 ·rw[hf.m,hf.conf];simp[h.ml]
 ·rw[hf.bl,hf.conf]
 ·rw[hf.splits,hf.conf];show sp.length=_;rw[hsl];exact h.sl
 ·have hi':Zb b.conf i=true:=by rw[←show r.conf=b.conf from hf.conf];exact hi
  have hm:=h.mst i hi'
  refine⟨?_,?_,?_,?_⟩
  ·rw[hat i hi']
   split
   ·exact Zuc hxr
   ·exact hm.right
  ·rw[hat i hi',hf.conf]
   split
   ·rw[hs.2.2.1];exact ht.2
   ·exact hm.tries
  ·rw[hf.conf];exact hf.bk i hi'
  ·rw[hf.splits,hf.conf];exact hsp i hi'
 ·rw[hf.conf];exact hf.arb
 ·rw[hf.last,hf.conf];exact h.last
 ·rw[hf.model];exact h.model
 ·rw[hf.addr] at hx;rw[show ({b with data_:=GBeat.z0,m:=b.m.set b.data_.who.toNat x,splits:=sp}:GBus).addr=b.addr from rfl,ha] at hx;cases hx
 ·rw[hf.data] at hx;cases hx
 ·have hi':Zb b.conf i=true:=by rw[←show r.conf=b.conf from hf.conf];exact hi
  have hfl:=h.fly i hi'
  unfold flyG at hfl ⊢
  rw[hf.data,hf.addr,hat i hi']
  show _=(if b.addr.live=true∧b.addr.who=i then (1:Int) else 0)+(if GBeat.z0.live=true∧GBeat.z0.who=i then 1 else 0)
  rw[ha] at hfl ⊢
  simp only[Bool.false_eq_true,false_and,if_false] at hfl ⊢
  by_cases e:i=b.data_.who
  ·subst e
   rw[if_pos rfl,hbt,hs.2.1,hdo]
   rw[if_pos (⟨hd,rfl⟩:b.data_.live=true∧b.data_.who=b.data_.who)] at hfl
   omega
  ·rw[if_neg e]
   rw[if_neg (fun hx=>e hx.2.symm)] at hfl
   exact hfl
 ·have:=h.addr
  unfold Jv at this ⊢
  rw[hf.addr]
  show if b.addr.live=true then _ else _
  rw[ha] at this ⊢
  exact this
 ·unfold Q6
  rw[hf.data]
  show if GBeat.z0.live=true then _ else _
  rw[if_neg (by simp)]
 ·refine Zw4 (b:=b) h.held hf.conf hf.holder hf.held (fun i hi=>?_) (fun h1 h2=>by rw[hf.splits];exact hsh h1 h2)
  rw[hat i hi]
  split
  ·rename_i e;subst e
   refine⟨Zgx (by rw[hs.1,hq]) (by rw[hs.2.2.2.2,hbr]),fun hx=>?_⟩
   rw[hbt] at hx;omega
  ·exact⟨rfl,id⟩
 ·rw[hf.log,hf.conf];exact h.log
theorem Zw9 {m:GMst} (h:RightP m) (hp:m.beat - m.done≥1):(m.done+1=Ze m→m.beat - m.done=1∧(endG m).queue=m.queue.tail∧(endG m).beat=0∧(endG m).done=0∧(endG m).tries=0)∧
  (m.done+1≠Ze m→(endG m).queue=m.queue∧(endG m).beat=m.beat∧(endG m).done=m.done+1∧(endG m).tries=0∧(endG m).broken=m.broken∧(endG m).parted=false):=by
 have h1:=h.some (Zcw h (by omega))
 unfold endG
 constructor
 ·intro e
  rw[if_neg (by omega),if_pos e]
  exact⟨by omega,rfl,rfl,rfl,rfl⟩
 ·intro e
  rw[if_neg (by omega),if_neg e]
  exact⟨rfl,rfl,rfl,rfl,rfl,rfl⟩
theorem Z71 {m:GMst} {k:Int} (h:RightP m) (h0:0≤k) (h1:k < Ze m) (hw:(atI m.queue 0).write=true):0≤k∧k < ((atI m.queue 0).data_.length:Int):=by
 have hq:m.queue≠[]:=by
  intro hq
  unfold Ze at h1
  rw[if_pos hq] at h1
  omega
 obtain⟨h2,h3,h4⟩:=Zmt h hq
 have h5:=(Zcs h2).2.1
 rw[if_pos hw] at h5
 omega
theorem Zw3 {n:Int} {b:GBus} (h:BusI n b) (hd:b.data_.live=true):0≤b.data_.beat∧b.data_.beat < Ze (atI b.m b.data_.who):=by
 have hw:=Xq h hd
 have hp:=Zkc h hd
 have hr:=(h.mst _ hw).right
 have h1:=hr.some (Zcw hr (by omega))
 have h2:=h.data
 unfold Q6 at h2
 rw[if_pos hd] at h2
 rw[h2.1.1]
 omega
theorem Zws {n:Int} {b:GBus} (h:BusI n b) (hl:b.addr.live=true):0≤b.addr.beat∧b.addr.beat < Ze (atI b.m b.addr.who):=by
 have hw:=Kn h hl
 have hp:=Z3w h hl
 have hr:=(h.mst _ hw).right
 have h1:=hr.some (Zcw hr (by omega))
 have h2:=h.addr
 unfold Jv at h2
 rw[if_pos hl] at h2
 rw[h2.1]
 omega
theorem Z17 {b:GBus} (hn:0≤b.now) (h:BusI b.now b) (hd:b.data_.live=true) (hr:b.data_.resp=0∨b.data_.resp=1) (hsec:b.data_.resp≠0→b.addr.live=false):BusI (b.now+1) (Zim {b with data_:=GBeat.z0} b.data_):=by
 have hw:=Xq h hd
 have hb:=Z9 hw
 have hmw:=(h.mst _ hw).right
 have hp:=Zkc h hd
 have hne:(atI b.m b.data_.who).queue≠[]:=Zcw hmw (by omega)
 have hbt:=Zw3 h hd
 have had:=Zzr hmw hbt.1 hbt.2
 have hdat:=h.data
 unfold Q6 at hdat
 rw[if_pos hd] at hdat
 have hmdl:=Zo7 (w:=(atI (atI b.m b.data_.who).queue 0).write) (v:=Zj7 (atI b.m b.data_.who) b.data_.beat) h.model had.2.1
 have hef:=Zw9 hmw hp
 have hat:∀i,Zb b.conf i=true→atI (b.m.set b.data_.who.toNat (endG (atI b.m b.data_.who))) i=if i=b.data_.who then endG (atI b.m b.data_.who) else atI b.m i:=fun i hi=>h.at_m hw _ hi
 have hlast:(atI b.m b.data_.who).done+1=Ze (atI b.m b.data_.who)→b.addr.live=true→b.addr.who≠b.data_.who:=by
  intro e hl e2
  have h1:=(hef.1 e).1
  have h2:=h.fly _ hw
  unfold flyG at h2
  rw[if_pos (⟨hl,e2⟩:b.addr.live=true∧b.addr.who=b.data_.who),if_pos (⟨hd,rfl⟩:b.data_.live=true∧b.data_.who=b.data_.who)] at h2
  omega
 have hz:numG 0 (atI (atI b.m b.data_.who).queue 0).size=true:=by
  have h1:=(Zdf _).1 (Qx had.2.1).1
  generalize (atI (atI b.m b.data_.who).queue 0).size=s at h1
  have:s=0∨s=1∨s=2:=by omega
  rcases this with rfl|rfl|rfl<;>decide
 refine⟨h.conf,?_,h.bl,h.sl,fun i hi=>?_,h.arb,h.last,?_,h.alive,(fun hx=>by cases hx),fun i hi=>?_,?_,?_,?_,?_⟩
 ·show (b.m.set b.data_.who.toNat (endG (atI b.m b.data_.who))).length=_
  rw[List.length_set];exact h.ml
 ·have hi':Zb b.conf i=true:=hi
  have hm:=h.mst i hi'
  refine⟨?_,?_,hm.bucket,hm.split⟩
  ·show RightP (atI (b.m.set b.data_.who.toNat (endG (atI b.m b.data_.who))) i)
   rw[hat i hi']
   split
   ·exact Z7p hmw
   ·exact hm.right
  ·show (atI (b.m.set b.data_.who.toNat (endG (atI b.m b.data_.who))) i).tries≤b.conf.maxRetry
   rw[hat i hi']
   split
   ·have hl:=(X9 h.conf).1
    by_cases e:(atI b.m b.data_.who).done+1=Ze (atI b.m b.data_.who)
    ·rw[(hef.1 e).2.2.2.2];omega
    ·rw[(hef.2 e).2.2.2.1];omega
   ·exact hm.tries
 ·show ModelP (if b.data_.resp=0 then (doG {b with data_:=GBeat.z0} b.data_).1 else b.model)
  split
  ·exact hmdl.1
  ·exact h.model
 ·have hi':Zb b.conf i=true:=hi
  have hfl:=h.fly i hi'
  show (atI (b.m.set b.data_.who.toNat (endG (atI b.m b.data_.who))) i).beat - (atI (b.m.set b.data_.who.toNat (endG (atI b.m b.data_.who))) i).done=flyG (Zim {b with data_:=GBeat.z0} b.data_) i
  unfold flyG at hfl ⊢
  show _=(if b.addr.live=true∧b.addr.who=i then (1:Int) else 0)+(if GBeat.z0.live=true∧GBeat.z0.who=i then 1 else 0)
  rw[hat i hi']
  simp only[Bool.false_eq_true,false_and,if_false]
  by_cases e:i=b.data_.who
  ·subst e
   rw[if_pos rfl]
   rw[if_pos (⟨hd,rfl⟩:b.data_.live=true∧b.data_.who=b.data_.who)] at hfl
   by_cases e2:(atI b.m b.data_.who).done+1=Ze (atI b.m b.data_.who)
   ·rw[(hef.1 e2).2.2.1,(hef.1 e2).2.2.2.1,if_neg (fun hx=>hlast e2 hx.1 hx.2)]
    rfl
   ·rw[(hef.2 e2).2.1,(hef.2 e2).2.2.1]
    omega
  ·rw[if_neg e]
   rw[if_neg (fun hx:b.data_.live=true∧b.data_.who=i=>e hx.2.symm)] at hfl
   omega
 ·have hA:=h.addr
  unfold Jv at hA ⊢
  show if b.addr.live=true then _ else _
  by_cases hl:b.addr.live=true
  ·rw[if_pos hl] at hA ⊢
   show b.addr.beat=(atI (b.m.set b.data_.who.toNat (endG (atI b.m b.data_.who))) b.addr.who).beat - 1∧_
   rw[hat _ (Kn h hl)]
   split
   ·rename_i e
    have e2:¬(atI b.m b.data_.who).done+1=Ze (atI b.m b.data_.who):=fun e2=>hlast e2 hl e
    rw[(hef.2 e2).2.1,←e];exact hA
   ·exact hA
  ·rw[if_neg hl] at hA ⊢;exact hA
 ·unfold Q6
  show if GBeat.z0.live=true then _ else _
  rw[if_neg (by simp)]
  rfl
 ·obtain⟨h1,h2⟩:=h.held
  show Zl0 (Zim {b with data_:=GBeat.z0} b.data_)
  unfold Zl0
  show (∀i,Zb b.conf i=true→(atI (b.m.set b.data_.who.toNat (endG (atI b.m b.data_.who))) i).beat > 0→Zx (atI (b.m.set b.data_.who.toNat (endG (atI b.m b.data_.who))) i)=true→(if b.holder=b.data_.who∧(atI b.m b.data_.who).done+1=Ze (atI b.m b.data_.who) then -1 else b.holder)=i)∧
   (if (if b.holder=b.data_.who∧(atI b.m b.data_.who).done+1=Ze (atI b.m b.data_.who) then -1 else b.holder)=-1 then (if b.holder=b.data_.who∧(atI b.m b.data_.who).done+1=Ze (atI b.m b.data_.who) then 0 else b.held)=0 else Zb b.conf (if b.holder=b.data_.who∧(atI b.m b.data_.who).done+1=Ze (atI b.m b.data_.who) then -1 else b.holder)=true∧Zx (atI (b.m.set b.data_.who.toNat (endG (atI b.m b.data_.who))) (if b.holder=b.data_.who∧(atI b.m b.data_.who).done+1=Ze (atI b.m b.data_.who) then -1 else b.holder))=true∧atI b.splits (if b.holder=b.data_.who∧(atI b.m b.data_.who).done+1=Ze (atI b.m b.data_.who) then -1 else b.holder)=0∧(0≤(if b.holder=b.data_.who∧(atI b.m b.data_.who).done+1=Ze (atI b.m b.data_.who) then 0 else b.held)∧(if b.holder=b.data_.who∧(atI b.m b.data_.who).done+1=Ze (atI b.m b.data_.who) then 0 else b.held)≤b.conf.lockMost))
  have hold:∀i,Zb b.conf i=true→(atI (b.m.set b.data_.who.toNat (endG (atI b.m b.data_.who))) i).beat > 0→Zx (atI (b.m.set b.data_.who.toNat (endG (atI b.m b.data_.who))) i)=true→b.holder=i∧¬(i=b.data_.who∧(atI b.m b.data_.who).done+1=Ze (atI b.m b.data_.who)):=by
   intro i hi hx hk
   rw[hat i hi] at hx hk
   by_cases e:i=b.data_.who
   ·rw[if_pos e] at hx hk
    by_cases e2:(atI b.m b.data_.who).done+1=Ze (atI b.m b.data_.who)
    ·rw[(hef.1 e2).2.2.1] at hx;omega
    ·have e3:=hef.2 e2
     rw[e3.2.1] at hx
     rw[Zgx e3.1 e3.2.2.2.2.1] at hk
     subst e
     exact⟨h1 _ hi hx hk,fun hy=>e2 hy.2⟩
   ·rw[if_neg e] at hx hk
    exact⟨h1 i hi hx hk,fun hy=>e hy.1⟩
  by_cases e:b.holder=b.data_.who∧(atI b.m b.data_.who).done+1=Ze (atI b.m b.data_.who)
  ·simp only[if_pos e,if_true]
   refine⟨fun i hi hx hk=>?_,trivial⟩
   have:=hold i hi hx hk
   exact absurd ⟨by rw[←this.1];exact e.1,e.2⟩ this.2
  ·simp only[if_neg e]
   refine⟨fun i hi hx hk=>(hold i hi hx hk).1,?_⟩
   split
   ·rename_i e2;rw[if_pos e2] at h2;exact h2
   ·rename_i e2
    rw[if_neg e2] at h2
    refine⟨h2.1,?_,h2.2.2.1,h2.2.2.2⟩
    rw[hat _ h2.1]
    split
    ·rename_i e3
     have e4:¬(atI b.m b.data_.who).done+1=Ze (atI b.m b.data_.who):=fun e4=>e ⟨e3,e4⟩
     rw[Zgx (hef.2 e4).1 (hef.2 e4).2.2.2.2.1,←e3];exact h2.2.1
    ·exact h2.2.1
 ·show (∀d∈b.log++[Zyb {b with data_:=GBeat.z0} b.data_],Ztb b.conf (b.now+1) d)∧(b.log++[Zyb {b with data_:=GBeat.z0} b.data_]).Pairwise _
  refine⟨fun d hx=>?_,?_⟩
  ·rcases List.mem_append.1 hx with hx|hx
   ·have:=h.log.1 d hx
    exact⟨⟨this.1.1,by have:=this.1.2;omega⟩,this.2⟩
   ·rw[List.mem_singleton.1 hx]
    refine⟨⟨hn,by show b.now < b.now+1;omega⟩,hw,had.2.1,had.2.2.2,?_,hr⟩
    show numG (if b.data_.resp=0 then (doG {b with data_:=GBeat.z0} b.data_).2.1 else 0) (atI (atI b.m b.data_.who).queue 0).size=true
    split
    ·exact hmdl.2.1
    ·exact hz
  ·rw[List.pairwise_append]
   refine⟨h.log.2,List.pairwise_singleton _ _,fun x hx y hy=>?_⟩
   rw[List.mem_singleton.1 hy]
   exact (h.log.1 x hx).1.2
theorem Yah {c:GConf} (h:Yd c=true) (s:GScript) (k:Int):1≤Zh8 c s k∧Zh8 c s k≤c.maxSplit:=by
 have:=(X9 h).2.2.2
 unfold Zh8
 omega
theorem Zw5 {b:GBus} (s:GScript) (hn:0≤b.now) (h:BusI b.now b):BusI (b.now+1) (Zj b s).1∧((Zj b s).2.1=true→(Zj b s).1.data_=GBeat.z0):=by
 unfold Zj
 by_cases hd:b.data_.live=false
 ·rw[if_pos hd]
  refine⟨h.mono,fun _=>?_⟩
  have:=h.data
  unfold Q6 at this
  rw[if_neg (by simp[hd])] at this
  exact this
 ·have hd':b.data_.live=true:=by simpa using hd
  have hdat:=h.data
  unfold Q6 at hdat
  rw[if_pos hd'] at hdat
  rw[if_neg hd]
  by_cases hl:b.data_.left > 0
  ·rw[if_pos hl]
   exact⟨(Z4j h hd' hl).mono,fun hx=>by cases hx⟩
  ·have hl0:b.data_.left=0:=by have:=hdat.1.2.1;omega
   rw[if_neg hl]
   by_cases h2:b.data_.resp≠0∧b.data_.second=false
   ·rw[if_pos h2]
    exact⟨(Z5w h hd' hl0 h2.1).mono,fun hx=>by cases hx⟩
   ·rw[if_neg h2]
    have hsec:b.data_.resp≠0→b.addr.live=false:=fun hr=>by
     have:b.data_.second=true:=by
      cases hs:b.data_.second with
      | true=>rfl
      | false=>exact absurd ⟨hr,hs⟩ h2
     exact (hdat.2.2.2 this).2.2
    have hw:=Xq h hd'
    have hm:=h.mst _ hw
    by_cases h3:b.data_.resp=2
    ·rw[if_pos h3]
     refine⟨?_,fun _=>?_⟩
     ·refine (Ztp h hd' (hsec (by omega)) {atI b.m b.data_.who with tries:=(atI b.m b.data_.who).tries+1} b.splits rfl rfl rfl rfl ⟨?_,?_⟩ rfl (fun i hi=>(h.mst i hi).split) fun _ h=>h).mono
      ·have:=hm.right.tries;show 0≤(atI b.m b.data_.who).tries+1;omega
      ·have:=hdat.2.1 h3;show (atI b.m b.data_.who).tries+1≤_;omega
     ·unfold Yx;split
      ·rfl
      ·split<;>rfl
    ·rw[if_neg h3]
     by_cases h4:b.data_.resp=3
     ·rw[if_pos h4]
      have hsp:=Yah h.conf s b.picks
      refine⟨?_,fun _=>?_⟩
      ·refine (Ztp h hd' (hsec (by omega)) {atI b.m b.data_.who with parted:=true} (b.splits.set b.data_.who.toNat (Zh8 b.conf s b.picks)) rfl rfl rfl rfl ⟨hm.right.tries,hm.tries⟩ (by simp) (fun i hi=>?_) fun h5 h6=>?_).mono
       ·have hb:=Z9 hw
        rw[Zq0 _ hb.1 (by have:=h.sl;omega) (Z9 hi).1]
        split
        ·omega
        ·exact (h.mst i hi).split
       ·have hb:=Z9 hw
        have hh:Zb b.conf b.holder=true:=by
         have:=h.held.2
         rw[if_neg h5] at this
         exact this.1
        rw[Zq0 _ hb.1 (by have:=h.sl;omega) (Z9 hh).1,if_neg (fun e=>(hdat.2.2.1 h4).2 e.symm)]
        exact h6
      ·unfold Yx;split
       ·rfl
       ·split<;>rfl
     ·rw[if_neg h4]
      exact⟨Z17 hn h hd' (by have:=hdat.1.2.2;omega) hsec,fun _=>rfl⟩
theorem Zc5 {n:Int} {b:GBus} (h:BusI n b) (e:b.holder≠-1):Zb b.conf b.holder=true∧Zx (atI b.m b.holder)=true∧atI b.splits b.holder=0∧(0≤b.held∧b.held≤b.conf.lockMost):=by
 have:=h.held.2
 rw[if_neg e] at this
 exact this
theorem Zsm {n:Int} {b:GBus} (h:BusI n b):BusI n (Yz b):=by
 unfold Yz
 split
 ·rename_i hx
  obtain⟨hw,hlk,_,_⟩:=Zc5 h hx.1
  have hb:=Z9 hw
  have hat:∀i,Zb b.conf i=true→atI (b.m.set b.holder.toNat {atI b.m b.holder with broken:=true}) i=if i=b.holder then {atI b.m b.holder with broken:=true} else atI b.m i:=fun i hi=>h.at_m hw _ hi
  have hsm:∀i,Zb b.conf i=true→(atI (b.m.set b.holder.toNat {atI b.m b.holder with broken:=true}) i).beat=(atI b.m i).beat∧(atI (b.m.set b.holder.toNat {atI b.m b.holder with broken:=true}) i).done=(atI b.m i).done∧(atI (b.m.set b.holder.toNat {atI b.m b.holder with broken:=true}) i).tries=(atI b.m i).tries∧(atI (b.m.set b.holder.toNat {atI b.m b.holder with broken:=true}) i).parted=(atI b.m i).parted:=by
   intro i hi
   rw[hat i hi]
   split
   ·rename_i e;subst e;exact⟨rfl,rfl,rfl,rfl⟩
   ·exact⟨rfl,rfl,rfl,rfl⟩
  refine⟨h.conf,?_,h.bl,h.sl,fun i hi=>?_,h.arb,h.last,h.model,h.alive,h.dlive,fun i hi=>?_,?_,?_,?_,h.log⟩
  ·show (b.m.set b.holder.toNat _).length=_
   rw[List.length_set];exact h.ml
  ·have hi':Zb b.conf i=true:=hi
   have hm:=h.mst i hi'
   refine⟨?_,?_,hm.bucket,hm.split⟩
   ·show RightP (atI (b.m.set b.holder.toNat {atI b.m b.holder with broken:=true}) i)
    rw[hat i hi']
    split
    ·have hr:=(h.mst _ hw).right
     exact⟨hr.len,hr.tries,hr.reqs,fun hq=>absurd (show (atI b.m b.holder).queue=[] from hq) (Zyw hlk),hr.some⟩
    ·exact hm.right
   ·show (atI (b.m.set b.holder.toNat {atI b.m b.holder with broken:=true}) i).tries≤b.conf.maxRetry
    rw[(hsm i hi').2.2.1];exact hm.tries
  ·have hi':Zb b.conf i=true:=hi
   show (atI (b.m.set b.holder.toNat {atI b.m b.holder with broken:=true}) i).beat - (atI (b.m.set b.holder.toNat {atI b.m b.holder with broken:=true}) i).done=flyG b i
   rw[(hsm i hi').1,(hsm i hi').2.1];exact h.fly i hi'
  ·have:=h.addr
   unfold Jv at this ⊢
   show if b.addr.live=true then b.addr.beat=(atI (b.m.set b.holder.toNat {atI b.m b.holder with broken:=true}) b.addr.who).beat - 1∧_ else _
   by_cases hl:b.addr.live=true
   ·rw[if_pos hl] at this ⊢
    rw[(hsm _ (Kn h hl)).1];exact this
   ·rw[if_neg hl] at this ⊢;exact this
  ·have:=h.data
   unfold Q6 at this ⊢
   show if b.data_.live=true then _ else _
   by_cases hl:b.data_.live=true
   ·rw[if_pos hl] at this ⊢
    have e:=hsm _ (Xq h hl)
    show (b.data_.beat=(atI (b.m.set b.holder.toNat {atI b.m b.holder with broken:=true}) b.data_.who).done∧_)∧(_→(atI (b.m.set b.holder.toNat {atI b.m b.holder with broken:=true}) b.data_.who).tries < _)∧(_→(atI (b.m.set b.holder.toNat {atI b.m b.holder with broken:=true}) b.data_.who).parted=false∧b.data_.who≠-1)∧_
    rw[e.2.1,e.2.2.1,e.2.2.2]
    exact⟨this.1,this.2.1,fun h3=>⟨(this.2.2.1 h3).1,by have:=Z9 (Xq h hl);omega⟩,this.2.2.2⟩
   ·rw[if_neg hl] at this ⊢;exact this
  ·refine⟨fun i hi hx2 hk=>?_,?_⟩
   ·have hi':Zb b.conf i=true:=hi
    have hx3:(atI (b.m.set b.holder.toNat {atI b.m b.holder with broken:=true}) i).beat > 0:=hx2
    have hk3:Zx (atI (b.m.set b.holder.toNat {atI b.m b.holder with broken:=true}) i)=true:=hk
    rw[hat i hi'] at hx3 hk3
    split at hk3
    ·simp[Zx] at hk3
    ·rename_i e
     rw[if_neg e] at hx3
     exact absurd (h.held.1 i hi' hx3 hk3).symm e
   ·show if (-1:Int)=-1 then (0:Int)=0 else _
    rw[if_pos rfl]
 ·exact h
theorem Zot (b:GBus):(Yz b).data_=b.data_∧(Yz b).addr=b.addr∧(Yz b).picks=b.picks∧(Yz b).now=b.now∧(Yz b).conf=b.conf∧(Yz b).log=b.log∧(Yz b).model=b.model:=by
 unfold Yz;split<;>exact⟨rfl,rfl,rfl,rfl,rfl,rfl,rfl⟩
theorem Z33 {c:GConf} (h:Yd c=true) (s:GScript) (k:Int):0≤Zlx c s k∧Zlx c s k≤c.maxWait:=by
 have:=(X9 h).2.1
 unfold Zlx
 omega
theorem Z8e {n:Int} {b:GBus} (h:BusI n b) (s:GScript) (hl:b.addr.live=true):(0≤(Zbj b s b.addr).2∧(Zbj b s b.addr).2≤b.conf.maxWait+2)∧(0≤(Zbj b s b.addr).1∧(Zbj b s b.addr).1≤3)∧
  ((Zbj b s b.addr).1=2→(atI b.m b.addr.who).tries < b.conf.maxRetry)∧((Zbj b s b.addr).1=3→(atI b.m b.addr.who).parted=false∧b.addr.who≠b.holder):=by
 have hw:=Kn h hl
 have hm:=(h.mst _ hw).right
 have hbt:=Zws h hl
 have had:=Zzr hm hbt.1 hbt.2
 have hmdl:=(Zo7 (w:=(atI (atI b.m b.addr.who).queue 0).write) (v:=Zj7 (atI b.m b.addr.who) b.addr.beat) h.model had.2.1).2.2
 have hwt:=Z33 h.conf s b.picks
 have hlm:=(X9 h.conf).2.1
 have hdo:(doG b b.addr).2.2=0∨(doG b b.addr).2.2=1:=hmdl
 unfold Zbj
 split
 ·exact⟨by simp;omega,by simp,by simp,by simp⟩
 ·refine⟨?_,?_,?_,?_⟩
  ·simp only
   split<;>omega
  ·simp only
   repeat' split
   all_goals omega
  ·simp only
   split
   ·rename_i h1;exact fun _=>h1.2.2
   ·split
    ·intro h2;omega
    ·intro h2;omega
  ·simp only
   split
   ·intro h2;omega
   ·split
    ·rename_i h1;exact fun _=>h1.2.2
    ·intro h2;omega
theorem Zss {n:Int} {b:GBus} (h:BusI n b) (s:GScript) (hd:b.data_=GBeat.z0):BusI n (Xp b s)∧(Xp b s).addr=GBeat.z0:=by
 unfold Xp
 by_cases hl:b.addr.live=true
 ·rw[if_pos hl]
  refine⟨?_,rfl⟩
  have hw:=Kn h hl
  have ha:=Z8e h s hl
  have hA:=h.addr
  unfold Jv at hA
  rw[if_pos hl] at hA
  have hdl:b.data_.live=false:=by rw[hd]
  have hdone:(atI b.m b.addr.who).beat - (atI b.m b.addr.who).done=1:=by
   rw[h.fly _ hw]
   unfold flyG
   rw[if_pos ⟨hl,rfl⟩,hdl]
   simp
  refine⟨h.conf,h.ml,h.bl,h.sl,fun i hi=>?_,h.arb,h.last,h.model,(fun hx=>by cases hx),fun _=>h.alive hl,fun i hi=>?_,?_,?_,h.held,h.log⟩
  ·have hm:=h.mst i hi;exact⟨hm.right,hm.tries,hm.bucket,hm.split⟩
  ·have hfl:=h.fly i hi
   rw[hfl]
   unfold flyG
   simp only[hdl,hl,Bool.false_eq_true,false_and,if_false,true_and]
   omega
  ·unfold Jv
   simp
  ·unfold Q6
   show if b.addr.live=true then _ else _
   rw[if_pos hl]
   refine⟨⟨by show b.addr.beat=_;rw[hA.1];show (atI b.m b.addr.who).beat - 1=(atI b.m b.addr.who).done;omega,ha.1,ha.2.1⟩,ha.2.2.1,ha.2.2.2,fun hs=>?_⟩
   have:b.addr.second=true:=hs
   rw[hA.2.2.2] at this
   cases this
 ·rw[if_neg hl]
  refine⟨h,?_⟩
  have hA:=h.addr
  unfold Jv at hA
  rw[if_neg hl] at hA
  exact hA
theorem Zts (b:GBus) (s:GScript):(Xp b s).now=b.now∧(Xp b s).conf=b.conf∧(Xp b s).log=b.log∧(Xp b s).model=b.model∧(Xp b s).m=b.m∧(Xp b s).splits=b.splits∧(Xp b s).holder=b.holder∧b.picks≤(Xp b s).picks∧(Xp b s).picks≤b.picks+1:=by
 unfold Xp;split
 ·exact⟨rfl,rfl,rfl,rfl,rfl,rfl,rfl,by show b.picks≤b.picks+1;omega,Int.le_refl _⟩
 ·exact⟨rfl,rfl,rfl,rfl,rfl,rfl,rfl,Int.le_refl _,by omega⟩
theorem Zgm (b:GBus):(Qp b).length=b.m.length:=by simp[Qp]
theorem Zpt {n:Int} {b:GBus} (h:BusI n b) {i:Int} (hi:Zb b.conf i=true):atI (Qp b) i=Ww b i:=by
 obtain⟨k,rfl,hk⟩:=Zrc hi
 have:=h.ml
 rw[Wp (by rw[Zgm];omega)]
 simp[Qp]
structure Picked (n:Int) (b:GBus) (p:Int×Int×GBus):Prop where
 ok:BusI n p.2.2
 who:p.1=-1∨(Zb b.conf p.1=true∧Ww b p.1=true∧(1≤p.2.1∧p.2.1≤3))
 conf:p.2.2.conf=b.conf
 m:p.2.2.m=b.m
 splits:p.2.2.splits=b.splits
 holder:p.2.2.holder=b.holder
 held:p.2.2.held=b.held
 addr:p.2.2.addr=b.addr
 data:p.2.2.data_=b.data_
 model:p.2.2.model=b.model
 log:p.2.2.log=b.log
 last:p.2.2.last=b.last
 now:p.2.2.now=b.now
 picks:p.2.2.picks=b.picks
theorem Zmo {n:Int} {b:GBus} (h:BusI n b):Picked n b (Q4 b):=by
 unfold Q4
 split
 ·rename_i hx
  exact⟨h,.inr ⟨(Zc5 h hx.1).1,hx.2,by simp⟩,rfl,rfl,rfl,rfl,rfl,rfl,rfl,rfl,rfl,rfl,rfl,rfl⟩
 ·split
  ·rename_i k hk
   have hk1:=List.find?_some hk
   have hk2:=List.mem_of_find?_eq_some hk
   rw[List.mem_range,h.ml] at hk2
   simp only[Zcy,Bool.and_eq_true] at hk1
   have hm:=mas (c:=b.conf) hk2
   have hmb:=Z9 hm
   refine⟨?_,.inr ⟨hm,hk1.1,by simp⟩,rfl,rfl,rfl,rfl,rfl,rfl,rfl,rfl,rfl,rfl,rfl,rfl⟩
   refine⟨h.conf,h.ml,by show (b.buckets.set k _).length=_;rw[List.length_set];exact h.bl,h.sl,fun i hi=>?_,h.arb,h.last,h.model,h.alive,h.dlive,h.fly,h.addr,h.data,h.held,h.log⟩
   have hmi:=h.mst i hi
   refine⟨hmi.right,hmi.tries,?_,hmi.split⟩
   show Zz (atI (b.buckets.set k (Ze4 (atI b.buckets (k:Int)) (atI b.conf.masters (k:Int))).1) i) (atI b.conf.masters i)=true
   have e:=Zq0 (xs:=b.buckets) (w:=(k:Int)) (Ze4 (atI b.buckets (k:Int)) (atI b.conf.masters (k:Int))).1 hmb.1 (by have:=h.bl;omega) (Z9 hi).1
   rw[Int.toNat_natCast] at e
   rw[e]
   split
   ·rename_i e2;subst e2;exact Ya4 hmi.bucket (Zgz h.conf hi)
   ·exact hmi.bucket
  ·split
   ·exact⟨h,.inl rfl,rfl,rfl,rfl,rfl,rfl,rfl,rfl,rfl,rfl,rfl,rfl,rfl⟩
   ·have hp:=Z9h (wants:=Qp b) h.arb (by rw[Zgm,h.ml])
    refine⟨⟨h.conf,h.ml,h.bl,h.sl,fun i hi=>?_,hp.1,h.last,h.model,h.alive,h.dlive,h.fly,h.addr,h.data,h.held,h.log⟩,?_,rfl,rfl,rfl,rfl,rfl,rfl,rfl,rfl,rfl,rfl,rfl,rfl⟩
    ·have hmi:=h.mst i hi;exact⟨hmi.right,hmi.tries,hmi.bucket,hmi.split⟩
    ·rcases hp.2 with hp2|hp2
     ·exact .inl hp2
     ·exact .inr ⟨hp2.1,by rw[←Zpt h hp2.1];exact hp2.2,by simp⟩
theorem Zty {b:GBus} {i:Int} (h:Ww b i=true):(atI b.m i).beat < Ze (atI b.m i)∧atI b.splits i=0∧(b.holder=-1∨b.holder=i):=by
 simp only[Ww,Znj,Bool.and_eq_true,Bool.or_eq_true,decide_eq_true_eq] at h
 exact⟨h.1,h.2.1,h.2.2⟩
theorem Z4w (m:GMst):(Z8 m).queue=m.queue∧(Z8 m).done=m.done∧(Z8 m).tries=m.tries∧(Z8 m).parted=m.parted∧(Z8 m).broken=m.broken:=by
 unfold Z8;split<;>exact⟨rfl,rfl,rfl,rfl,rfl⟩
theorem Ybq {n:Int} {b:GBus} (h:BusI n b) (ha:b.addr=GBeat.z0) (hsec:b.data_.second=false) {who by_:Int} (hw:Zb b.conf who=true) (hwant:Ww b who=true) (hby:1≤by_∧by_≤3):BusI n (Zuk b who by_):=by
 obtain⟨w1,w2,w3⟩:=Zty hwant
 have hmw:=(h.mst _ hw).right
 have hal:b.addr.live=false:=by rw[ha]
 have hfw:=h.fly _ hw
 have hle:(atI b.m who).beat - (atI b.m who).done≤1:=by
  rw[hfw];unfold flyG;rw[hal];simp only[Bool.false_eq_true,false_and,if_false];split<;>omega
 have hbt:(Z8 (atI b.m who)).beat=(atI b.m who).beat+1:=by
  unfold Z8;rw[if_pos ⟨w1,by omega⟩]
 have hs:=Z4w (atI b.m who)
 have hat:∀i,Zb b.conf i=true→atI (b.m.set who.toNat (Z8 (atI b.m who))) i=if i=who then Z8 (atI b.m who) else atI b.m i:=fun i hi=>h.at_m hw _ hi
 have hsm:∀i,Zb b.conf i=true→(atI (b.m.set who.toNat (Z8 (atI b.m who))) i).queue=(atI b.m i).queue∧(atI (b.m.set who.toNat (Z8 (atI b.m who))) i).done=(atI b.m i).done∧(atI (b.m.set who.toNat (Z8 (atI b.m who))) i).tries=(atI b.m i).tries∧(atI (b.m.set who.toNat (Z8 (atI b.m who))) i).parted=(atI b.m i).parted∧(atI (b.m.set who.toNat (Z8 (atI b.m who))) i).broken=(atI b.m i).broken:=fun i hi=>by
  rw[hat i hi]
  split
  ·rename_i e;subst e;exact hs
  ·exact⟨rfl,rfl,rfl,rfl,rfl⟩
 have hmb:=Z9 hw
 refine⟨h.conf,?_,h.bl,h.sl,fun i hi=>?_,h.arb,.inr hw,h.model,fun _=>⟨hw,hby,w2⟩,h.dlive,fun i hi=>?_,?_,?_,?_,h.log⟩
 ·show (b.m.set who.toNat _).length=_
  rw[List.length_set];exact h.ml
 ·have hi':Zb b.conf i=true:=hi
  have hm:=h.mst i hi'
  refine⟨?_,?_,hm.bucket,hm.split⟩
  ·show RightP (atI (b.m.set who.toNat (Z8 (atI b.m who))) i)
   rw[hat i hi']
   split
   ·exact Z20 hmw
   ·exact hm.right
  ·show (atI (b.m.set who.toNat (Z8 (atI b.m who))) i).tries≤_
   rw[(hsm i hi').2.2.1];exact hm.tries
 ·have hi':Zb b.conf i=true:=hi
  have hfl:=h.fly i hi'
  show (atI (b.m.set who.toNat (Z8 (atI b.m who))) i).beat - (atI (b.m.set who.toNat (Z8 (atI b.m who))) i).done=flyG (Zuk b who by_) i
  rw[(hsm i hi').2.1,hat i hi']
  unfold flyG at hfl ⊢
  rw[hal] at hfl
  simp only[Bool.false_eq_true,false_and,if_false] at hfl
  show _=(if (true:Bool)=true∧who=i then (1:Int) else 0)+(if b.data_.live=true∧b.data_.who=i then 1 else 0)
  simp only[true_and]
  by_cases e:i=who
  ·subst e
   rw[if_pos rfl,if_pos rfl,hbt];omega
  ·rw[if_neg e,if_neg (fun e2=>e e2.symm)];omega
 ·unfold Jv
  show if (true:Bool)=true then (atI b.m who).beat=(atI (b.m.set who.toNat (Z8 (atI b.m who))) who).beat - 1∧_ else _
  rw[if_pos rfl,hat _ hw,if_pos rfl,hbt]
  exact⟨by omega,rfl,rfl,rfl⟩
 ·have hD:=h.data
  unfold Q6 at hD ⊢
  show if b.data_.live=true then _ else _
  by_cases hl:b.data_.live=true
  ·rw[if_pos hl] at hD ⊢
   have e:=hsm _ (Xq h hl)
   show (b.data_.beat=(atI (b.m.set who.toNat (Z8 (atI b.m who))) b.data_.who).done∧_)∧(_→(atI (b.m.set who.toNat (Z8 (atI b.m who))) b.data_.who).tries < _)∧(_→(atI (b.m.set who.toNat (Z8 (atI b.m who))) b.data_.who).parted=false∧b.data_.who≠(if Zx (atI b.m who)=true∧b.holder=-1 then who else b.holder))∧_
   rw[e.2.1,e.2.2.1,e.2.2.2.1]
   refine⟨hD.1,hD.2.1,fun h3=>⟨(hD.2.2.1 h3).1,?_⟩,fun h4=>?_⟩
   ·split
    ·rename_i e2
     intro e3
     have hp:=Zkc h hl
     have hr:=Zde (h.mst _ (Xq h hl)).right
     have:=h.held.1 _ (Xq h hl) (by omega) (by rw[e3];exact e2.1)
     omega
    ·exact (hD.2.2.1 h3).2
   ·have:b.data_.second=true:=h4
    rw[hsec] at this;cases this
  ·rw[if_neg hl] at hD ⊢;exact hD
 ·have hh:=h.held
  unfold Zl0 at hh ⊢
  show (∀i,Zb b.conf i=true→(atI (b.m.set who.toNat (Z8 (atI b.m who))) i).beat > 0→Zx (atI (b.m.set who.toNat (Z8 (atI b.m who))) i)=true→(if Zx (atI b.m who)=true∧b.holder=-1 then who else b.holder)=i)∧
   (if (if Zx (atI b.m who)=true∧b.holder=-1 then who else b.holder)=-1 then (if Zx (atI b.m who)=true∧b.holder=-1 then 0 else b.held)=0 else Zb b.conf (if Zx (atI b.m who)=true∧b.holder=-1 then who else b.holder)=true∧Zx (atI (b.m.set who.toNat (Z8 (atI b.m who))) (if Zx (atI b.m who)=true∧b.holder=-1 then who else b.holder))=true∧atI b.splits (if Zx (atI b.m who)=true∧b.holder=-1 then who else b.holder)=0∧(0≤(if Zx (atI b.m who)=true∧b.holder=-1 then 0 else b.held)∧(if Zx (atI b.m who)=true∧b.holder=-1 then 0 else b.held)≤b.conf.lockMost))
  have hlk:∀i,Zb b.conf i=true→Zx (atI (b.m.set who.toNat (Z8 (atI b.m who))) i)=Zx (atI b.m i):=fun i hi=>Zgx (hsm i hi).1 (hsm i hi).2.2.2.2
  have hlm:=(X9 h.conf).2.2.1
  have hold:∀i,Zb b.conf i=true→i≠who→(atI (b.m.set who.toNat (Z8 (atI b.m who))) i).beat > 0→Zx (atI b.m i)=true→False:=by
   intro i hi e hx hk
   rw[hat i hi,if_neg e] at hx
   have:=hh.1 i hi hx hk
   have:=Z9 hi
   omega
  by_cases e:Zx (atI b.m who)=true∧b.holder=-1
  ·simp only[if_pos e]
   refine⟨fun i hi hx hk=>?_,?_⟩
   ·by_cases e2:i=who
    ·exact e2.symm
    ·rw[hlk i hi] at hk
     exact (hold i hi e2 hx hk).elim
   ·rw[if_neg (by omega)]
    exact⟨hw,by rw[hlk _ hw];exact e.1,w2,by omega,by omega⟩
  ·simp only[if_neg e]
   refine⟨fun i hi hx hk=>?_,?_⟩
   ·rw[hlk i hi] at hk
    by_cases e2:i=who
    ·subst e2
     rcases w3 with w3|w3
     ·exact absurd ⟨hk,w3⟩ e
     ·exact w3
    ·exact (hold i hi e2 hx hk).elim
   ·have h2:=hh.2
    split
    ·rename_i e2;rw[if_pos e2] at h2;exact h2
    ·rename_i e2
     rw[if_neg e2] at h2
     exact⟨h2.1,by rw[hlk _ h2.1];exact h2.2.1,h2.2.2⟩
theorem Z8m {n:Int} {b:GBus} (h:BusI n b) (ha:b.addr=GBeat.z0) (hsec:b.data_.second=false):BusI n (Wy b).2:=by
 have hp:=Zmo h
 unfold Wy
 split
 ·exact hp.ok
 ·rename_i hx
  rcases hp.who with h1|h1
  ·exact absurd (show (Q4 b).1 < 0 by rw[h1];decide) hx
  ·refine Ybq hp.ok (by rw[hp.addr];exact ha) (by rw[hp.data];exact hsec) (by rw[hp.conf];exact h1.1) ?_ h1.2.2
   have:=h1.2.1
   unfold Ww at this ⊢
   rw[hp.m,hp.splits,hp.holder];exact this
theorem Ztv {n:Int} {b:GBus} (h:BusI n b):(Wy b).2.now=b.now∧(Wy b).2.conf=b.conf∧(Wy b).2.log=b.log∧(Wy b).2.model=b.model∧(Wy b).2.picks=b.picks∧(Wy b).2.data_=b.data_:=by
 have hp:=Zmo h
 unfold Wy
 split
 ·exact⟨hp.now,hp.conf,hp.log,hp.model,hp.picks,hp.data⟩
 ·exact⟨hp.now,hp.conf,hp.log,hp.model,hp.picks,hp.data⟩
theorem Z9n {n:Int} {b:GBus} (h:BusI n b) (s:GScript) (hd:b.data_=GBeat.z0):BusI n (Xd b s).2∧(Xd b s).2.now=b.now∧b.picks≤(Xd b s).2.picks∧(Xd b s).2.picks≤b.picks+1∧(Xd b s).2.conf=b.conf∧(Xd b s).2.log=b.log∧(Xd b s).2.model=b.model:=by
 have h1:=Zsm h
 have e1:=Zot b
 have h2:=Zss h1 s (by rw[e1.1];exact hd)
 have e2:=Zts (Yz b) s
 have hsec:(Xp (Yz b) s).data_.second=false:=by
  unfold Xp
  split
  ·rename_i hl
   have hA:=h1.addr
   unfold Jv at hA
   rw[if_pos hl] at hA
   exact hA.2.2.2
  ·rw[e1.1,hd]
 have h3:=Z8m h2.1 h2.2 hsec
 have e3:=Ztv h2.1
 unfold Xd
 exact⟨h3,by rw[e3.1,e2.1,e1.2.2.2.1],by rw[e3.2.2.2.2.1,←e1.2.2.1];exact e2.2.2.2.2.2.2.2.1,by rw[e3.2.2.2.2.1,←e1.2.2.1];exact e2.2.2.2.2.2.2.2.2,by rw[e3.2.1,e2.2.1,e1.2.2.2.2.1],by rw[e3.2.2.1,e2.2.2.1,e1.2.2.2.2.2.1],by rw[e3.2.2.2.1,e2.2.2.2.1,e1.2.2.2.2.2.2]⟩
theorem Z8h (b:GBus):(Z7 b).now=b.now∧(Z7 b).conf=b.conf∧(Z7 b).picks=b.picks∧(Z7 b).log=b.log∧(Z7 b).model=b.model∧(Z7 b).m=b.m∧(Z7 b).addr=b.addr∧(Z7 b).data_=b.data_∧(Z7 b).holder=b.holder:=⟨rfl,rfl,rfl,rfl,rfl,rfl,rfl,rfl,rfl⟩
theorem Z6m (b:GBus):(Wu b).now=b.now∧(Wu b).conf=b.conf∧(Wu b).picks=b.picks∧(Wu b).log=b.log∧(Wu b).model=b.model∧(Wu b).m=b.m∧(Wu b).addr=b.addr∧(Wu b).data_=b.data_∧(Wu b).holder=b.holder:=by
 unfold Wu;split<;>exact⟨rfl,rfl,rfl,rfl,rfl,rfl,rfl,rfl,rfl⟩
theorem Zwp (b:GBus) (s:GScript):(Xt b s).now=b.now∧(Xt b s).conf=b.conf∧(Xt b s).picks=b.picks∧(Xt b s).log=b.log∧(Xt b s).model=b.model∧(Xt b s).addr=b.addr∧(Xt b s).data_=b.data_∧(Xt b s).holder=b.holder:=by
 have h1:=Z6m (Z7 (Yl b (J6 s b.now)))
 have h2:=Z8h (Yl b (J6 s b.now))
 have h3:=Zki b (J6 s b.now)
 unfold Xt
 refine⟨?_,?_,?_,?_,?_,?_,?_,?_⟩
 ·rw[h1.1,h2.1,h3.2.1]
 ·rw[h1.2.1,h2.2.1,h3.1]
 ·rw[h1.2.2.1,h2.2.2.1,h3.2.2.1]
 ·rw[h1.2.2.2.1,h2.2.2.2.1,h3.2.2.2.1]
 ·rw[h1.2.2.2.2.1,h2.2.2.2.2.1,h3.2.2.2.2.1]
 ·rw[h1.2.2.2.2.2.2.1,h2.2.2.2.2.2.2.1,h3.2.2.2.2.2.2.2.1]
 ·rw[h1.2.2.2.2.2.2.2.1,h2.2.2.2.2.2.2.2.1,h3.2.2.2.2.2.2.2.2.1]
 ·rw[h1.2.2.2.2.2.2.2.2,h2.2.2.2.2.2.2.2.2,h3.2.2.2.2.2.1]
theorem Z34 {b:GBus} (h:BusP b) (s:GScript):BusI b.now (Xt b s):=Z5u (Ztm (Zoh h.i _))
theorem Zjd (b:GBus) (x:GBeat):(Yx b x).now=b.now∧(Yx b x).picks=b.picks∧(Yx b x).conf=b.conf∧(Yx b x).log=b.log∧(Yx b x).model=b.model:=by
 unfold Yx
 split
 ·exact⟨rfl,rfl,rfl,rfl,rfl⟩
 ·split<;>exact⟨rfl,rfl,rfl,rfl,rfl⟩
theorem Ztk (b:GBus) (s:GScript):(Zj b s).1.now=b.now∧(Zj b s).1.picks=b.picks∧(Zj b s).1.conf=b.conf:=by
 unfold Zj
 repeat' split
 all_goals first
  | exact⟨rfl,rfl,rfl⟩
  | exact⟨(Zjd _ _).1,(Zjd _ _).2.1,(Zjd _ _).2.2.1⟩
theorem Ybn {b:GBus} (h:BusP b) (s:GScript) (hn:b.now < 4000):BusP (Zo4 b s).1∧(Zo4 b s).1.now=b.now+1∧(Zo4 b s).1.conf=b.conf:=by
 have h1:=Z34 h s
 have e1:=Zwp b s
 have hI:BusI (Xt b s).now (Xt b s):=by rw[e1.1];exact h1
 have h2:=Zw5 s (by rw[e1.1];exact h.now.1) hI
 have e2:=Ztk (Xt b s) s
 have hp:=h.picks
 have hnow:=h.now
 unfold Zo4
 rw[e1.1] at h2
 by_cases hr:(Zj (Xt b s) s).2.1=true
 ·rw[if_pos hr]
  have h3:=Z9n h2.1 s (h2.2 hr)
  refine⟨?_,rfl,by show (Xd _ s).2.conf=_;rw[h3.2.2.2.2.1,e2.2.2,e1.2.1]⟩
  have h4:=h3.1
  have e3:(Zj (Xt b s) s).1.picks=b.picks:=by rw[e2.2.1,e1.2.2.1]
  have h5:=h3.2.2.1
  have h6:=h3.2.2.2.1
  generalize (Xd (Zj (Xt b s) s).1 s).2=r at h4 h5 h6 ⊢
  exact⟨h4.conf,⟨by show 0≤b.now+1;omega,by show b.now+1≤4000;omega⟩,h4.ml,h4.bl,h4.sl,fun i hi=>⟨(h4.mst i hi).right,(h4.mst i hi).tries,(h4.mst i hi).bucket,(h4.mst i hi).split⟩,h4.arb,h4.last,h4.model,⟨by show 0≤r.picks;omega,by show r.picks≤b.now+1;omega⟩,h4.alive,h4.dlive,h4.fly,h4.addr,h4.data,h4.held,h4.log⟩
 ·rw[if_neg hr]
  refine⟨?_,rfl,by show (Zj _ s).1.conf=_;rw[e2.2.2,e1.2.1]⟩
  have h4:=h2.1
  have e3:(Zj (Xt b s) s).1.picks=b.picks:=by rw[e2.2.1,e1.2.2.1]
  generalize (Zj (Xt b s) s).1=r at h4 e3 ⊢
  exact⟨h4.conf,⟨by show 0≤b.now+1;omega,by show b.now+1≤4000;omega⟩,h4.ml,h4.bl,h4.sl,fun i hi=>⟨(h4.mst i hi).right,(h4.mst i hi).tries,(h4.mst i hi).bucket,(h4.mst i hi).split⟩,h4.arb,h4.last,h4.model,⟨by show 0≤r.picks;omega,by show r.picks≤b.now+1;omega⟩,h4.alive,h4.dlive,h4.fly,h4.addr,h4.data,h4.held,h4.log⟩
structure GScript.sm (s:GScript):Prop where
 posts:s.posts.length < 1048577
 reqs:∀p∈s.posts,p.req.sm
 waits:s.waits.length < 1048577
 says:s.says.length < 1048577
 wmin:∀w∈s.waits,-9223372036854775808≤w∧w < 9223372036854775808
theorem Z0r (l:List Int) (k:Int) (hl:l.length < 1048577):Zsf l k=some (Zdv l k):=by
 unfold Zsf Zf9 Zdv
 by_cases h:l=[]
 ·simp[h]
 ·have h1:0 < l.length:=List.length_pos_iff.2 h
  rw[if_neg (by simpa using h)]
  by_cases h2:k < 0
  ·simp[h2]
  ·have h3:0≤k % (l.length:Int):=Int.emod_nonneg _ (by omega)
   have h4:k % (l.length:Int) < (l.length:Int):=Int.emod_lt_of_pos _ (by omega)
   rw[Zeg (by omega),Option.bind_some,Kw (by omega),Xu h3 h4]
   simp[h,h2]
theorem Zqj (l:List Int) (k:Int) (hl:l.length < 1048577):Zkn l k=some (Zdv l k):=by
 rw[←Z0r l k hl];rfl
theorem Z96 {l:List Int} {k:Int} (h:∀w∈l,-9223372036854775808≤w∧w < 9223372036854775808):-9223372036854775808≤Zdv l k∧Zdv l k < 9223372036854775808:=by
 unfold Zdv
 split
 ·omega
 ·rename_i hx
  have h1:l≠[]:=fun e=>hx (.inl e)
  have h2:0 < l.length:=List.length_pos_iff.2 h1
  exact h _ (Zeh (Int.emod_nonneg _ (by omega)) (Int.emod_lt_of_pos _ (by omega)))
theorem Z3b (c:GConf) {s:GScript} (k:Int) (hs:s.sm):Zjy c s k=some (Zlx c s k):=by
 unfold Zjy Zlx
 rw[Zqj _ _ hs.waits,Option.bind_some,Zq8,Zfg,Int.min_comm]
theorem Z19 {s:GScript} (k:Int) (hs:s.sm):Zjm s k=some (Zt7 s k):=by
 unfold Zjm Zt7
 rw[Zqj _ _ hs.says,Option.bind_some]
 by_cases h1:Zdv s.says k=2
 ·simp[h1]
 ·by_cases h2:Zdv s.says k=3<;>simp[h1,h2]
theorem Z0f (c:GConf) {s:GScript} (k:Int) (hs:s.sm):Zh1 c s k=some (Zh8 c s k):=by
 have h:=Z96 (k:=k) hs.wmin
 unfold Zh1 Zh8
 rw[Zqj _ _ hs.waits,Option.bind_some,Zq8,Zfg,Zfg,Zp (by omega) (by omega)]
 congr 1
 omega
theorem Z09 {α:Type} (p:α→Bool) (xs:List α) (k:Nat) (hk:k < xs.length):(xs.take (k+1)).filter p=(xs.take k).filter p++(if p xs[k] then [xs[k]] else []):=by
 rw[List.take_succ_eq_append_getElem hk,List.filter_append]
 cases hq:p xs[k]<;>simp[hq]
theorem Zzo (s:GScript) (t:Int) (hs:s.sm):Zhv s t=some (J6 s t):=by
 unfold Zhv J6
 have hp:=hs.posts
 refine Kt (σ:=List GPost) (n:=s.posts.length) (by omega) (fun k=>(s.posts.take k).filter fun p=>decide (p.at_=t)) (B:=Zas s t) (L:=Zcd s t) (fun m s i=>rfl) (fun k hk κ=>?_) fun κ=>?_
 ·unfold Zas
  have hlen:((s.posts.take k).filter fun p=>decide (p.at_=t)).length≤k:=Nat.le_trans (List.length_filter_le ..) (by rw[List.length_take];omega)
  rw[if_pos (by simpa using hk),Zt hk,Option.bind_some,Z09 _ _ _ hk,Zp2 _ (hs.reqs _ (List.getElem_mem hk)),Option.bind_some]
  by_cases e:s.posts[k].at_=t
  ·rw[if_pos (by simpa using e),Y7 (by simp only[List.length_cons,List.length_nil];omega) (by simp only[List.length_cons,List.length_nil];omega),Option.bind_some,if_pos (decide_eq_true e)]
  ·rw[if_neg (by simpa using e),if_neg (by simpa using e),List.append_nil]
 ·unfold Zas
  rw[if_neg (by simp),List.take_length]
theorem Z86 {s:GScript} (hs:s.sm) (t:Int):(J6 s t).length < 1048577∧∀p∈J6 s t,p.req.sm:=by
 have hp:=hs.posts
 refine⟨Nat.lt_of_le_of_lt (List.length_filter_le ..) hp,fun p hx=>hs.reqs p ?_⟩
 unfold J6 at hx
 exact (List.mem_filter.1 hx).1
theorem Zy3 (b:GBus) (ps:List GPost) (k:Nat) (hk:k < ps.length):Yl b (ps.take (k+1))=Xm (Yl b (ps.take k)) ps[k]:=by
 unfold Yl
 rw[List.take_succ_eq_append_getElem hk,List.foldl_append]
 rfl
theorem Zwu (c:GConf) (h:c.masters.length < 1048577):Zr3 c=some c∧Zgb c=some c:=by
 unfold Zr3 Zbb Zgb
 rw[Y7 (by simp;omega) (by simp;omega)]
 exact⟨rfl,rfl⟩
theorem Zy4 (xs:List GDone) (h:xs.length < 1048577):appI 56 [] xs=some xs:=by
 rw[Y7 (by simp;omega) (by simp;omega)];rfl
theorem Z88 (xs:List GBucket) (h:xs.length < 1048577):appI 16 [] xs=some xs:=by
 rw[Y7 (by simp;omega) (by simp;omega)];rfl
theorem Z0c (b:GBus) (hs:b.sm):Zhx b=some b:=by
 unfold Zhx
 rw[(Zwu b.conf hs.conf).2,Option.bind_some]
 have:=hs.ml
 refine (Kt (σ:=GBus) (n:=b.m.length) (by omega) (fun k=>{b with m:=b.m.take k}) (B:=Zay b) (L:=Ji b) (fun m s i=>rfl) (fun k hk κ=>?_) fun κ=>?_:Ji b FU {b with m:=[]} 0=some b)
 ·unfold Zay
  have hlen:(b.m.take k).length=k:=by rw[List.length_take];omega
  simp only
  rw[if_pos (by simpa using hk),Zt hk,Option.bind_some,Zco _ (hs.mst _ (List.getElem_mem hk)),Option.bind_some,Y7 (by simp only[List.length_cons,List.length_nil];omega) (by simp only[List.length_cons,List.length_nil];omega),Option.bind_some,←List.take_succ_eq_append_getElem hk]
 ·unfold Zay
  simp only
  rw[if_neg (by simp),Z88 _ hs.bl,Option.bind_some,Zn1 _ hs.sl,Option.bind_some,Zrp _ hs.model,Option.bind_some,Zy4 _ hs.log,Option.bind_some,List.take_length]
theorem Z36 {c:GConf} {n:Int} (hn:n≤4001) {l:List GDone} (h:(∀d∈l,Ztb c n d)∧l.Pairwise fun x y=>x.cycle < y.cycle):l.length≤4001:=by
 have key:∀(l:List GDone) (a:Int),(∀d∈l,a≤d.cycle∧d.cycle < n)→(l.Pairwise fun x y=>x.cycle < y.cycle)→l≠[]→(l.length:Int)≤n - a:=by
  intro l
  induction l with
  | nil=>intro a _ _ h;exact absurd rfl h
  | cons x xs ih=>
   intro a h1 h2 _
   have h3:=h1 x (List.mem_cons_self ..)
   by_cases hx:xs=[]
   ·subst hx;simp;omega
   ·have h4:=List.pairwise_cons.1 h2
    have:=ih (x.cycle+1) (fun d hd=>⟨by have:=h4.1 d hd;omega,(h1 d (List.mem_cons_of_mem _ hd)).2⟩) h4.2 hx
    simp only[List.length_cons]
    omega
 by_cases hx:l=[]
 ·subst hx;simp
 ·have:=key l 0 (fun d hd=>(h.1 d hd).1) h.2 hx
  omega
theorem BusI.sm {n:Int} {b:GBus} (h:BusI n b) (hn:n≤4001):b.sm:=by
 have h1:=Znu h.conf
 have h2:=h.ml
 have h3:=h.bl
 have h4:=h.sl
 have h5:=Z36 hn h.log
 refine⟨h1,by omega,fun x hx=>?_,by omega,by omega,h.model.sm,by omega⟩
 obtain⟨k,hk,rfl⟩:=List.getElem_of_mem hx
 have:=(h.mst (k:Int) (mas (by omega))).right.sm
 rwa [Wp hk] at this
theorem BusP.sm {b:GBus} (h:BusP b):b.sm:=h.i.sm (by have:=h.now;omega)
section
variable {n:Int} {b:GBus} {s:GScript}
theorem Zna (x:GBeat) (hc:Yd b.conf=true) (hw:Zb b.conf x.who=true) (hml:b.m.length=b.conf.masters.length) (hbl:b.buckets.length=b.conf.masters.length) (hr:RightP (atI b.m x.who)) (har:wrrG b.arb b.conf=true):Zbh b x=some (Yx b x):=by
 obtain⟨ok,hbk⟩:=Z0e hr
 unfold Zbh Yx
 rw[Zea hml hw,Option.bind_some,hbk,Option.bind_some,X2,Option.bind_some,idx_b hbl hw,Option.bind_some,Z47 hw,Option.bind_some,Zuq _ (Zgz hc hw),Option.bind_some,X2,Option.bind_some,Z0q _ _ _ har,Option.bind_some]
 by_cases h1:x.by_=1
 ·simp[h1]
 ·by_cases h2:x.by_=2<;>simp[h1,h2]
theorem Zu5 {m:GMst} {k:Int} (h:RightP m) (hq:m.queue≠[]) (h0:0≤k) (h1:k < Ze m):Zdc (atI m.queue 0) k=some (Zj7 m k):=by
 unfold Zdc Zj7
 by_cases hw:(atI m.queue 0).write=true
 ·have:=Z71 h h0 h1 hw
  rw[if_neg (by simp[hw]),if_pos hw,Xu this.1 this.2];rfl
 ·rw[if_pos (by simpa using hw),if_neg hw]
theorem Zra {m:GMst} {k:Int} (h0:0≤k) (h1:k < Ze m):m.queue≠[]:=by
 intro hq
 unfold Ze at h1
 rw[if_pos hq] at h1
 omega
theorem Zpz {m:GMst} (hq:m.queue≠[]):idx m.queue 0=some (atI m.queue 0):=by
 have hl:0 < m.queue.length:=List.length_pos_iff.2 hq
 exact Xu (by omega) (by omega)
theorem Z0o {m:GMst} (h:RightP m) (hp:m.beat - m.done≥1):(endG m).done=0↔m.done+1=Ze m:=by
 have hb:=Zde h
 have hf:=Zw9 h hp
 by_cases e:m.done+1=Ze m
 ·rw[(hf.1 e).2.2.2.1];simp[e]
 ·rw[(hf.2 e).2.2.1];simp[e];omega
theorem Z2n (h:BusI b.now b) (hs:s.sm) (hn:b.now≤4000) (hd:b.data_.live=true) (hl:¬b.data_.left > 0) (hns:¬(b.data_.resp≠0∧b.data_.second=false)):Ze0 b s=some (Zj b s).1:=by
 have hdf:¬b.data_.live=false:=by simp[hd]
 have hdat:=h.data
 unfold Q6 at hdat
 rw[if_pos hd] at hdat
 have hw:=Xq h hd
 have hmw:=(h.mst _ hw).right
 have hp:=Zkc h hd
 have hbt:=Zw3 h hd
 have hmb:=Z9 hw
 have hml:=h.ml
 have hq:=Zra hbt.1 hbt.2
 have hrset:∀x:GMst,RightP x→RightP (atI (b.m.set b.data_.who.toNat x) b.data_.who):=fun x hx=>by rw[Zmx x hmb.1 (by omega)];exact hx
 have hlen:∀x:GMst,(b.m.set b.data_.who.toNat x).length=b.conf.masters.length:=fun x=>by rw[List.length_set];exact hml
 unfold Ze0 Zj
 rw[if_neg hdf,if_neg hl,if_neg hns,Zea hml hw,Option.bind_some]
 by_cases h2:b.data_.resp=2
 ·have ht:=hdat.2.1 h2
  have hmx:=(X9 h.conf).1
  have htr:=hmw.tries
  have hr2:RightP {atI b.m b.data_.who with tries:=(atI b.m b.data_.who).tries+1}:=⟨hmw.len,by show 0≤(atI b.m b.data_.who).tries+1;omega,hmw.reqs,fun hq=>absurd (show (atI b.m b.data_.who).queue=[] from hq) (Zra hbt.1 hbt.2),hmw.some⟩
  simp only[decide_eq_true h2,if_true,if_pos h2,Option.bind_some,X2,Zp (a:=(atI b.m b.data_.who).tries) (b:=1) (by omega) (by omega)]
  rw[Zna (b:={b with data_:=GBeat.z0,m:=b.m.set b.data_.who.toNat {atI b.m b.data_.who with tries:=(atI b.m b.data_.who).tries+1}}) b.data_ h.conf hw (hlen _) h.bl (hrset _ hr2) h.arb]
  rfl
 ·by_cases h3:b.data_.resp=3
  ·have hr3:RightP {atI b.m b.data_.who with parted:=true}:=⟨hmw.len,hmw.tries,hmw.reqs,fun hq=>absurd (show (atI b.m b.data_.who).queue=[] from hq) (Zra hbt.1 hbt.2),hmw.some⟩
   simp only[decide_eq_false h2,decide_eq_true h3,if_true,if_false,Bool.false_eq_true,if_neg h2,if_pos h3,idx_s h.sl hw,Option.bind_some,X2,Z0f _ _ hs]
   rw[Zna (b:={b with data_:=GBeat.z0,m:=b.m.set b.data_.who.toNat {atI b.m b.data_.who with parted:=true},splits:=b.splits.set b.data_.who.toNat (Zh8 b.conf s b.picks)}) b.data_ h.conf hw (hlen _) h.bl (hrset _ hr3) h.arb]
   rfl
  ·have hlog:=Z36 (by omega) h.log
   obtain⟨ok,he⟩:=Z2m hmw
   have hJ:∀(mo:GModel) (d:GDone),Q1 b s {b with data_:=GBeat.z0,model:=mo} (atI b.m b.data_.who) d=some {b with data_:=GBeat.z0,model:=mo,log:=b.log++[d],m:=b.m.set b.data_.who.toNat (endG (atI b.m b.data_.who)),holder:=if b.holder=b.data_.who∧(atI b.m b.data_.who).done+1=Ze (atI b.m b.data_.who) then -1 else b.holder,held:=if b.holder=b.data_.who∧(atI b.m b.data_.who).done+1=Ze (atI b.m b.data_.who) then 0 else b.held}:=by
    intro mo d
    unfold Q1
    simp only
    rw[Y7 (by simp only[List.length_cons,List.length_nil];omega) (by simp only[List.length_cons,List.length_nil];omega),Option.bind_some,he,Option.bind_some]
    simp only[Option.bind_some,Zea hml hw,X2]
    by_cases e1:b.holder=b.data_.who
    ·by_cases e2:(atI b.m b.data_.who).done+1=Ze (atI b.m b.data_.who)
     ·have e3:=(Z0o hmw hp).2 e2
      simp only[decide_eq_true e1,decide_eq_true e3,if_true,if_pos (And.intro e1 e2)]
     ·have e3:=mt (Z0o hmw hp).1 e2
      simp only[decide_eq_true e1,decide_eq_false e3,if_true,if_false,Bool.false_eq_true,if_neg (fun hx:b.holder=b.data_.who∧_=>e2 hx.2)]
    ·simp only[decide_eq_false e1,if_false,Bool.false_eq_true,if_neg (fun hx:b.holder=b.data_.who∧_=>e1 hx.1)]
   simp only[decide_eq_false h2,decide_eq_false h3,if_false,Bool.false_eq_true,if_neg h2,if_neg h3]
   rw[Zpz hq,Option.bind_some,J8 _ hmw,Option.bind_some]
   unfold Zim Zyb doG
   by_cases e:b.data_.resp=0
   ·rw[if_pos (decide_eq_true e),Zu5 hmw hq hbt.1 hbt.2,Option.bind_some,Zky _ _ _ _ h.model,Option.bind_some,hJ]
    simp only[if_pos e]
   ·rw[if_neg (by simpa using e)]
    have:=hJ b.model (GDone.mk b.now b.data_.who (atI (atI b.m b.data_.who).queue 0).write (X3 (atI b.m b.data_.who) b.data_.beat) (atI (atI b.m b.data_.who).queue 0).size 0 b.data_.resp)
    refine Eq.trans (b:=_) ?_ (this.trans ?_)
    ·rfl
    ·simp only[if_neg e]
end
section
variable {n:Int} {b:GBus} {s:GScript}
theorem Z1a (a:Int):Zw a=0∨Zw a=1∨Zw a=2∨Zw a=3:=by
 unfold Zw
 repeat' split
 all_goals simp
theorem Z4m (h:BusI n b) (hs:s.sm) (hp:0≤b.picks∧b.picks≤4000):Zfu b s=some (Xp b s):=by
 unfold Zfu Xp
 by_cases hl:b.addr.live=true
 ·have hw:=Kn h hl
  have hmw:=(h.mst _ hw).right
  have hbt:=Zws h hl
  have hq:=Zra hbt.1 hbt.2
  have hwt:=Z33 h.conf s b.picks
  have hlm:=(X9 h.conf).2.1
  have hA:=h.addr
  unfold Jv at hA
  rw[if_pos hl] at hA
  rw[if_neg (by simp[hl]),if_pos hl,Zea h.ml hw,Option.bind_some,Zpz hq,Option.bind_some,J8 _ hmw,Option.bind_some,Zqp,Option.bind_some,Z19 _ hs,Option.bind_some]
  have hsr:=Z1a (X3 (atI b.m b.addr.who) b.addr.beat)
  have hJ8:∀x:GBeat,Kl b s x=some {b with addr:=GBeat.z0,data_:=x,picks:=b.picks+1}:=by
   intro x
   unfold Kl
   rw[Zp (by omega) (by omega)]
  unfold Zbj
  by_cases e1:(atI b.m b.addr.who).broken=true
  ·rw[if_pos e1,if_pos (.inl e1)]
   unfold W3 W7 W6 W9 Y8 W8 Xa
   simp only[if_true,e1,Bool.not_true,Bool.false_eq_true,if_false,hJ8,Zsr]
   congr 2
   rw[hA.2.1]
  ·have e1':(atI b.m b.addr.who).broken=false:=by simpa using e1
   rw[if_neg e1]
   generalize hsl:Zw (X3 (atI b.m b.addr.who) b.addr.beat)=sl at hsr
   by_cases e2:sl=0
   ·rw[decide_eq_true e2,if_pos (.inr e2)]
    unfold W3 W7 W6 W9 Y8 W8 Xa
    have f1:¬sl=3:=by omega
    have f2:¬sl=1:=by omega
    have f3:¬sl=2:=by omega
    simp only[if_true,e1',f1,f2,f3,decide_false,Bool.not_false,Bool.false_eq_true,if_false,hJ8,Zsr]
    congr 2
    rw[hA.2.1]
   ·rw[decide_eq_false e2,if_neg (fun hx=>hx.elim e1 e2)]
    unfold W3
    rw[if_neg (by simp),Z3b _ _ hs,Option.bind_some,Zu5 hmw hq hbt.1 hbt.2,Option.bind_some,Zky _ _ _ _ h.model,Option.bind_some]
    have hdo:Yp b.model (atI (atI b.m b.addr.who).queue 0).write (X3 (atI b.m b.addr.who) b.addr.beat) (atI (atI b.m b.addr.who).queue 0).size (Zj7 (atI b.m b.addr.who) b.addr.beat)=doG b b.addr:=rfl
    rw[hdo]
    unfold W7 W6 W9 Y8 W8 Xa
    simp only[e1',Bool.not_false,if_true,hJ8,Zp (a:=Zlx b.conf s b.picks) (b:=2) (by omega) (by omega)]
    generalize Zt7 s b.picks=sd
    by_cases g1:sl=3
    ·subst g1
     by_cases g2:sd=2
     ·subst g2;simp
     ·by_cases g3:sd=3
      ·subst g3;simp
      ·simp[g2,g3]
    ·by_cases g4:sl=2
     ·subst g4
      by_cases g2:sd=2
      ·subst g2
       by_cases g5:(atI b.m b.addr.who).tries < b.conf.maxRetry<;>simp[g5]
      ·by_cases g3:sd=3
       ·subst g3
        by_cases g5:(atI b.m b.addr.who).parted=true
        ·simp[g5]
        ·by_cases g6:b.addr.who=b.holder
         ·simp[g5,g6]
         ·have g7:¬b.holder=b.addr.who:=fun e=>g6 e.symm
          simp[g5,g6,g7]
       ·simp[g2,g3]
     ·have g8:sl=1:=by omega
      subst g8
      by_cases g2:sd=2
      ·subst g2
       by_cases g5:(atI b.m b.addr.who).tries < b.conf.maxRetry<;>simp[g5]
      ·by_cases g3:sd=3
       ·subst g3;simp
       ·simp[g2,g3]
 ·rw[if_pos (by simpa using hl),if_neg hl]
  have hA:=h.addr
  unfold Jv at hA
  rw[if_neg hl] at hA
  rw[←hA]
theorem Z5z (b:GBus) (k:Nat):((List.range (k+1)).map fun j:Nat=>Ww b (j:Int))=((List.range k).map fun j:Nat=>Ww b (j:Int))++[Ww b (k:Int)]:=by
 rw[List.range_succ,List.map_append];rfl
theorem Zl8 (h:BusI n b):b.holder=-1∨Zb b.conf b.holder=true:=by
 by_cases e:b.holder=-1
 ·exact .inl e
 ·exact .inr (Zc5 h e).1
theorem Yby {b:GBus} {i:Int} (hr:RightP (atI b.m i)) (h:Ww b i=true):(atI b.m i).queue≠[]:=by
 have:=(Zty h).1
 have:=Zde hr
 intro hq
 unfold Ze at*
 rw[if_pos hq] at*
 omega
end
section
variable {n:Int} {b:GBus} {s:GScript}
theorem Z80 {c:GBucket} {m:GMConf} (h:Zz c m=true):(Ze4 c m).2=decide (c.tokens > 0):=by
 unfold Ze4
 by_cases hp:m.prio=true
 ·have h2:=h
  unfold Zz at h2
  rw[if_pos hp] at h2
  simp only[Bool.and_eq_true,decide_eq_true_eq] at h2
  by_cases e:c.tokens=0
  ·simp[hp,h,e]
  ·have:c.tokens > 0:=by omega
   simp[hp,h,e,this]
 ·have h2:=h
  unfold Zz at h2
  rw[if_neg hp] at h2
  simp only[Bool.and_eq_true,decide_eq_true_eq] at h2
  simp[hp,h2.1]
theorem Zp7 (x0:GBus) (h:BusI n b) {who by_:Int} (hw:Zb b.conf who=true) (hwant:Ww b who=true):Xo x0 b (GBeat.mk false who 0 false by_ 0 0 false)=some (Zuk b who by_):=by
 obtain⟨ok,hi⟩:=Zxz (h.mst _ hw).right
 have hq:=Yby (h.mst _ hw).right hwant
 have hmb:=Z9 hw
 unfold Xo
 simp only
 rw[if_neg (by simp;omega),Zea h.ml hw,Option.bind_some]
 have hh:=Zl8 h
 have hlt:b.holder < 0↔b.holder=-1:=by
  rcases hh with hh|hh
  ·omega
  ·have:=Z9 hh;omega
 have hJ:∀f:Bool,Kp x0 b (GBeat.mk true who (atI b.m who).beat f by_ 0 0 false) (atI b.m who)=some {b with addr:=GBeat.mk true who (atI b.m who).beat f by_ 0 0 false,holder:=if Zx (atI b.m who)=true∧b.holder=-1 then who else b.holder,held:=if Zx (atI b.m who)=true∧b.holder=-1 then 0 else b.held,m:=b.m.set who.toNat (Z8 (atI b.m who)),last:=who}:=by
  intro f
  unfold Kp Qz Jt
  simp only[Zpz hq,Option.bind_some,hi,Zea h.ml hw,X2]
  unfold Zx
  by_cases e1:(atI (atI b.m who).queue 0).lock=true
  ·by_cases e2:(atI b.m who).broken=true
   ·simp[e1,e2]
   ·by_cases e3:b.holder=-1
    ·have e4:=hlt.2 e3
     simp[e1,e2,e3,hq]
    ·have e4:=mt hlt.1 e3
     simp[e1,e2,e3,e4]
  ·simp[e1]
 unfold Zuk
 by_cases e:(atI b.m who).beat=0
 ·rw[if_pos (decide_eq_true e),hJ,decide_eq_true e];rfl
 ·rw[if_neg (by simpa using e),hJ,decide_eq_false e,Bool.false_or]
theorem Zsg (x0:GBus) (c:GBus) (by_:Int):Xo x0 c (GBeat.mk false (-1) 0 false by_ 0 0 false)=some c:=by
 unfold Xo
 rw[if_pos (by simp)]
theorem Z48 (h:BusI n b):Zgu b=some (Wy b).2:=by
 have hlen:=Jk h.conf
 have hml:=h.ml
 have hh:=Zl8 h
 have hlt:b.holder < 0↔b.holder=-1:=by
  rcases hh with hh|hh
  ·omega
  ·have:=Z9 hh;omega
 have hp:=Zmo h
 have hgo:∀(m:Nat) (c:GBus) (who by_:Int) (k:Nat),0≤who→X7 b (m+1) c (GBeat.mk false who 0 false by_ 0 0 false) (Qp b) (k:Int)=Xo b c (GBeat.mk false who 0 false by_ 0 0 false):=by
  intro m c who by_ k hwho
  have hn:¬who < 0:=by omega
  show Xw b _ c _ _ _=_
  unfold Xw W4 Kg
  simp only[decide_eq_false hn,Bool.false_eq_true,if_false,Zsr]
 have hL2:(¬(b.holder≠-1∧Ww b b.holder=true))→X7 b FU b (GBeat.mk false (-1) 0 false 0 0 0 false) (Qp b) 0=some (Wy b).2:=by
  intro hnl
  have key:∀(r m k:Nat),r+1 < m→k+r=b.m.length→(List.range b.m.length).find? (Zcy b)=(List.range' k r).find? (Zcy b)→X7 b m b (GBeat.mk false (-1) 0 false 0 0 0 false) (Qp b) (k:Int)=some (Wy b).2:=by
   intro r
   induction r with
   | zero=>
    intro m k hm hk hfind
    obtain⟨m,rfl⟩:∃m',m=m'+1:=⟨m - 1,by omega⟩
    show Xw b _ b _ (Qp b) (k:Int)=_
    unfold Xw W4 Kg
    have hf:(List.range b.m.length).find? (Zcy b)=none:=by rw[hfind];rfl
    rw[if_neg (by simp;omega),if_neg (by simp),if_pos (by simp)]
    have hpk:Q4 b=if b.holder≠-1 then (-1,0,b) else ((Zcp b.arb b.conf (Qp b)).2,2,{b with arb:=(Zcp b.arb b.conf (Qp b)).1}):=by
     unfold Q4
     rw[if_neg hnl,hf]
    by_cases e:b.holder=-1
    ·rw[decide_eq_true (hlt.2 e),if_pos rfl,Z0h _ _ _ h.arb (by rw[Zgm,hml]),Option.bind_some]
     rw[if_neg (by simpa using e)] at hpk
     have hw:=hp.who
     have hok:=hp.ok
     unfold Wy
     rw[hpk] at hw hok ⊢
     simp only at hw hok ⊢
     rcases hw with hw|hw
     ·rw[hw,Zsg,if_pos (by decide)]
     ·have hmb:=Z9 hw.1
      rw[if_neg (by omega)]
      exact Zp7 b hok hw.1 hw.2.1
    ·rw[decide_eq_false (mt hlt.1 e),if_neg (by simp),Zsg]
     rw[if_pos e] at hpk
     unfold Wy
     rw[hpk,if_pos (show (-1:Int) < 0 by decide)]
   | succ r ih=>
    intro m k hm hk hfind
    obtain⟨m,rfl⟩:∃m',m=m'+1:=⟨m - 1,by omega⟩
    show Xw b _ b _ (Qp b) (k:Int)=_
    have hmk:=mas (c:=b.conf) (k:=k) (by omega)
    have hix:idx (Qp b) (k:Int)=some (Ww b (k:Int)):=by
     rw[Xu (by omega) (by rw[Zgm];omega),Zpt h hmk]
    rw[List.range'_succ,List.find?_cons] at hfind
    unfold Xw W4 Zax
    rw[if_pos (by simp;omega),if_pos (by simp),hix,Option.bind_some,idx_b h.bl hmk,Option.bind_some,Option.bind_some,Z47 hmk,Option.bind_some,Zus _ (Zgz h.conf hmk),Option.bind_some,X2,Option.bind_some,Z3 (by omega),←Z80 (h.mst _ hmk).bucket]
    by_cases e1:Ww b (k:Int)=true
    ·by_cases e2:(Ze4 (atI b.buckets (k:Int)) (atI b.conf.masters (k:Int))).2=true
     ·have e3:Zcy b k=true:=by simp[Zcy,e1,e2]
      rw[e3] at hfind
      have hpk:Q4 b=((k:Int),1,{b with buckets:=b.buckets.set k (Ze4 (atI b.buckets (k:Int)) (atI b.conf.masters (k:Int))).1}):=by
       unfold Q4
       rw[if_neg hnl,hfind]
      rw[if_pos e1,if_pos e2]
      obtain⟨m,rfl⟩:∃m',m=m'+1:=⟨m - 1,by omega⟩
      rw[hgo m _ _ _ _ (by omega)]
      have hw:=hp.who
      have hok:=hp.ok
      unfold Wy
      rw[hpk] at hw hok ⊢
      simp only at hw hok ⊢
      rcases hw with hw|hw
      ·omega
      ·rw[if_neg (by omega)]
       exact Zp7 b hok hw.1 hw.2.1
     ·have e3:Zcy b k=false:=by simp[Zcy,e1,e2]
      rw[e3] at hfind
      rw[if_pos e1,if_neg e2]
      exact ih m (k+1) (by omega) (by omega) hfind
    ·have e3:Zcy b k=false:=by simp[Zcy,e1]
     rw[e3] at hfind
     rw[if_neg e1,if_neg (by simp)]
     exact ih m (k+1) (by omega) (by omega) hfind
  have:=key b.m.length FU 0 (by have:=Yu;omega) (by omega) (by rw[List.range_eq_range'])
  simpa using this
 unfold Zgu
 refine Kt (σ:=List Bool) (n:=b.m.length) (by omega) (fun k=>(List.range k).map fun j:Nat=>Ww b (j:Int)) (B:=Jw b) (L:=Zan b) (fun m s i=>rfl) (fun k hk κ=>?_) fun κ=>?_
 ·have hmk:=mas (c:=b.conf) (k:=k) (by omega)
  unfold Jw
  have happ:∀x:Bool,appI 1 ((List.range k).map fun j:Nat=>Ww b (j:Int)) [x]=some (((List.range k).map fun j:Nat=>Ww b (j:Int))++[x]):=fun x=>Y7 (by simp;omega) (by simp;omega)
  rw[if_pos (by simpa using hk),Zea hml hmk,Option.bind_some,Zpj (h.mst _ hmk).right,Option.bind_some,idx_s h.sl hmk,Option.bind_some,Z5z]
  simp only[happ,Option.bind_some]
  unfold Ww
  by_cases e1:Znj (atI b.m (k:Int))=true
  ·by_cases e2:atI b.splits (k:Int)=0
   ·by_cases e3:b.holder=-1
    ·simp[e1,e2,e3]
    ·have e4:=mt hlt.1 e3
     simp only[e1,e2,e3,e4,decide_true,decide_false,if_true,Bool.false_eq_true,if_false,Bool.true_and,Bool.false_or]
   ·simp[e1,e2]
  ·simp[e1]
 ·unfold Jw Zam Zap
  rw[if_neg (by simp)]
  show (if decide (b.holder≥0)=true then (idx (Qp b) b.holder).bind _ else _)=_
  by_cases e:b.holder=-1
  ·rw[if_neg (by simp;omega),if_neg (by simp)]
   exact hL2 fun hx=>hx.1 e
  ·have hw:=(Zc5 h e).1
   have hmb:=Z9 hw
   rw[if_pos (by simpa using hmb.1),Xu hmb.1 (by rw[Zgm];omega),Option.bind_some,Zpt h hw]
   by_cases e2:Ww b b.holder=true
   ·have hpk:Q4 b=(b.holder,3,b):=by
     unfold Q4
     rw[if_pos ⟨e,e2⟩]
    rw[if_pos e2]
    have hfu:FU=(FU - 1)+1:=by decide
    show X7 b FU b (GBeat.mk false b.holder 0 false 3 0 0 false) (Qp b) ((0:Nat):Int)=_
    rw[hfu,hgo _ _ _ _ _ hmb.1]
    unfold Wy
    rw[hpk,if_neg (by simp;omega)]
    exact Zp7 b h hw e2
   ·rw[if_neg e2]
    exact hL2 fun hx=>e2 hx.2
theorem Z37 {α:Type} {X Y:List α} (hl:X.length=Y.length) {k:Nat} (hk:k < Y.length):idx (X.take k++Y.drop k) (k:Int)=some Y[k]∧(X.take k++Y.drop k).set k (X[k]'(by omega))=X.take (k+1)++Y.drop (k+1):=by
 have h1:(X.take k).length=k:=by rw[List.length_take];omega
 constructor
 ·rw[Zt (by simp;omega)]
  simp[List.getElem_append_right,h1]
 ·rw[List.set_append_right _ _ (by omega),h1,Nat.sub_self,List.drop_eq_getElem_cons hk,List.set_cons_zero,List.take_succ_eq_append_getElem (show k < X.length by omega),List.append_assoc]
  rfl
def Zev (c:GBus) (k:Nat):GBus:={c with splits:=(Z7 c).splits.take k++c.splits.drop k,buckets:=(Z7 c).buckets.take k++c.buckets.drop k}
theorem Ya8 (c:GBus):Zev c 0=c:=by simp[Zev]
theorem Z6p (h:BusI n b):Zev b b.conf.masters.length=Z7 b:=by
 have h1:=h.sl
 have h2:=h.bl
 unfold Zev Z7
 simp only
 rw[List.take_of_length_le (by simp;omega),List.drop_of_length_le (by omega),List.take_of_length_le (by simp;omega),List.drop_of_length_le (by omega),List.append_nil,List.append_nil]
theorem Z4f (h:BusI n b) {k:Nat} (hk:k < b.conf.masters.length):idx (Zev b k).splits (k:Int)=some (atI b.splits (k:Int))∧(Zev b k).splits.set k (max (atI b.splits (k:Int) - 1) 0)=(Zev b (k+1)).splits∧
  idx (Zev b k).buckets (k:Int)=some (atI b.buckets (k:Int))∧(Zev b k).buckets.set k (Zjj (atI b.buckets (k:Int)) (atI b.conf.masters (k:Int)))=(Zev b (k+1)).buckets:=by
 have h1:=h.sl
 have h2:=h.bl
 have m1:=Z37 (X:=(Z7 b).splits) (Y:=b.splits) (by simp[Z7]) (k:=k) (by omega)
 have m2:=Z37 (X:=(Z7 b).buckets) (Y:=b.buckets) (by simp[Z7];omega) (k:=k) (by omega)
 rw[Wp (by omega),Wp (by omega),Wp hk]
 refine⟨m1.1,?_,m2.1,?_⟩
 ·have:=m1.2
  simp only[Z7,List.getElem_map] at this
  exact this
 ·have:=m2.2
  simp only[Z7,List.getElem_zipWith] at this
  exact this
end
section
variable {n:Int} {b:GBus} {s:GScript}
theorem Z10 (h:BusI n b) (s:GScript) (hd:b.data_=GBeat.z0):BusI n (Yz b)∧BusI n (Xp (Yz b) s):=⟨Zsm h,(Zss (Zsm h) s (by rw[(Zot b).1];exact hd)).1⟩
theorem Zzg (x0:GBus) (w:GWave) (h:BusI n b) (hs:s.sm) (hd:b.data_=GBeat.z0) (hp:0≤b.picks∧b.picks≤4000) (hn:0≤b.now∧b.now≤4000) (hg:w.got=-1):(if decide (b.holder≥0)=true then X0 x0 s b w (decide (b.held≥b.conf.lockMost)) else X0 x0 s b w false)=some ({(Xd b s).2 with now:=b.now+1},{w with got:=(Xd b s).1}):=by
 obtain⟨h1,h2⟩:=Z10 h s hd
 have e1:=Zot b
 have e2:=Zts (Yz b) s
 have hz:=(Zss h1 s (by rw[e1.1];exact hd)).2
 have hJ9:Qs x0 s (Yz b) w=some ({(Xd b s).2 with now:=b.now+1},{w with got:=(Xd b s).1}):=by
  unfold Qs Qr Xd
  have hgr:=Z48 h2
  have hgd:=(Ztv h2).1
  rw[Z4m h1 hs (by rw[e1.2.2.1];exact hp),Option.bind_some,hgr,Option.bind_some]
  have hpk:=Zmo h2
  rw[hgd,e2.1,e1.2.2.2.1,Zp (by omega) (by omega)]
  unfold Wy
  rcases hpk.who with hw|hw
  ·rw[if_pos (show (Q4 (Xp (Yz b) s)).1 < 0 by rw[hw];decide)]
   have:(Q4 (Xp (Yz b) s)).2.2.addr.live=false:=by rw[hpk.addr,hz]
   rw[if_neg (by simp[this])]
   rw[show (-1,(Q4 (Xp (Yz b) s)).2.2).1=w.got from hg.symm]
  ·have hmb:=Z9 hw.1
   rw[if_neg (show ¬(Q4 (Xp (Yz b) s)).1 < 0 by omega),if_pos (by rfl)]
   rfl
 have hh:=Zl8 h
 have hlt:b.holder≥0↔b.holder≠-1:=by
  rcases hh with hh|hh
  ·omega
  ·have:=Z9 hh;omega
 have hJ7:X0 x0 s b w false=Qs x0 s b w:=by unfold X0;rw[if_neg (by simp)]
 by_cases e:b.holder=-1
 ·have hb:Yz b=b:=by unfold Yz;rw[if_neg (fun hx:b.holder≠-1∧b.held=b.conf.lockMost=>hx.1 e)]
  rw[if_neg (by simp;omega),hJ7]
  rwa [hb] at hJ9
 ·rw[if_pos (by simpa using hlt.2 e)]
  have hhe:=(Zc5 h e).2.2.2
  by_cases e2:b.held=b.conf.lockMost
  ·have hb:Yz b=freeG {b with m:=b.m.set b.holder.toNat {atI b.m b.holder with broken:=true}}:=by unfold Yz;rw[if_pos ⟨e,e2⟩]
   unfold X0
   rw[decide_eq_true (show b.held≥b.conf.lockMost by omega),if_pos rfl,Zea h.ml (Zc5 h e).1,Option.bind_some,X2,Option.bind_some]
   rw[hb] at hJ9
   exact hJ9
  ·have hb:Yz b=b:=by unfold Yz;rw[if_neg (fun hx:b.holder≠-1∧b.held=b.conf.lockMost=>e2 hx.2)]
   rw[decide_eq_false (show ¬b.held≥b.conf.lockMost by omega),hJ7]
   rwa [hb] at hJ9
theorem Yb0 (x0:GBus) (w:GWave) (h:BusI b.now b) (hs:s.sm) (hw:w.ready=true) (hg:w.resp=0) (hgot:w.got=-1) (hp:0≤b.picks∧b.picks≤4000) (hn:0≤b.now∧b.now < 4000):
  Xz x0 s b w=some (if (Zj b s).2.1=true then ({(Xd (Zj b s).1 s).2 with now:=b.now+1},{w with resp:=(Zj b s).2.2,got:=(Xd (Zj b s).1 s).1}) else ({(Zj b s).1 with now:=b.now+1},{w with ready:=false,resp:=(Zj b s).2.2})):=by
 have hf:=Zw5 s hn.1 h
 have hfn:=Ztk b s
 have hlim:=(X9 h.conf).2.1
 obtain⟨w1,w2,w3,w4,w5,w6,rdy,rsp,w9⟩:=w
 simp only at hw hg hgot
 subst hw
 subst hg
 subst hgot
 have hT:∀w2:GWave,w2.ready=true→w2.got=-1→(Zj b s).2.1=true→Y2 x0 s (Zj b s).1 w2=some ({(Xd (Zj b s).1 s).2 with now:=b.now+1},{w2 with got:=(Xd (Zj b s).1 s).1}):=by
  intro w2 h1 h2 hr
  unfold Y2
  rw[if_pos h1]
  have:=Zzg x0 w2 hf.1 hs (hf.2 hr) (by rw[hfn.2.1];exact hp) (by rw[hfn.1];omega) h2
  rw[hfn.1] at this
  exact this
 have hF:∀(c:GBus) (w2:GWave),w2.ready=false→c.now=b.now→Y2 x0 s c w2=some ({c with now:=b.now+1},w2):=by
  intro c w2 h1 h2
  unfold Y2 Qr
  rw[if_neg (by simp[h1]),h2,Zp (by omega) (by omega)]
 unfold Xz Zbr
 by_cases hd:b.data_.live=true
 ·have hdat:=h.data
  unfold Q6 at hdat
  rw[if_pos hd] at hdat
  rw[if_pos hd]
  by_cases hl:b.data_.left > 0
  ·have e:Zj b s=({b with data_:={b.data_ with left:=b.data_.left - 1}},false,0):=by
    unfold Zj;rw[if_neg (by simp[hd]),if_pos hl]
   rw[decide_eq_true hl,if_pos rfl,Y0 (by omega) (by omega),hF {b with data_:={b.data_ with left:=b.data_.left - 1}} (GWave.mk w1 w2 w3 w4 w5 w6 false 0 (-1)) rfl rfl,e,if_neg (by simp)]
  ·rw[decide_eq_false hl,if_neg (by simp),if_pos hd]
   have hdone:¬(b.data_.resp≠0∧b.data_.second=false)→Xy x0 s b (GWave.mk w1 w2 w3 w4 w5 w6 true 0 (-1)) false=some (if (Zj b s).2.1=true then ({(Xd (Zj b s).1 s).2 with now:=b.now+1},GWave.mk w1 w2 w3 w4 w5 w6 true (Zj b s).2.2 (Xd (Zj b s).1 s).1) else ({(Zj b s).1 with now:=b.now+1},GWave.mk w1 w2 w3 w4 w5 w6 false (Zj b s).2.2 (-1))):=by
    intro hns
    unfold Xy
    rw[if_neg (by simp),if_pos hd,Z2n h hs (by omega) hd hl hns,Option.bind_some]
    have hr:(Zj b s).2.1=true∧(Zj b s).2.2=b.data_.resp:=by
     unfold Zj
     rw[if_neg (by simp[hd]),if_neg hl,if_neg hns]
     split
     ·exact⟨rfl,rfl⟩
     ·split<;>exact⟨rfl,rfl⟩
    rw[if_pos hr.1,hr.2]
    exact hT _ rfl rfl hr.1
   by_cases h2:b.data_.resp≠0
   ·rw[if_pos (decide_eq_true h2)]
    by_cases h3:b.data_.second=false
    ·rw[h3]
     have e:Zj b s=(if b.addr.live then {Yx {b with data_:={b.data_ with second:=true}} b.addr with addr:=GBeat.z0} else {b with data_:={b.data_ with second:=true}},false,b.data_.resp):=by
      unfold Zj;rw[if_neg (by simp[hd]),if_neg hl,if_pos ⟨h2,h3⟩]
     have hq:∀(x y:Option (GBus×GWave)),(if (Zj b s).2.1=true then x else y)=y:=by
      intro x y
      rw[e]
      exact if_neg (by simp)
     have hq2:(some (if (Zj b s).2.1=true then ({(Xd (Zj b s).1 s).2 with now:=b.now+1},GWave.mk w1 w2 w3 w4 w5 w6 true (Zj b s).2.2 (Xd (Zj b s).1 s).1) else ({(Zj b s).1 with now:=b.now+1},GWave.mk w1 w2 w3 w4 w5 w6 false (Zj b s).2.2 (-1))))=some ({(Zj b s).1 with now:=b.now+1},GWave.mk w1 w2 w3 w4 w5 w6 false b.data_.resp (-1)):=by
      rw[show (Zj b s).2.2=b.data_.resp by rw[e]]
      exact congrArg some (if_neg (by rw[e];simp))
     refine Eq.trans ?_ hq2.symm
     unfold Xy
     rw[if_pos (by rfl),show (Zj b s).1=(if b.addr.live then {Yx {b with data_:={b.data_ with second:=true}} b.addr with addr:=GBeat.z0} else {b with data_:={b.data_ with second:=true}}) by rw[e]]
     by_cases ha:b.addr.live=true
     ·rw[if_pos ha,if_pos ha]
      have hwa:=Kn h ha
      rw[Zna (b:={b with addr:=GBeat.z0,data_:={b.data_ with second:=true}}) b.addr h.conf hwa h.ml h.bl (h.mst _ hwa).right h.arb,Option.bind_some]
      have er:Yx {b with addr:=GBeat.z0,data_:={b.data_ with second:=true}} b.addr={Yx {b with data_:={b.data_ with second:=true}} b.addr with addr:=GBeat.z0}:=by
       unfold Yx
       split
       ·rfl
       ·split<;>rfl
      rw[er]
      exact hF _ _ rfl (Zjd _ _).1
     ·rw[if_neg ha,if_neg ha]
      exact hF _ _ rfl rfl
    ·have h4:b.data_.second=true:=by simpa using h3
     rw[h4,Bool.not_true]
     exact hdone fun hx=>h3 hx.2
   ·rw[if_neg (by simpa using h2)]
    exact hdone fun hx=>h2 hx.1
 ·have hd2:b.data_.live=false:=by simpa using hd
  have e:Zj b s=(b,true,0):=by unfold Zj;rw[if_pos hd2]
  rw[if_neg hd,if_neg (by simp),if_neg hd]
  unfold Xy
  have:=hT (GWave.mk w1 w2 w3 w4 w5 w6 true 0 (-1)) rfl rfl (by rw[e])
  rw[e] at this ⊢
  rw[if_neg (by simp),if_neg hd,if_pos rfl]
  simp only at this ⊢
  rw[this]
theorem Ybz (x0:GBus) (w:GWave) (h:BusI b.now b) (hs:s.sm):Wq x0 s FU b w 0=Xz x0 s (Wu (Z7 b)) w:=by
 have hlen:=Jk h.conf
 have hml:=h.ml
 have:=Kt (σ:=GBus×GWave) (n:=b.conf.masters.length) (by omega) (fun k=>(Zev b k,w)) (B:=fun κ st i=>Zav x0 s (fun a b i=>κ (a,b) i) st.1 st.2 i) (L:=fun m st i=>Wq x0 s m st.1 st.2 i) (fun m s i=>rfl) (r:=Xz x0 s (Wu (Z7 b)) w) (fun k hk κ=>?_) fun κ=>?_
 ·simp only[Ya8] at this
  exact this
 ·have hmk:=mas (c:=b.conf) hk
  obtain⟨t1,t2,t3,t4⟩:=Z4f h hk
  have hsp:=(h.mst _ hmk).split
  have hlm:=(X9 h.conf).2.2.2
  unfold Zav
  simp only
  rw[if_pos (by show decide ((k:Int) < (b.m.length:Int))=true;rw[hml];simpa using hk),t1,Option.bind_some,X2,Option.bind_some,t3,Option.bind_some,show (Zev b k).conf=b.conf from rfl,Z47 hmk,Option.bind_some,Zub _ (Zgz h.conf hmk),Option.bind_some,X2,Option.bind_some,Y0 (by omega) (by omega),Zq8,Int.max_comm,Int.toNat_natCast,t2,t4]
  rfl
 ·have hto:=Ztm h
  have hh:=Zl8 h
  unfold Zav
  simp only[Z6p h]
  rw[if_neg (by show ¬decide ((b.conf.masters.length:Int) < (b.m.length:Int))=true;rw[hml];simp)]
  unfold Wu
  by_cases e:b.holder=-1
  ·rw[if_neg (by show ¬decide (b.holder≥0)=true;rw[e];simp),if_pos (show (Z7 b).holder=-1 from e)]
  ·have hh2:=(Zc5 hto (show (Z7 b).holder≠-1 from e)).2.2.2
   have hl:=(X9 h.conf).2.2.1
   have h3:(Z7 b).conf.lockMost=b.conf.lockMost:=rfl
   have hmb:=Z9 (Zc5 h e).1
   rw[if_pos (by show decide (b.holder≥0)=true;simpa using hmb.1),if_neg (show ¬(Z7 b).holder=-1 from e),Zp (by omega) (by omega),Zfg,Int.min_comm]
theorem Z7s (h:BusI n b):Zhy b=some (Zl4 b):=by
 unfold Zhy Jh Zl4
 by_cases ha:b.addr.live=true
 ·have hwa:=Kn h ha
  by_cases hd:b.data_.live=true
  ·have hwd:=Xq h hd
   simp only[ha,hd,if_true,Zea h.ml hwa,Zea h.ml hwd,Option.bind_some,J8 _ (h.mst _ hwa).right,J8 _ (h.mst _ hwd).right]
   by_cases hf:b.addr.first=true<;>simp[hf]
  ·have hd2:b.data_.live=false:=by simpa using hd
   simp only[ha,hd2,if_true,Bool.false_eq_true,if_false,Zea h.ml hwa,Option.bind_some,J8 _ (h.mst _ hwa).right]
   by_cases hf:b.addr.first=true<;>simp[hf]
 ·have ha2:b.addr.live=false:=by simpa using ha
  by_cases hd:b.data_.live=true
  ·have hwd:=Xq h hd
   simp only[ha2,hd,if_true,Bool.false_eq_true,if_false,Zea h.ml hwd,Option.bind_some,J8 _ (h.mst _ hwd).right]
  ·have hd2:b.data_.live=false:=by simpa using hd
   simp only[ha2,hd2,if_true,Bool.false_eq_true,if_false]
theorem Ybm (x0:GBus) (w:GWave) (h:BusI n b) (ps:List GPost) (hps:ps.length < 1048577∧∀p∈ps,p.req.sm):Jd x0 s FU b w ps 0=Wq x0 s FU (Yl b ps) w 0:=by
 have hlt:=Znu h.conf
 have:=Kt (σ:=GBus×GWave×List GPost) (n:=ps.length) (by omega) (fun k=>(Yl b (ps.take k),w,ps)) (B:=fun κ st i=>Zau x0 s (fun a b c i=>κ (a,b,c) i) st.1 st.2.1 st.2.2 i) (L:=fun m st i=>Jd x0 s m st.1 st.2.1 st.2.2 i) (fun m s i=>rfl) (r:=Wq x0 s FU (Yl b ps) w 0) (fun k hk κ=>?_) fun κ=>?_
 ·exact this
 ·have hI:=Zoh h (ps.take k)
  have hc:=(Zki b (ps.take k)).1
  rw[Zy3 b ps k hk]
  generalize Yl b (ps.take k)=c at hI hc ⊢
  unfold Zau Xm
  simp only
  rw[if_pos (by simpa using hk),Zt hk,Option.bind_some,Zxs hI.ml (by rw[hc];exact hlt),Option.bind_some]
  by_cases e:Zb c.conf ps[k].who=true
  ·obtain⟨ok,hp⟩:=Zyn (r:=ps[k].req) (hI.mst _ e).right (hps.2 _ (List.getElem_mem hk))
   rw[if_pos e,if_pos e,Zea hI.ml e,Option.bind_some,hp,Option.bind_some,X2,Option.bind_some]
  ·rw[if_neg e,if_neg e]
 ·unfold Zau
  simp only
  rw[if_neg (by simp),List.take_length]
end
theorem Z75 {b:GBus} {s:GScript} (h:BusP b) (hs:s.sm) (hn:b.now < 4000):Zhl b s=some ((Zo4 b s).1,(Zo4 b s).2):=by
 have hP:=Zoh h.i (J6 s b.now)
 have hc:=Zki b (J6 s b.now)
 have hp:=h.picks
 have hn2:=h.now
 have hO:=Z34 h s
 have eO:=Zwp b s
 unfold Zhl
 rw[Z0c b h.sm,Option.bind_some,Z7s h.i,Option.bind_some,Zzo _ _ hs,Option.bind_some,Ybm b (Zl4 b) h.i _ (Z86 hs _)]
 have hP2:BusI (Yl b (J6 s b.now)).now (Yl b (J6 s b.now)):=by rw[hc.2.1];exact hP
 rw[Ybz b (Zl4 b) hP2 hs]
 have hO2:BusI (Xt b s).now (Xt b s):=by rw[eO.1];exact hO
 show Xz b s (Xt b s) (Zl4 b)=_
 rw[Yb0 b (Zl4 b) hO2 hs rfl rfl rfl (by rw[eO.2.2.1];omega) (by rw[eO.1];omega),eO.1]
 unfold Zo4
 split<;>rfl
def newG (c:GConf):GBus:={GBus.z0 with conf:=c,m:=List.replicate c.masters.length GMst.z0,buckets:=c.masters.map Zmp,splits:=List.replicate c.masters.length 0,holder:=-1,last:=-1,model:=GModel.mk (List.replicate 192 0) (GDev.mk (List.replicate 4 0) 0 [])}
def Z5r (c:GConf):GBus×Bool:=if Yd c=true then (newG c,true) else (GBus.z0,false)
theorem Z3a:Zon=some (GDev.mk (List.replicate 4 0) 0 []):=rfl
theorem Zpe:Zdb=some (GModel.mk (List.replicate 192 0) (GDev.mk (List.replicate 4 0) 0 [])):=by
 unfold Zdb
 rw[show (192:Int)=((192:Nat):Int) from rfl,Z8a (by decide) (by decide),Option.bind_some,Z3a]
 rfl
theorem Zxc:Zfp=some (GModel.mk (List.replicate 192 0) (GDev.mk (List.replicate 4 0) 0 [])):=by
 unfold Zfp
 first
 | rfl
 | (rw[show (192:Int)=((192:Nat):Int) from rfl,Z8a (by decide) (by decide),Option.bind_some];rfl)
def newK (c:GConf) (k:Nat):GBus:={newG c with m:=List.replicate k GMst.z0,buckets:=(c.masters.take k).map Zmp,splits:=List.replicate k 0}
theorem Z73 (c:GConf) {k:Nat} (hk:k < c.masters.length):newK c (k+1)={newK c k with m:=(newK c k).m++[GMst.z0],buckets:=(newK c k).buckets++[Zmp c.masters[k]],splits:=(newK c k).splits++[0]}:=by
 unfold newK
 simp only[List.replicate_succ']
 rw[List.take_succ_eq_append_getElem hk,List.map_append]
 rfl
theorem Z9v (c:GConf):newK c c.masters.length=newG c:=by
 unfold newK
 rw[List.take_length]
 rfl
theorem Z2e (c:GConf) (hl:c.masters.length < 1048577):Zj4 c=some (Z5r c):=by
 unfold Zj4 Z5r
 rw[Zhz c hl,Option.bind_some]
 by_cases h:Yd c=true
 ·rw[h,if_neg (by simp),(Zwu c hl).2,Option.bind_some,Zpe,Option.bind_some,if_pos rfl]
  rw[←Z9v c]
  refine Kt (σ:=GBus) (n:=c.masters.length) (by omega) (newK c) (B:=Zch c) (L:=Zds c) (fun m s i=>rfl) (fun k hk κ=>?_) fun κ=>?_
  ·unfold Zch
   have e1:(newK c k).m.length=k:=by simp[newK]
   have e2:(newK c k).buckets.length=k:=by simp[newK];omega
   have e3:(newK c k).splits.length=k:=by simp[newK]
   rw[if_pos (by simpa using hk),Y7 (by simp only[List.length_cons,List.length_nil];omega) (by simp only[List.length_cons,List.length_nil];omega),Option.bind_some,Zt hk,Option.bind_some,Zwb,Option.bind_some,Y7 (by simp only[List.length_cons,List.length_nil];omega) (by simp only[List.length_cons,List.length_nil];omega),Option.bind_some,Y7 (by simp only[List.length_cons,List.length_nil];omega) (by simp only[List.length_cons,List.length_nil];omega),Option.bind_some,Z73 c hk]
  ·unfold Zch
   rw[if_neg (by simp)]
 ·simp[h]
theorem Z8n (c:GConf) (i:Int):flyG (newG c) i=0:=rfl
theorem Zyf (c:GConf) {i:Int} (h:Zb c i=true):atI (newG c).m i=GMst.z0:=by
 obtain⟨k,rfl,hk⟩:=Zrc h
 have hk2:k < (newG c).m.length:=by simpa [newG] using hk
 rw[Wp hk2]
 simp[newG]
theorem Yaa:RightP GMst.z0:=⟨by decide,by decide,fun r hr=>absurd hr (by simp[GMst.z0]),fun _=>⟨rfl,rfl,rfl,rfl,rfl⟩,fun h=>absurd rfl h⟩
theorem Zio:ModelP (GModel.mk (List.replicate 192 0) (GDev.mk (List.replicate 4 0) 0 [])):=⟨List.length_replicate,by show (List.replicate 192 (0:Int)).all Wv=true;rw[List.all_replicate];rfl,⟨rfl,by show ∀v∈List.replicate 4 (0:Int),numG v 2=true;decide,by show numG 0 2=true;decide,by show 0≤4;decide,fun v hv=>absurd hv (by show ¬v∈([]:List Int);simp)⟩⟩
theorem new_ok {c:GConf} (h:Yd c=true):BusP (newG c):=by
 have hl:=Jk h
 have hm0:Zb c 0=true:=by simp only[Zb,decide_eq_true_eq];omega
 have hsl:0 < Y3 c:=by
  have:=Zkb c
  simp only[Yd,Bool.and_eq_true,decide_eq_true_eq] at h
  omega
 have hlim:=X9 h
 have e0:(0:Int)≤0:=Int.le_refl 0
 refine⟨h,⟨e0,by show (0:Int)≤4000;omega⟩,by simp[newG],by simp[newG],by simp[newG],fun i hi=>⟨by rw[Zyf c hi];exact Yaa,?_,?_,?_⟩,?_,.inl rfl,?_,⟨e0,e0⟩,fun hx=>absurd hx (by simp[newG,GBus.z0,GBeat.z0]),fun hx=>absurd hx (by simp[newG,GBus.z0,GBeat.z0]),fun i hi=>?_,?_,?_,⟨fun i hi hb=>?_,?_⟩,fun d hd=>absurd hd (by simp[newG,GBus.z0]),?_⟩
 ·rw[Zyf c hi]
  show (0:Int)≤c.maxRetry
  exact hlim.1.1
 ·obtain⟨k,rfl,hk⟩:=Zrc hi
  have hk2:k < (newG c).buckets.length:=by simpa [newG] using hk
  have hk:k < c.masters.length:=hk
  have hm:=Zgz h hi
  show Zz (atI (newG c).buckets k) (atI c.masters k)=true
  rw[Wp hk] at hm ⊢
  rw[Wp hk2]
  have:(newG c).buckets[k]=Zmp c.masters[k]:=by simp[newG]
  rw[this]
  exact Ybx hm ⟨hsl,fun hp=>List.countP_pos_iff.2 ⟨_,List.getElem_mem hk,hp⟩⟩
 ·obtain⟨k,rfl,hk⟩:=Zrc hi
  have hk2:k < (newG c).splits.length:=by simpa [newG] using hk
  rw[Wp hk2]
  have:(newG c).splits[k]=0:=by simp[newG]
  rw[this]
  exact⟨e0,by show (0:Int)≤c.maxSplit;omega⟩
 ·show wrrG GWrr.z0 c=true
  unfold wrrG
  have:=Zor c 0
  simp[h,hm0,GWrr.z0,this.1]
 ·exact Zio
 ·rw[Zyf c hi,Z8n];rfl
 ·unfold Jv
  rw[if_neg (by simp[newG,GBus.z0,GBeat.z0])]
  rfl
 ·unfold Q6
  rw[if_neg (by simp[newG,GBus.z0,GBeat.z0])]
  rfl
 ·rw[Zyf c hi] at hb
  exact absurd hb (by decide)
 ·show if (-1:Int)=-1 then (0:Int)=0 else _
  rw[if_pos rfl]
 ·exact List.Pairwise.nil
theorem Yau {c:GConf} (h:Yd c=true):Z5r c=(newG c,true):=if_pos h
theorem Zm4 (xs:List Int) (hl:xs.length < 1048577):Zd7 xs xs=some true:=by
 unfold Zd7
 rw[if_neg (by simp)]
 refine Zzl (n:=xs.length) (by omega) (B:=Zcb xs xs) (L:=Zdi xs xs) (fun m i=>rfl) (fun k hk κ=>?_) fun κ=>?_
 ·unfold Zcb
  simp[hk,Zt hk]
 ·unfold Zcb
  simp
theorem Zv2 (m:GModel) (hs:m.sm):Ze2 m m=some true:=by
 unfold Ze2 Zm7
 simp[Zm4 _ hs.1,Zm4 _ hs.2.1,Zm4 _ hs.2.2]
theorem Zy9 (xs:List GDone) (hl:xs.length < 1048577):Zhr xs xs=some true:=by
 unfold Zhr
 rw[if_neg (by simp)]
 refine Zzl (n:=xs.length) (by omega) (B:=Zaw xs xs) (L:=Zb0 xs xs) (fun m i=>rfl) (fun k hk κ=>?_) fun κ=>?_
 ·unfold Zaw
  simp[hk,Zt hk]
 ·unfold Zaw
  simp
theorem Zy8 (xs:List GDone) (hl:xs.length < 1048577):Zhp xs xs=some true:=by
 unfold Zhp
 rw[Zy9 xs hl];rfl
def So {β:Type} (e:Option β) (R:β→Prop):Prop:=∃b,e=some b∧R b
theorem So.bind {α β:Type} {e:Option α} {Q:α→Prop} {f:α→Option β} {R:β→Prop} (h:So e Q) (k:∀a,Q a→So (f a) R):So (e.bind f) R:=by
 obtain⟨a,rfl,q⟩:=h
 exact k a q
theorem So.ret {β:Type} {b:β} {R:β→Prop} (h:R b):So (some b) R:=⟨b,rfl,h⟩
theorem So.ite {β:Type} {c:Prop} [Decidable c] {x y:Option β} {R:β→Prop} (h1:c→So x R) (h2:¬c→So y R):So (if c then x else y) R:=by
 split
 ·exact h1 ‹_›
 ·exact h2 ‹_›
def Z4 (c:GL1Cur):Prop:=0≤c.i∧c.i≤(c.b.length:Int)∧c.b.length < 4611686018427387904
theorem Z79 (a:Int):0≤andW a 255∧andW a 255≤255:=by
 have h:((BitVec.ofInt IntKind.i64.bits a &&& BitVec.ofInt IntKind.i64.bits 255).toNat)≤255:=by
  rw[BitVec.toNat_and]
  have:(BitVec.ofInt IntKind.i64.bits 255).toNat=255:=by decide
  rw[this]
  exact Nat.and_le_right
 unfold andW
 generalize (BitVec.ofInt IntKind.i64.bits a &&& BitVec.ofInt IntKind.i64.bits 255).toNat=n at*
 rw[Zip (by omega) (by omega)]
 omega
theorem Zh7 {c:GL1Cur} (h:Z4 c):∃r c',Jf c=some (r,c')∧Z4 c'∧0≤r∧r≤255:=by
 obtain⟨h1,h2,h3⟩:=h
 unfold Jf
 by_cases hc:c.i < (c.b.length:Int)
 ·obtain⟨k,hk⟩:∃k:Nat,c.i=k:=⟨c.i.toNat,by omega⟩
  have hk2:k < c.b.length:=by omega
  rw[if_pos (by simpa using hc),hk,Zt hk2,Option.bind_some]
  refine⟨_,_,rfl,⟨?_,?_,h3⟩,Z79 _⟩
  ·show 0≤addW (k:Int) 1
   rw[Z3 (by omega)];omega
  ·show addW (k:Int) 1≤_
   rw[Z3 (by omega)];show ((k+1:Nat):Int)≤(c.b.length:Int);omega
 ·rw[if_neg (by simpa using hc)]
  exact⟨_,_,rfl,⟨h1,h2,h3⟩,Z79 _⟩
theorem Z3l {a n:Int} (h0:0≤a) (hn:0 < n):0≤remW a n∧remW a n < n:=by
 unfold remW
 rw[Int.tmod_eq_emod_of_nonneg h0]
 exact⟨Int.emod_nonneg _ (by omega),Int.emod_lt_of_pos _ hn⟩
theorem Zo9 {c:GL1Cur} (n:Int) (h:Z4 c):∃r c',Zm c n=some (r,c')∧Z4 c'∧0≤r∧(0 < n→r < n)∧(n≤0→r=0):=by
 unfold Zm
 by_cases h0:n≤0
 ·rw[if_pos (by simpa using h0)]
  exact⟨_,_,rfl,h,by omega,fun _=>by omega,fun _=>rfl⟩
 ·rw[if_neg (by simpa using h0)]
  by_cases h1:n≤256
  ·rw[if_pos (by simpa using h1)]
   obtain⟨r,c',hr,hc,h2,h3⟩:=Zh7 h
   rw[hr,Option.bind_some,Zeg (by omega),Option.bind_some]
   have:=Z3l h2 (by omega:0 < n)
   exact⟨_,_,rfl,hc,this.1,fun _=>this.2,fun _=>by omega⟩
  ·rw[if_neg (by simpa using h1)]
   obtain⟨r,c',hr,hc,h2,h3⟩:=Zh7 h
   obtain⟨r2,c2,hr2,hc2,h22,h32⟩:=Zh7 hc
   obtain⟨r3,c3,hr3,hc3,h23,h33⟩:=Zh7 hc2
   obtain⟨r4,c4,hr4,hc4,h24,h34⟩:=Zh7 hc3
   rw[hr,Option.bind_some,hr2,Option.bind_some,hr3,Option.bind_some,hr4,Option.bind_some,Zeg (by omega),Option.bind_some]
   have e:addW (addW (addW (mulW r 16777216) (mulW r2 65536)) (mulW r3 256)) r4=r*16777216+r2*65536+r3*256+r4:=by
    rw[W5 (by omega) (by omega),W5 (by omega) (by omega),W5 (by omega) (by omega),Zp (a:=r*16777216) (by omega) (by omega),Zp (a:=r*16777216+r2*65536) (by omega) (by omega),Zp (by omega) (by omega)]
   have:=Z3l (by rw[e];omega:0≤addW (addW (addW (mulW r 16777216) (mulW r2 65536)) (mulW r3 256)) r4) (by omega:0 < n)
   exact⟨_,_,rfl,hc4,this.1,fun _=>this.2,fun _=>by omega⟩
theorem Z9l (x:List Int) (hl:x.length < 1048577):∃c,Zl7 x=some c∧Z4 c:=by
 unfold Zl7
 have key:∀(m k:Nat) (v:Int),k≤x.length→x.length - k < m→∃c,Ks x m v k=some c∧Z4 c:=by
  intro m
  induction m with
  | zero=>intro k _ _ h;omega
  | succ m ih=>
   intro k v hk hm
   have e:Ks x (m+1) v k=Zg7 x (Ks x m) v k:=rfl
   rw[e]
   unfold Zg7 Ze7
   by_cases hc:k < x.length
   ·rw[if_pos (by simpa using hc)]
    by_cases h4:(k:Int) < 4000
    ·rw[if_pos (by simpa using h4),Zt hc,Option.bind_some,Z3 (by omega)]
     exact ih (k+1) _ (by omega) (by omega)
    ·rw[if_neg (by simpa using h4)]
     exact⟨_,rfl,by simp[Z4];omega⟩
   ·rw[if_neg (by simpa using hc)]
    exact⟨_,rfl,by simp[Z4];omega⟩
 exact key FU 0 _ (Nat.zero_le _) (by have:=Yu;omega)
theorem Z7x {c:GL1Cur} (n:Int) (h:Z4 c):∃r c',Je c n=some (r,c')∧Z4 c':=by
 unfold Je
 obtain⟨r,c',hr,hc,_⟩:=Zo9 n h
 rw[hr]
 exact⟨_,_,rfl,hc⟩
theorem Z8c {α:Type} {xs:List α} {i:Int} (h0:0≤i) (h1:i < (xs.length:Int)):∃a,idx xs i=some a∧a∈xs:=by
 obtain⟨k,rfl⟩:∃k:Nat,i=k:=⟨i.toNat,by omega⟩
 have hk:k < xs.length:=by omega
 exact⟨_,Zt hk,List.getElem_mem hk⟩
theorem Zys {c:GL1Cur} (xs:List Int) (hx:xs≠[]) (h:Z4 c):∃r c',Xe c xs=some (r,c')∧Z4 c'∧r∈xs:=by
 unfold Xe
 obtain⟨r,c',hr,hc,h0,h1,_⟩:=Zo9 (xs.length:Int) h
 have hl:0 < xs.length:=List.length_pos_iff.2 hx
 obtain⟨a,ha,hm⟩:=Z8c h0 (h1 (by omega))
 rw[hr,Option.bind_some,ha]
 exact⟨_,_,rfl,hc,hm⟩
theorem Yc {c:GL1Cur} (n:Int) (h:Z4 c):So (Zm c n) fun r=>Z4 r.2∧0≤r.1∧(0 < n→r.1 < n)∧(n≤0→r.1=0):=by
 obtain⟨r,c',e,h1,h2,h3,h4⟩:=Zo9 n h
 exact⟨_,e,h1,h2,h3,h4⟩
theorem Zq7 {c:GL1Cur} (n:Int) (h:Z4 c):So (Je c n) fun r=>Z4 r.2:=by
 obtain⟨r,c',e,h1⟩:=Z7x n h
 exact⟨_,e,h1⟩
theorem Zka {c:GL1Cur} (xs:List Int) (hx:xs≠[]) (h:Z4 c):So (Xe c xs) fun r=>Z4 r.2∧r.1∈xs:=by
 obtain⟨r,c',e,h1,h2⟩:=Zys xs hx h
 exact⟨_,e,h1,h2⟩
theorem Ztz {α:Type} {xs:List α} {i:Int} (h0:0≤i) (h1:i < (xs.length:Int)):So (idx xs i) fun a=>a∈xs:=Z8c h0 h1
theorem Zva {α:Type} (xs:List α) (i:Int) (a:α):So (setO xs i a) fun r=>r=xs.set i.toNat a:=⟨_,rfl,rfl⟩
theorem Zt8 {α:Type} (sz:Nat) (hz:sz≤1024) (xs ys:List α) (h:xs.length+ys.length≤1048600):So (appI sz xs ys) fun r=>r=xs++ys:=by
 have hb:(xs.length+ys.length)*sz≤140737488355328:=Nat.le_trans (Nat.mul_le_mul h hz) (by decide)
 exact⟨_,Y7 hb (by omega),rfl⟩
theorem Z7u {x0:GL1Cur} (h:Z4 x0):So (Zjx x0) fun r=>Z4 r.2∧Yd r.1=true:=by
 unfold Zjx
 refine (Yc 3 h).bind fun r1 ⟨h1,a1,b1,_⟩=>?_
 refine (Yc 3 h1).bind fun r2 ⟨h2,a2,b2,_⟩=>?_
 refine (Yc 3 h2).bind fun r3 ⟨h3,a3,b3,_⟩=>?_
 refine (Yc 6 h3).bind fun r4 ⟨h4,a4,b4,_⟩=>?_
 refine (Yc 12 h4).bind fun r5 ⟨h5,a5,b5,_⟩=>?_
 refine (Yc 4 h5).bind fun r6 ⟨h6,a6,b6,_⟩=>?_
 have b1:=b1 (by omega)
 have b2:=b2 (by omega)
 have b3:=b3 (by omega)
 have b4:=b4 (by omega)
 have b5:=b5 (by omega)
 have b6:=b6 (by omega)
 rw[Zp (by omega) (by omega),Zp (by omega) (by omega),Zp (by omega) (by omega),Zp (by omega) (by omega)]
 generalize r1.1=q at*
 generalize r2.1=w at*
 generalize r3.1=e at*
 generalize r4.1=s at*
 generalize r5.1=l at*
 have hcost:∀ms,Jj (GConf.mk ms (1+q) w e (1+s) (1+l))=(e+2)*(w+6):=fun ms=>by
  unfold Jj
  rw[if_pos (by simp only;omega)]
 have hcl:12≤(e+2)*(w+6)∧(e+2)*(w+6)≤32:=by
  obtain rfl|rfl|rfl:e=0∨e=1∨e=2:=by omega
  all_goals omega
 have hslot:∀ms,Y3 (GConf.mk ms (1+q) w e (1+s) (1+l))=2*((e+2)*(w+6))+(1+l):=fun ms=>by
  unfold Y3
  rw[hcost,if_neg (by omega),if_pos (by simp only;omega)]
 generalize (e+2)*(w+6)=cost at*
 have key:∀(m k:Nat) (c:GL1Cur) (ms:List GMConf),Z4 c→k < m→1≤ms.length+k→ms.length+k≤4→(∀x∈ms,(1≤x.weight∧x.weight≤4)∧x.prio=false∧x.every=0∧x.cap=0)→So (Kc x0 m c (GConf.mk ms (1+q) w e (1+s) (1+l)) (k:Int)) fun r=>Z4 r.2∧Yd r.1=true:=by
  intro m
  induction m with
  | zero=>intro k _ _ _ h;omega
  | succ m ih=>
   intro k c ms hc hm hl1 hl2 hms
   have eL:Kc x0 (m+1) c (GConf.mk ms (1+q) w e (1+s) (1+l)) (k:Int)=Zfm x0 (Kc x0 m) c (GConf.mk ms (1+q) w e (1+s) (1+l)) (k:Int):=rfl
   rw[eL]
   unfold Zfm
   cases k with
   | succ k=>
    rw[if_pos (by simp)]
    refine (Yc 3 hc).bind fun r1 ⟨h1,a1,b1,_⟩=>?_
    have b1:=b1 (by omega)
    refine (Zt8 32 (by decide) _ _ (by simp only[List.length_cons,List.length_nil];omega)).bind fun z hz=>?_
    rw[Y0 (by omega) (by omega),show ((k+1:Nat):Int) - 1=(k:Int) by omega]
    subst hz
    refine ih k r1.2 _ h1 (by omega) (by simp;omega) (by simp;omega) fun x hx=>?_
    rw[List.mem_append,List.mem_singleton] at hx
    rcases hx with hx|rfl
    ·exact hms x hx
    ·refine⟨?_,rfl,rfl,rfl⟩
     show 1≤addW 1 r1.1∧addW 1 r1.1≤4
     rw[Zp (by omega) (by omega)]
     omega
   | zero=>
    have hgood:∀ys:List GMConf,ys.length=ms.length→(∀x∈ys,Yv (GConf.mk ys (1+q) w e (1+s) (1+l)) x=true)→Yd (GConf.mk ys (1+q) w e (1+s) (1+l))=true:=by
     intro ys hy h
     unfold Yd
     rw[hslot]
     simp only[Bool.and_eq_true,decide_eq_true_eq,List.all_eq_true]
     refine⟨⟨⟨⟨?_,?_⟩,?_⟩,?_⟩,h⟩<;>omega
    rw[if_neg (by simp)]
    refine (Zq7 2 hc).bind fun r1 h1=>?_
    refine So.ite (fun _=>?_) fun _=>So.ret ⟨h1,hgood ms rfl fun x hx=>?_⟩
    ·refine (Yc (ms.length:Int) h1).bind fun r2 ⟨h2,a2,b2,_⟩=>?_
     have b2:=b2 (by omega)
     obtain⟨k,hk⟩:∃k:Nat,r2.1=(k:Int):=⟨r2.1.toNat,by omega⟩
     simp only[hk] at a2 b2 ⊢
     have hk2:k < ms.length:=by omega
     rw[Zt hk2,Option.bind_some,X2,Option.bind_some,Zmw,Option.bind_some,hslot]
     refine (Yc 30 h2).bind fun r3 ⟨h3,a3,b3,_⟩=>?_
     have b3:=b3 (by omega)
     rw[Int.toNat_natCast,Zt (by simpa using hk2),Option.bind_some,X2,Option.bind_some]
     refine (Yc 4 h3).bind fun r4 ⟨h4,a4,b4,_⟩=>?_
     have b4:=b4 (by omega)
     rw[Int.toNat_natCast,Zt (by simpa using hk2),Option.bind_some,X2,Option.bind_some,Int.toNat_natCast]
     refine So.ret ⟨h4,?_⟩
     simp only[List.getElem_set_self,List.set_set]
     rw[W5 (by omega) (by omega),Zp (by omega) (by omega),Zp (by omega) (by omega)]
     have hx:=hms _ (List.getElem_mem hk2)
     have hp:List.countP (fun x:GMConf=>x.prio) (ms.set k (GMConf.mk ms[k].weight true (2*(2*cost+(1+l))+r3.1) (1+r4.1)))=1:=by
      have h0:List.countP (fun x:GMConf=>x.prio) ms=0:=List.countP_eq_zero.2 fun x hx=>by simp[(hms x hx).2.1]
      rw[List.countP_set hk2,h0]
      simp[hx.2.1]
     refine hgood _ (by simp) fun x hx2=>?_
     rcases List.mem_or_eq_of_mem_set hx2 with hx2|rfl
     ·have:=hms x hx2
      unfold Yv
      rw[this.2.1]
      simp[this.1,this.2.2]
     ·unfold Yv
      simp only[hslot]
      unfold Yo
      rw[hp]
      simp only[if_true,Bool.and_eq_true,decide_eq_true_eq]
      refine⟨hx.1,⟨?_,?_⟩,?_⟩<;>omega
    ·have:=hms x hx
     unfold Yv
     rw[this.2.1]
     simp[this.1,this.2.2]
 rw[show (1:Int)+r6.1=((r6.1.toNat+1:Nat):Int) by omega]
 exact key FU (r6.1.toNat+1) r6.2 [] h6 (by have:=Yu;omega) (by simp) (by simp;omega) (by simp)
theorem Z9r {x0:GL1Cur} (h:Z4 x0):So (Zia x0) fun r=>Z4 r.2∧r.1.data_.length≤8:=by
 unfold Zia
 refine (Zq7 2 h).bind fun r1 h1=>?_
 refine (Zka _ (by simp) h1).bind fun r2 ⟨h2,m2⟩=>?_
 refine (Zka _ (by simp) h2).bind fun r3 ⟨h3,m3⟩=>?_
 refine (Zq7 6 h3).bind fun r4 h4=>?_
 rw[X4,Option.bind_some]
 refine (Yc 128 h4).bind fun r5 ⟨h5,_⟩=>?_
 refine (Yc 128 h5).bind fun r6 ⟨h6,_⟩=>?_
 refine (Yc 64 h6).bind fun r7 ⟨h7,_⟩=>?_
 refine (Yc 40 h7).bind fun r8 ⟨h8,_⟩=>?_
 refine (Yc 512 h8).bind fun r9 ⟨h9,_⟩=>?_
 refine (Zka _ (by simp) h9).bind fun r10 ⟨h10,_⟩=>?_
 have hb:0 < Zo r2.1:=by
  rw[Zdf]
  simp only[List.mem_cons,List.not_mem_nil,or_false] at m2
  omega
 rw[Zeg (by omega),Option.bind_some,Zp4,Option.bind_some]
 have key:∀(g:GReq) (c:GL1Cur),Z4 c→g.data_=[]→So (Za7 x0 c g) fun r=>Z4 r.2∧r.1.data_.length≤8:=by
  intro g c hc hg
  unfold Za7
  have key2:∀(m k:Nat) (c:GL1Cur) (g:GReq),Z4 c→k≤8→8 - k < m→g.data_.length=k→So (Ku x0 m c g (k:Int)) fun r=>Z4 r.2∧r.1.data_.length≤8:=by
   intro m
   induction m with
   | zero=>intro k _ _ _ _ h;omega
   | succ m ih=>
    intro k c g hc hk hm hg
    have eL:Ku x0 (m+1) c g (k:Int)=Zg1 x0 (Ku x0 m) c g (k:Int):=rfl
    rw[eL]
    unfold Zg1 Ze3
    rw[J9,Option.bind_some]
    have hbl:=Zcr g.burst
    by_cases hlt:(k:Int) < Ys g.burst
    ·rw[if_pos (by simpa using hlt)]
     refine So.ite (fun _=>?_) fun _=>So.ret ⟨hc,by dsimp only;omega⟩
     rw[Wn,Option.bind_some,Option.bind_some]
     refine (Zka _ (by simp) hc).bind fun r1 ⟨h1,_⟩=>?_
     refine (Yc _ h1).bind fun r2 ⟨h2,_⟩=>?_
     refine (Zt8 8 (by decide) _ _ (by simp only[List.length_cons,List.length_nil];omega)).bind fun z hz=>?_
     rw[Z3 (by omega)]
     exact ih (k+1) _ _ h2 (by omega) (by omega) (by subst hz;simp[hg])
    ·rw[if_neg (by simpa using hlt),if_neg (by simp)]
     exact So.ret ⟨hc,by dsimp only;omega⟩
  have:=key2 FU 0 c g hc (by omega) (by have:=Yu;omega) (by simp[hg])
  simpa using this
 exact So.ite (fun _=>key _ _ h10 rfl) fun _=>key _ _ h10 rfl
theorem Zwg {c:GL1Cur} (n:Int) (hn:0 < n∧n≤1000) (h:Z4 c):So (Zah c n) fun r=>Z4 r.2∧r.1.length≤6∧∀x∈r.1,0≤x∧x < n:=by
 unfold Zah
 refine (Yc 6 h).bind fun r1 ⟨h1,a1,b1,_⟩=>?_
 have b1:=b1 (by omega)
 have key:∀(m k:Nat) (c1:GL1Cur) (l:List Int),Z4 c1→k < m→l.length+k≤6→(∀x∈l,0≤x∧x < n)→So (Ke c n m c1 l (k:Int)) fun r=>Z4 r.2∧r.1.length≤6∧∀x∈r.1,0≤x∧x < n:=by
  intro m
  induction m with
  | zero=>intro k _ _ _ h;omega
  | succ m ih=>
   intro k c1 l hc hm hl hx
   have eL:Ke c n (m+1) c1 l (k:Int)=Zfv c n (Ke c n m) c1 l (k:Int):=rfl
   rw[eL]
   unfold Zfv
   cases k with
   | zero=>rw[if_neg (by simp)];exact So.ret ⟨hc,by omega,hx⟩
   | succ k=>
    rw[if_pos (by simp)]
    refine (Yc n hc).bind fun r2 ⟨h2,a2,b2,_⟩=>?_
    refine (Zt8 8 (by decide) _ _ (by simp only[List.length_cons,List.length_nil];omega)).bind fun z hz=>?_
    rw[Y0 (by omega) (by omega),show ((k+1:Nat):Int) - 1=(k:Int) by omega]
    subst hz
    refine ih k _ _ h2 (by omega) (by simp;omega) fun x hx2=>?_
    rw[List.mem_append,List.mem_singleton] at hx2
    rcases hx2 with hx2|rfl
    ·exact hx x hx2
    ·exact⟨a2,b2 (by omega)⟩
 have:=key FU r1.1.toNat r1.2 [] h1 (by have:=Yu;omega) (by simp;omega) (by simp)
 rwa [show ((r1.1.toNat:Nat):Int)=r1.1 by omega] at this
structure ScrP (s:GScript):Prop where
 posts:s.posts.length≤6
 reqs:∀p∈s.posts,p.req.data_.length≤9
 waits:s.waits.length≤6
 says:s.says.length≤6
 wmin:∀w∈s.waits,0≤w∧w < 5
theorem ScrP.sm {s:GScript} (h:ScrP s):s.sm:=⟨by have:=h.posts;omega,fun p hp=>by have:=h.reqs p hp;unfold GReq.sm;omega,by have:=h.waits;omega,by have:=h.says;omega,fun w hw=>by have:=h.wmin w hw;omega⟩
theorem Z3i {s:GScript} (hs:ScrP s) {x0:GL1Cur} {c:GConf} (k:GL1Cur→GScript→Int→Int→Option (GScript×GL1Cur×GConf)) {R:GScript×GL1Cur×GConf→Prop} {c1:GL1Cur} (v6 v7:Int) (b:Bool) (h1:Z4 c1)
  (hk:b=true→∀c2 p v,Z4 c2→p.req.data_.length≤9→So (k c2 {s with posts:=s.posts++[p]} v (subW v7 1)) R) (hb:b=false→R (s,c1,c)):So (Kk x0 c k c1 s v6 v7 b) R:=by
 unfold Kk
 refine So.ite (fun e=>?_) fun e=>So.ret (hb (by simpa using e))
 refine (Zka _ (by simp) h1).bind fun r2 ⟨h2,_⟩=>?_
 refine (Yc _ h2).bind fun r3 ⟨h3,_⟩=>?_
 refine (Z9r h3).bind fun r4 ⟨h4,g4⟩=>?_
 have:=hs.posts
 refine (Zt8 80 (by decide) _ _ (by simp only[List.length_cons,List.length_nil];omega)).bind fun z hz=>?_
 subst hz
 exact hk e _ _ _ h4 (by show r4.1.data_.length≤9;omega)
theorem Z2s {x0:GL1Cur} (c:GConf) (h:Z4 x0):So (J4 x0 c) fun r=>ScrP r.1∧Z4 r.2.1∧r.2.2=c:=by
 unfold J4
 refine (Zwg 5 (by omega) h).bind fun r1 ⟨h1,l1,m1⟩=>?_
 refine (Zwg 5 (by omega) h1).bind fun r2 ⟨h2,l2,m2⟩=>?_
 refine (Yc 6 h2).bind fun r3 ⟨h3,a3,b3,_⟩=>?_
 have b3:=b3 (by omega)
 have key:∀(m k:Nat) (c1:GL1Cur) (s:GScript) (v:Int),Z4 c1→k < m→s.posts.length+k≤6→ScrP s→So (Xb x0 c m c1 s v (k:Int)) fun r=>ScrP r.1∧Z4 r.2.1∧r.2.2=c:=by
  intro m
  induction m with
  | zero=>intro k _ _ _ _ h;omega
  | succ m ih=>
   intro k c1 s v hc hm hl hs
   have eL:Xb x0 c (m+1) c1 s v (k:Int)=Jq x0 c (Xb x0 c m) c1 s v (k:Int):=rfl
   rw[eL]
   unfold Jq
   cases k with
   | zero=>rw[if_neg (by simp)];exact Z3i hs _ _ _ _ hc (fun e=>absurd e (by simp)) fun _=>⟨hs,hc,rfl⟩
   | succ k=>
    rw[if_pos (by simp)]
    refine Z3i hs _ _ _ _ hc (fun e c2 p v h2 hp=>?_) fun _=>⟨hs,hc,rfl⟩
    rw[Y0 (by omega) (by omega),show ((k+1:Nat):Int) - 1=(k:Int) by omega]
    refine ih k c2 _ v h2 (by omega) (by simp;omega) ⟨by simp;omega,fun q hq=>?_,hs.waits,hs.says,hs.wmin⟩
    rw[List.mem_append,List.mem_singleton] at hq
    rcases hq with hq|rfl
    ·exact hs.reqs q hq
    ·exact hp
 have:=key FU r3.1.toNat r3.2 (GScript.mk [] r1.1 r2.1) 0 h3 (by have:=Yu;omega) (by simp;omega) ⟨by simp,fun p hp=>absurd hp (by simp),l1,l2,m1⟩
 rwa [show ((r3.1.toNat:Nat):Int)=r3.1 by omega] at this
theorem Z7n (x0:GL1Cur) (c:GConf):∀(m:Nat) (c1:GL1Cur) (s:GScript) (v w:Int),Wt x0 c m c1 s v w=Xb x0 c m c1 s v w:=by
 intro m
 induction m with
 | zero=>intros;rfl
 | succ m ih=>
  intro c1 s v w
  have e:Wt x0 c m=Xb x0 c m:=by funext a b d e;exact ih a b d e
  show Zin x0 c (Wt x0 c m) c1 s v w=Jq x0 c (Xb x0 c m) c1 s v w
  rw[e]
  rfl
theorem Z5f (x0:GL1Cur) (c:GConf):Zet x0 c=J4 x0 c:=by
 unfold Zet J4
 simp only[Z7n]
theorem Z8d {α:Type} (xs:List α):lenE xs xs=some ():=by
 unfold lenE
 simp
theorem Z7a {x0:GL1Cur} (h:Z4 x0):So (Zjc x0) fun r=>BusP r.1∧ScrP r.2.1∧Z4 r.2.2∧r.1.now≤40:=by
 unfold Zjc
 refine (Z7u h).bind fun r1 ⟨h1,g1⟩=>?_
 have hl:=Jk g1
 rw[if_neg (by simp;intro hx;rw[hx] at hl;simp at hl),Z5f]
 refine (Z2s _ h1).bind fun r2 ⟨g2,h2,e2⟩=>?_
 rw[e2,Z8d,Option.bind_some]
 unfold Zeb
 rw[Z2e _ (by show r1.1.masters.length < _;omega),Option.bind_some,Yau g1]
 refine (Yc 40 h2).bind fun r3 ⟨h3,a3,b3,_⟩=>?_
 have b3:=b3 (by omega)
 have key:∀(m k:Nat) (c1:GL1Cur) (b:GBus),Z4 c1→k < m→b.now+k≤40→BusP b→So (Kd x0 m c1 r2.1 b (k:Int)) fun r=>BusP r.1∧ScrP r.2.1∧Z4 r.2.2∧r.1.now≤40:=by
  intro m
  induction m with
  | zero=>intro k _ _ _ h;omega
  | succ m ih=>
   intro k c1 b hc hm hk hb
   have eL:Kd x0 (m+1) c1 r2.1 b (k:Int)=Zgp x0 (Kd x0 m) c1 r2.1 b (k:Int):=rfl
   rw[eL]
   unfold Zgp
   cases k with
   | zero=>rw[if_neg (by simp)];exact So.ret ⟨hb,g2,hc,by dsimp only;omega⟩
   | succ k=>
    have hbn:=hb.now
    have:=Ybn hb r2.1 (by omega)
    rw[if_pos (by simp),Z75 hb g2.sm (by omega),Option.bind_some,Y0 (by omega) (by omega),show ((k+1:Nat):Int) - 1=(k:Int) by omega]
    exact ih k _ _ hc (by omega) (by rw[this.2.1];omega) this.1
 have:=key FU r3.1.toNat r3.2 (newG r1.1) h3 (by have:=Yu;omega) (by show (0:Int)+_≤40;omega) (new_ok g1)
 rwa [show ((r3.1.toNat:Nat):Int)=r3.1 by omega] at this
def ofL (l:List GDone) (i:Int):List GDone:=l.filter fun d=>decide (d.who=i)
theorem Z27 (l:List GDone) (i:Int) (hl:l.length < 1048577):Zjt l i=some (ofL l i):=by
 unfold Zjt Wm
 rw[Zy4 l hl,Option.bind_some]
 have:=Z1c l GDone.z0 (by omega) (fun d=>Zc2 d i) (fun d=>decide (d.who=i)) (fun d _=>by unfold Zc2;by_cases h:d.who=i<;>simp[h]) (Z5 l i) (fun m j=>rfl) (Z2 l i) (fun m v j k=>rfl)
 unfold Y4 Y9
 rw[this]
 rfl
theorem Yaf (l:List GDone) (d:GDone) (i:Int):ofL (l++[d]) i=if d.who=i then ofL l i++[d] else ofL l i:=by
 unfold ofL
 rw[List.filter_append]
 by_cases h:d.who=i<;>simp[h]
theorem Z06 (l:List GDone) (i:Int) (hl:l.length < 1048577):Zjl l i=some (ofL l i):=by
 unfold Zjl
 refine Kt (σ:=List GDone) (n:=l.length) (by omega) (fun k=>ofL (l.take k) i) (B:=fun κ st j=>Zb8 l i κ st j) (L:=fun m st j=>Zdg l i m st j) (fun m s i=>rfl) (fun k hk κ=>?_) fun κ=>?_
 ·have h1:(ofL (l.take k) i).length≤k:=Nat.le_trans (List.length_filter_le ..) (by rw[List.length_take];omega)
  unfold Zb8
  rw[if_pos (by simpa using hk),Zt hk,Option.bind_some,List.take_succ_eq_append_getElem hk,Yaf]
  by_cases hw:l[k].who=i
  ·rw[if_pos (by simpa using hw),if_pos hw,Y7 (by simp;omega) (by simp;omega),Option.bind_some]
  ·rw[if_neg (by simpa using hw),if_neg hw]
 ·unfold Zb8
  rw[if_neg (by simp),List.take_length]
def Zj8 (l:List GDone) (i a b:Int):Nat:=l.countP fun d=>decide (d.who=i)&&(decide (a≤d.cycle)&&decide (d.cycle < b))
theorem Z1z (l:List GDone) (i a b:Int) (hl:l.length < 4611686018427387904):Zf7 l i a b=some (Zj8 l i a b:Int):=by
 unfold Zf7 Zj8
 refine Zu7 l hl _ (Zd0 l i a b) fun m n k=>?_
 show Zft l i a b _ n k=_
 unfold Zft
 congr 1;congr 1;funext d
 by_cases h1:d.who=i<;>by_cases h2:a≤d.cycle<;>by_cases h3:d.cycle < b<;>simp[h1,h2,h3]
theorem Z05 (l:List GDone) (i a b:Int) (hl:l.length < 4611686018427387904):Zju l i a b=some (Zj8 l i a b:Int):=by
 unfold Zju Zj8
 refine Zu7 l hl _ (Zd3 l i a b) fun m n k=>?_
 show Zfx l i a b _ n k=_
 unfold Zfx
 congr 1;congr 1;funext d
 by_cases h1:d.who=i<;>by_cases h2:a≤d.cycle<;>by_cases h3:d.cycle < b<;>simp[h1,h2,h3]
theorem Zxp (l:List GDone) (hl:l.length < 1048577):Zf6 l=some (l.map (·.value)):=by
 unfold Zf6
 refine Kt (σ:=List Int) (n:=l.length) (by omega) (fun k=>(l.take k).map (·.value)) (B:=fun κ st j=>Jr l κ st j) (L:=fun m st j=>Zak l m st j) (fun m s i=>rfl) (fun k hk κ=>?_) fun κ=>?_
 ·unfold Jr
  rw[if_pos (by simpa using hk),Zt hk,Option.bind_some,Y7 (by simp;omega) (by simp;omega),Option.bind_some,List.take_succ_eq_append_getElem hk,List.map_append]
  rfl
 ·unfold Jr
  rw[if_neg (by simp),List.take_length]
def Zf2 (x:Int):ByteArray:=if x=0 then strL [111,107,97,121] else if x=1 then strL [101,114,114,111,114] else if x=2 then strL [114,101,116,114,121] else if x=3 then strL [115,112,108,105,116] else ByteArray.empty
theorem Zu6 (x:Int):(Zf2 x).size≤5:=by
 unfold Zf2
 repeat' split
 all_goals first|decide|(rw[Q9];simp)
theorem Zx2 (x:Int):Zcq x=some (Zf2 x):=by
 by_cases h0:x < 0
 ·unfold Zcq Zk Zf2
  rw[if_neg (by simp;omega),if_neg (by omega),if_neg (by omega),if_neg (by omega),if_neg (by omega)];rfl
 ·by_cases h3:3 < x
  ·unfold Zcq Zk Zf2
   rw[if_pos (by simp;omega),Option.bind_some,if_pos (by simp;omega),if_neg (by omega),if_neg (by omega),if_neg (by omega),if_neg (by omega)]
  ·have:x=0∨x=1∨x=2∨x=3:=by omega
   rcases this with rfl|rfl|rfl|rfl<;>rfl
theorem Zx3 (x:Int):Zda x=some (Zf2 x):=by
 have hl:subW (([strL [111,107,97,121],strL [101,114,114,111,114],strL [114,101,116,114,121],strL [115,112,108,105,116]]:List ByteArray).length:Int) 1=3:=by rfl
 by_cases h0:x < 0
 ·unfold Zda Zjv Yb Zf2
  rw[if_neg (by simp;omega),if_neg (by omega),if_neg (by omega),if_neg (by omega),if_neg (by omega)];rfl
 ·by_cases h3:3 < x
  ·unfold Zda Zjv Yb Zf2
   rw[hl,if_pos (by simp;omega),Option.bind_some,if_pos (by simp;omega),if_neg (by omega),if_neg (by omega),if_neg (by omega),if_neg (by omega)];rfl
  ·have:x=0∨x=1∨x=2∨x=3:=by omega
   rcases this with rfl|rfl|rfl|rfl<;>rfl
def GDone.nums (d:GDone):Prop:=InR d.cycle∧InR d.who∧InR d.addr∧InR d.value
def K3 (d:GDone):List UInt8:=Lib.itoa d.cycle++[32]++Lib.itoa d.who++[32]++(if d.write=true then [119,114,105,116,101] else [114,101,97,100])++[32]++Lib.itoa d.addr++[32]++Lib.itoa d.value++[32]++L8 (Zf2 d.resp)
theorem Zoa {d:GDone} (h:d.nums):(K3 d).length≤100:=by
 have h1:=Zne h.1
 have h2:=Zne h.2.1
 have h3:=Zne h.2.2.1
 have h4:=Zne h.2.2.2
 have h5:=Zu6 d.resp
 rw[Zbo] at h5
 unfold K3
 simp only[List.length_append,List.length_cons,List.length_nil]
 split<;>simp<;>omega
theorem Zxt {d:GDone} (h:d.nums):Zgs d=some ⟨(K3 d).toArray⟩:=by
 have h1:=Zlw h.1
 have h2:=Zlw h.2.1
 have h3:=Zlw h.2.2.1
 have h4:=Zlw h.2.2.2
 have h5:=Zu6 d.resp
 have key:∀v0:ByteArray,v0.size≤6→∃r,Km d v0=some r∧L8 r=Lib.itoa d.cycle++[32]++Lib.itoa d.who++[32]++L8 v0++Lib.itoa d.addr++[32]++Lib.itoa d.value++[32]++L8 (Zf2 d.resp):=fun v0 hv=>by
  unfold Km
  rw[Zn5 h.1,Zn5 h.2.1,Zn5 h.2.2.1,Zn5 h.2.2.2,Zx2]
  simp (disch:=(simp only[Zpa,Q9,List.length_cons,List.length_nil];omega)) only[Zg5,Option.bind_some]
  refine⟨_,rfl,?_⟩
  simp only[Zie,Zbl,Znx]
 unfold Zgs
 cases hw:d.write with
 | true=>
  rw[if_pos rfl]
  obtain⟨r,e,hr⟩:=key (strL [119,114,105,116,101,32]) (by rw[Q9];simp)
  rw[e]
  refine congrArg some (Znt ?_)
  rw[hr,Zbl]
  refine Eq.trans ?_ (Zeu (K3 d)).symm
  unfold K3
  rw[if_pos hw]
  simp
 | false=>
  rw[if_neg (by simp)]
  obtain⟨r,e,hr⟩:=key (strL [114,101,97,100,32]) (by rw[Q9];simp)
  rw[e]
  refine congrArg some (Znt ?_)
  rw[hr,Zbl]
  refine Eq.trans ?_ (Zeu (K3 d)).symm
  unfold K3
  rw[if_neg (by rw[hw];simp)]
  simp
theorem Zxq {d:GDone} (h:d.nums):Zf5 d=some ⟨(K3 d).toArray⟩:=by
 have hl:=Zoa h
 have ej:Lib.join ([decB d.cycle,decB d.who,(if d.write=true then strL [119,114,105,116,101] else strL [114,101,97,100]),decB d.addr,decB d.value,Zf2 d.resp].map L8) (L8 (strL [32]))=K3 d:=by
  unfold K3
  simp only[List.map_cons,List.map_nil,Lib.join,List.intercalate,List.intersperse,List.flatten_cons,List.flatten_nil,Zbl,Znx]
  cases d.write<;>simp[Zbl]
 have hw:Ze5 d.write=some (if d.write=true then strL [119,114,105,116,101] else strL [114,101,97,100]):=by
  unfold Ze5
  cases d.write<;>rfl
 unfold Zf5
 rw[Zo6 h.1,Zo6 h.2.1,Zo6 h.2.2.1,Zo6 h.2.2.2,Zx3,hw]
 simp only[Option.bind_some]
 rw[Yb1 (by simp) (by rw[ej];omega),Option.bind_some,ej]
def logL (l:List GDone):List UInt8:=l.flatMap fun d=>K3 d++[10]
theorem Zwf (l:List GDone) (d:GDone):logL (l++[d])=logL l++(K3 d++[10]):=by
 unfold logL
 rw[List.flatMap_append];simp
theorem Z3x:∀{l:List GDone},(∀d∈l,d.nums)→(logL l).length≤101*l.length:=by
 intro l
 induction l with
 | nil=>intro _;simp[logL]
 | cons d l ih=>
  intro h
  have h1:=Zoa (h d List.mem_cons_self)
  have h2:=ih fun x hx=>h x (List.mem_cons_of_mem _ hx)
  have e:logL (d::l)=(K3 d++[10])++logL l:=rfl
  rw[e,List.length_append,List.length_append,List.length_cons]
  simp only[List.length_cons,List.length_nil]
  omega
theorem Zzk {l:List GDone} (hl:l.length < 1048577) (hn:∀d∈l,d.nums):Zhn l=some ⟨(logL l).toArray⟩:=by
 unfold Zhn
 refine Kt (σ:=ByteArray) (n:=l.length) (by omega) (fun k=>⟨(logL (l.take k)).toArray⟩) (B:=fun κ st j=>Za2 l κ st j) (L:=fun m st j=>Zb2 l m st j) (fun m s i=>rfl) (fun k hk κ=>?_) fun κ=>?_
 ·have h1:=Z3x (l:=l.take k) fun d hd=>hn d (List.mem_of_mem_take hd)
  have h2:(l.take k).length≤k:=by rw[List.length_take];omega
  have hd:=hn _ (List.getElem_mem hk)
  have h3:=Zoa hd
  have z1:(⟨(logL (l.take k)).toArray⟩:ByteArray).size=(logL (l.take k)).length:=by rw[Zbo,Zeu]
  have z2:(⟨(K3 l[k]).toArray⟩:ByteArray).size=(K3 l[k]).length:=by rw[Zbo,Zeu]
  unfold Za2
  rw[if_pos (by simpa using hk),Zt hk,Option.bind_some,Zxt hd,Option.bind_some,Zg5 (by rw[z1,z2];omega),Option.bind_some,Zg5 (by rw[Zpa,z1,z2,Q9];simp;omega),Option.bind_some]
  congr 1
  refine Znt ?_
  rw[Zie,Zie,Zbl,Zeu,Zeu,Zeu,List.take_succ_eq_append_getElem hk,Zwf,List.append_assoc]
 ·unfold Za2
  rw[if_neg (by simp),List.take_length]
theorem Zzt {l:List GDone} (hl:l.length < 1048577) (hn:∀d∈l,d.nums):Zh4 l=some ⟨(logL l).toArray⟩:=by
 unfold Zh4
 refine Kt (σ:=ByteArray) (n:=l.length) (by omega) (fun k=>⟨(logL (l.take k)).toArray⟩) (B:=fun κ st j=>Zaj l κ st j) (L:=fun m st j=>Zb3 l m st j) (fun m s i=>rfl) (fun k hk κ=>?_) fun κ=>?_
 ·have h1:=Z3x (l:=l.take k) fun d hd=>hn d (List.mem_of_mem_take hd)
  have h2:(l.take k).length≤k:=by rw[List.length_take];omega
  have hd:=hn _ (List.getElem_mem hk)
  have h3:=Zoa hd
  have z1:(⟨(logL (l.take k)).toArray⟩:ByteArray).size=(logL (l.take k)).length:=by rw[Zbo,Zeu]
  have z2:(⟨(K3 l[k]).toArray⟩:ByteArray).size=(K3 l[k]).length:=by rw[Zbo,Zeu]
  unfold Zaj
  rw[if_pos (by simpa using hk),Zt hk,Option.bind_some,Zxq hd,Option.bind_some,Zg5 (by rw[z2,Q9];simp;omega),Option.bind_some,Zg5 (by rw[Zpa,z1,z2,Q9];simp;omega),Option.bind_some]
  congr 1
  refine Znt ?_
  rw[Zie,Zie,Zbl,Zeu,Zeu,Zeu,List.take_succ_eq_append_getElem hk,Zwf]
 ·unfold Zaj
  rw[if_neg (by simp),List.take_length]
theorem Yab (a:Int):InR (IntKind.i64.wrap a):=by
 unfold InR
 simp[IntKind.wrap,IntKind.bits,IntKind.signed]
 constructor<;>omega
structure LogQ (l:List GDone):Prop where
 few:l.length < 1048577
 who:∀d∈l,0≤d.who∧d.who < 4
 nums:∀d∈l,d.nums
theorem LogQ.set {l:List GDone} (h:LogQ l) (i:Nat) (d:GDone) (hw:0≤d.who∧d.who < 4) (hn:d.nums):LogQ (l.set i d):=
 ⟨by simpa using h.few,fun q hq=>by
  rcases List.mem_or_eq_of_mem_set hq with hq|rfl
  ·exact h.who q hq
  ·exact hw,fun q hq=>by
  rcases List.mem_or_eq_of_mem_set hq with hq|rfl
  ·exact h.nums q hq
  ·exact hn⟩
theorem num_le {v s:Int} (h:numG v s=true):0≤v∧v < 4294967296:=by
 simp only[numG,decide_eq_true_eq] at h
 have:=Zil s
 omega
theorem Ybb {b:GBus} (h:BusP b):LogQ b.log:=by
 obtain⟨h1,_⟩:=h.log
 refine⟨h.sm.log,fun d hd=>?_,fun d hd=>?_⟩
 ·obtain⟨_,hw,_⟩:=h1 d hd
  simp only[Zb,decide_eq_true_eq] at hw
  have:=Jk h.conf
  omega
 ·obtain⟨hc,hw,ha,hb,hv,_⟩:=h1 d hd
  have:=Qx ha
  have:=num_le hv
  have:=h.now
  have:=Jk h.conf
  simp only[Zb,decide_eq_true_eq] at hw
  exact⟨⟨by omega,by omega⟩,⟨by omega,by omega⟩,⟨by omega,by omega⟩,⟨by omega,by omega⟩⟩
theorem Zxh (x:List Int) (hl:x.length < 1048577):So (Zdz x) LogQ:=by
 unfold Zdz
 refine So.bind (Z9l x hl) fun r0 h0=>?_
 have key:So (Zji r0) fun r=>LogQ r.1:=by
  unfold Zji
  refine (Z7a h0).bind fun r5 ⟨g5,_,h5,_⟩=>?_
  have hlog:=Ybb g5
  have hf:=hlog.few
  rw[Y7 (by simp;omega) (by simp;omega),Option.bind_some,List.nil_append]
  generalize r5.1.log=l at*
  have j1:∀(c:GL1Cur) (b:Bool),Z4 c→(b=true→0 < l.length)→So (J2 r0 c l b) fun r=>LogQ r.1:=fun c b hc hb=>by
   unfold J2
   refine So.ite (fun e=>?_) fun e=>So.ret hlog
   have hpos:=hb e
   refine (Yc _ hc).bind fun r1 ⟨h1,a1,b1,_⟩=>?_
   have b1:=b1 (by omega)
   refine (Yc 4 h1).bind fun r2 ⟨h2,_⟩=>?_
   refine So.ite (fun _=>?_) fun _=>So.ite (fun _=>?_) fun _=>So.ite (fun _=>?_) fun _=>?_
   ·refine (Ztz a1 b1).bind fun a ha=>?_
    refine (Zva _ _ _).bind fun y hy=>So.ret ?_
    subst hy
    have hn:=hlog.nums a ha
    exact hlog.set _ _ (hlog.who a ha) ⟨hn.1,hn.2.1,hn.2.2.1,Yab _⟩
   ·refine (Yc 3 h2).bind fun r3 ⟨h3,_⟩=>?_
    refine (Ztz a1 b1).bind fun a ha=>?_
    refine (Zva _ _ _).bind fun y hy=>So.ret ?_
    subst hy
    exact hlog.set _ _ (hlog.who a ha) (hlog.nums a ha)
   ·refine (Zka _ (by simp) h2).bind fun r3 ⟨h3,m3⟩=>?_
    refine (Ztz a1 b1).bind fun a ha=>?_
    refine (Zva _ _ _).bind fun y hy=>So.ret ?_
    subst hy
    have hn:=hlog.nums a ha
    refine hlog.set _ _ (hlog.who a ha) ⟨hn.1,hn.2.1,?_,hn.2.2.2⟩
    simp only[List.mem_cons,List.not_mem_nil,or_false] at m3
    show InR r3.1
    constructor<;>omega
   ·refine (Yc 4 h2).bind fun r3 ⟨h3,a3,b3,_⟩=>?_
    have b3:=b3 (by omega)
    refine (Ztz a1 b1).bind fun a ha=>?_
    refine (Zva _ _ _).bind fun y hy=>So.ret ?_
    subst hy
    have hn:=hlog.nums a ha
    exact hlog.set _ _ ⟨a3,b3⟩ ⟨hn.1,⟨by show _≤r3.1;omega,by show r3.1≤_;omega⟩,hn.2.2⟩
  refine So.ite (fun hp=>?_) fun hp=>j1 _ false h5 fun h=>by cases h
  have hp:=of_decide_eq_true hp
  exact (Zq7 4 h5).bind fun r6 h6=>j1 _ _ h6 fun _=>by omega
 exact key.bind fun r1 h1=>So.ret h1
def Kh:List GDone→GModel→Nat→GModel×Int
 | [],m,_=>(m,-1)
 | d::r,m,k=>if d.resp=1 then Kh r m (k+1) else if (Yp m d.write d.addr d.size d.value).2.2=d.resp∧(Yp m d.write d.addr d.size d.value).2.1=d.value then Kh r (Yp m d.write d.addr d.size d.value).1 (k+1) else (m,(k:Int))
theorem Zya {m:GModel} {d:GDone} (h:ModelP m) (h1:¬d.resp=1) (h2:(Yp m d.write d.addr d.size d.value).2.2=d.resp):ModelP (Yp m d.write d.addr d.size d.value).1:=by
 by_cases ha:Yj d.addr d.size=true
 ·exact (Zo7 h ha).1
 ·exfalso
  have:(Yp m d.write d.addr d.size d.value).2.2=1:=by
   unfold Yp
   rw[if_neg (by simp[ha])]
  exact h1 (h2.symm.trans this)
theorem Z7i:∀(l:List GDone) (m:GModel) (k:Nat),ModelP m→(Kh l m k).2=-1∨(0≤(Kh l m k).2∧(Kh l m k).2 < (k+l.length:Nat)):=by
 intro l
 induction l with
 | nil=>intro m k _;exact .inl rfl
 | cons d l ih=>
  intro m k h
  unfold Kh
  split
  ·have:=ih m (k+1) h;simp only[List.length_cons];omega
  ·split
   ·rename_i h1 h2
    have:=ih _ (k+1) (Zya h h1 h2.1);simp only[List.length_cons];omega
   ·right;simp only[List.length_cons];omega
theorem Z64:∀(l:List GDone) (m:GModel) (k:Nat),ModelP m→ModelP (Kh l m k).1:=by
 intro l
 induction l with
 | nil=>intro m k h;exact h
 | cons d l ih=>
  intro m k h
  unfold Kh
  split
  ·exact ih m (k+1) h
  ·split
   ·rename_i h1 h2
    exact ih _ (k+1) (Zya h h1 h2.1)
   ·exact h
theorem Z1n (l:List GDone) (hl:l.length < 1048577):Zjk l=some (Kh l (GModel.mk (List.replicate 192 0) (GDev.mk (List.replicate 4 0) 0 [])) 0):=by
 unfold Zjk
 rw[Zxc,Option.bind_some]
 have key:∀(k f:Nat) (m:GModel),k≤l.length→l.length - k < f→ModelP m→Zaa l f m (k:Int)=some (Kh (l.drop k) m k):=by
  intro k f
  induction f generalizing k with
  | zero=>intro _ _ h;omega
  | succ f ih=>
   intro m hk hf hm
   show Zgg l (Zaa l f) m k=_
   unfold Zgg
   by_cases hc:k < l.length
   ·rw[List.drop_eq_getElem_cons hc,if_pos (by simpa using hc),Zt hc,Option.bind_some,Z3 (by omega)]
    unfold Kh
    by_cases h1:l[k].resp=1
    ·rw[if_pos h1,if_pos (by simpa using h1)]
     exact ih (k+1) m (by omega) (by omega) hm
    ·rw[if_neg h1,if_neg (by simpa using h1),Zz8 _ _ _ _ hm,Option.bind_some]
     by_cases h2:(Yp m l[k].write l[k].addr l[k].size l[k].value).2.2=l[k].resp
     ·rw[if_neg (by simpa using h2)]
      by_cases h3:(Yp m l[k].write l[k].addr l[k].size l[k].value).2.1=l[k].value
      ·rw[if_neg (by simpa using h3),if_pos ⟨h2,h3⟩]
       exact ih (k+1) _ (by omega) (by omega) (Zya hm h1 h2)
      ·rw[if_pos (by simpa using h3),if_neg (fun h=>h3 h.2)]
     ·rw[if_pos (by simpa using h2),if_neg (fun h=>h2 h.1)]
   ·rw[List.drop_of_length_le (by omega),if_neg (by simpa using hc)]
    rfl
 exact key 0 FU _ (Nat.zero_le _) (by have:=Yu;omega) Zio
theorem Z21 (l:List GDone) (hl:l.length < 1048577):Zja l=some (Kh l (GModel.mk (List.replicate 192 0) (GDev.mk (List.replicate 4 0) 0 [])) 0):=by
 unfold Zja
 rw[Zpe,Option.bind_some]
 have key:∀(k f:Nat) (m:GModel),k≤l.length→l.length - k < f→ModelP m→Jz l f m (k:Int)=some (Kh (l.drop k) m k):=by
  intro k f
  induction f generalizing k with
  | zero=>intro _ _ h;omega
  | succ f ih=>
   intro m hk hf hm
   show Zgc l (Jz l f) m k=_
   unfold Zgc Zdq
   by_cases hc:k < l.length
   ·rw[List.drop_eq_getElem_cons hc,if_pos (by simpa using hc),Zt hc,Option.bind_some,Z3 (by omega)]
    unfold Kh
    by_cases h1:l[k].resp=1
    ·rw[if_pos h1,if_pos (by simpa using h1)]
     exact ih (k+1) m (by omega) (by omega) hm
    ·rw[if_neg h1,if_neg (by simpa using h1),Zky _ _ _ _ hm,Option.bind_some]
     by_cases h2:(Yp m l[k].write l[k].addr l[k].size l[k].value).2.2=l[k].resp
     ·rw[if_neg (by simpa using h2)]
      by_cases h3:(Yp m l[k].write l[k].addr l[k].size l[k].value).2.1=l[k].value
      ·rw[if_neg (by simpa using h3),if_pos ⟨h2,h3⟩]
       exact ih (k+1) _ (by omega) (by omega) (Zya hm h1 h2)
      ·rw[if_pos (by simpa using h3),if_neg (fun h=>h3 h.2)]
     ·rw[if_pos (by simpa using h2),if_pos rfl,if_neg (fun h=>h2 h.1)]
   ·rw[List.drop_of_length_le (by omega),if_neg (by simpa using hc)]
    rfl
 exact key 0 FU _ (Nat.zero_le _) (by have:=Yu;omega) Zio
theorem Z61 (l:List GDone) (w:Int) (hl:l.length < 1048577):∃n,Zi2 l w=some n∧Zi3 l w=some n:=by
 have key:∀(m k:Nat) (v:Int),k≤l.length→l.length - k < m→∃n,Qy l w m v (k:Int)=some n∧Q2 l w m v (k:Int)=some n:=by
  intro m
  induction m with
  | zero=>intro k _ _ h;omega
  | succ m ih=>
   intro k v hk hm
   show ∃n,Zc6 l w (Qy l w m) v (k:Int)=some n∧Zcz l w (Q2 l w m) v (k:Int)=some n
   unfold Zc6 Zcz
   by_cases hc:k < l.length
   ·rw[if_pos (by simpa using hc),if_pos (by simpa using hc),Zt hc,Option.bind_some,Option.bind_some,Z3 (by omega)]
    split
    ·exact ih (k+1) _ (by omega) (by omega)
    ·exact ih (k+1) _ (by omega) (by omega)
   ·rw[if_neg (by simpa using hc),if_neg (by simpa using hc)]
    exact⟨_,rfl,rfl⟩
 exact key FU 0 (-1) (Nat.zero_le _) (by have:=Yu;omega)
def cntL (l:List GDone) (k:Nat):Nat:=((List.range k).map fun i:Nat=>(ofL l (i:Int)).length).sum
theorem K0 (l:List GDone) (k:Nat):cntL l (k+1)=cntL l k+(ofL l (k:Int)).length:=by
 unfold cntL
 rw[List.range_succ,List.map_append,List.sum_append];simp
theorem Zoi (d:GDone) (l:List GDone) (i:Int):(ofL (d::l) i).length=(ofL l i).length+if d.who=i then 1 else 0:=by
 unfold ofL
 rw[List.filter_cons]
 by_cases h:d.who=i
 ·rw[if_pos (by simpa using h),if_pos h];rfl
 ·rw[if_neg (by simpa using h),if_neg h];rfl
theorem Z7f (l:List GDone):cntL l 4=(ofL l ((0:Nat):Int)).length+(ofL l ((1:Nat):Int)).length+(ofL l ((2:Nat):Int)).length+(ofL l ((3:Nat):Int)).length:=by
 rw[K0,K0,K0,K0]
 have z:cntL l 0=0:=rfl
 omega
theorem Z83 {l:List GDone} (h:∀d∈l,0≤d.who∧d.who < 4):cntL l 4=l.length:=by
 induction l with
 | nil=>rfl
 | cons d l ih=>
  have h1:=ih fun x hx=>h x (List.mem_cons_of_mem _ hx)
  have h2:=h d List.mem_cons_self
  rw[Z7f] at h1 ⊢
  have a0:=Zoi d l ((0:Nat):Int)
  have a1:=Zoi d l ((1:Nat):Int)
  have a2:=Zoi d l ((2:Nat):Int)
  have a3:=Zoi d l ((3:Nat):Int)
  rw[List.length_cons]
  split at a0<;>split at a1<;>split at a2<;>split at a3<;>omega
theorem Zp8 (l:List GDone) (i:Int):(ofL l i).length≤l.length:=by unfold ofL;exact List.length_filter_le _ _
theorem Zyl (x:List Int) (h:x.length≤maxLen∧∀v∈x,(Lit.int .u8 v).wf=true):Zox x=some true:=by
 unfold Zox
 rw[show Zv5 x=some (decide ((x.length:Int) > 1048576)) from rfl,Option.bind_some]
 by_cases hb:(x.length:Int) > 1048576
 ·rw[if_pos (by simpa using hb)]
 ·have hl:x.length < 1048577:=by omega
  rw[if_neg (by simpa using hb)]
  obtain⟨l,e1,hq⟩:=Zxh x hl
  have hll:=hq.few
  have hm:=Z64 l _ 0 Zio
  have hk:=Z7i l _ 0 Zio
  rw[e1,Option.bind_some,Z1n l hll,Option.bind_some,Z21 l hll,Option.bind_some]
  generalize Kh l (GModel.mk (List.replicate 192 0) (GDev.mk (List.replicate 4 0) 0 [])) 0=q at*
  rw[if_neg (by simp),Zv2 _ hm.sm,Option.bind_some]
  unfold Zdo
  rw[if_neg (by simp)]
  have hle:∀k,k≤4→cntL l k≤4*l.length:=fun k hk=>by
   have h0:cntL l 0=0:=rfl
   have h1:cntL l 1=cntL l 0+(ofL l ((0:Nat):Int)).length:=K0 l 0
   have h2:cntL l 2=cntL l 1+(ofL l ((1:Nat):Int)).length:=K0 l 1
   have h3:cntL l 3=cntL l 2+(ofL l ((2:Nat):Int)).length:=K0 l 2
   have h4:cntL l 4=cntL l 3+(ofL l ((3:Nat):Int)).length:=K0 l 3
   have a0:=Zp8 l ((0:Nat):Int)
   have a1:=Zp8 l ((1:Nat):Int)
   have a2:=Zp8 l ((2:Nat):Int)
   have a3:=Zp8 l ((3:Nat):Int)
   obtain rfl|rfl|rfl|rfl|rfl:k=0∨k=1∨k=2∨k=3∨k=4:=by omega
   all_goals omega
  refine Kt (σ:=List GDone×Int×Int) (n:=4) (by omega) (fun k=>(l,q.2,((cntL l k:Nat):Int))) (B:=fun κ st j=>Zcg x (fun a b c d=>κ (a,b,c) d) st.1 st.2.1 st.2.2 j) (L:=fun m st j=>Zdn x m st.1 st.2.1 st.2.2 j) (fun m s i=>rfl) (fun k hk4 κ=>?_) fun κ=>?_
  ·obtain⟨n,n1,n2⟩:=Z61 l (k:Int) hll
   have ho:=Zp8 l (k:Int)
   have hc:=hle k (by omega)
   unfold Zcg
   simp only
   rw[if_pos (decide_eq_true (by omega)),Z27 l _ hll,Option.bind_some,Z1z l _ _ _ (by omega),Z05 l _ _ _ (by omega)]
   have j4:J3 x (fun a b c d=>κ (a,b,c) d) l q.2 ((cntL l k:Nat):Int) (k:Int) (ofL l (k:Int)) false=κ (l,q.2,((cntL l (k+1):Nat):Int)) (addW (k:Int) 1):=by
    unfold J3
    rw[if_neg (by simp),K0,Zp (a:=((cntL l k:Nat):Int)) (by omega) (by omega)]
    congr 3
   have j3:J1 x (fun a b c d=>κ (a,b,c) d) l q.2 ((cntL l k:Nat):Int) (k:Int) (ofL l (k:Int)) false=κ (l,q.2,((cntL l (k+1):Nat):Int)) (addW (k:Int) 1):=by
    unfold J1
    rw[if_neg (by simp),n1,Option.bind_some,n2,Option.bind_some,if_neg (by simp),Z06 l _ hll,Option.bind_some,Zy8 _ (by omega),Option.bind_some]
    exact j4
   rw[Option.bind_some]
   split
   ·rw[Option.bind_some,Option.bind_some,show decide ((((Zj8 l (k:Int) 0 4000:Nat):Int))≠((Zj8 l (k:Int) 0 4000:Nat):Int))=false by simp]
    exact j3
   ·exact j3
  ·unfold Zcg
   simp only
   rw[if_neg (by decide),Zxp l hll,Option.bind_some,if_pos (decide_eq_true (by rw[Z83 hq.who])),if_pos (by simp),Zzt hll hq.nums,Option.bind_some,Zzk hll hq.nums,Option.bind_some,if_pos (beq_self_eq_true _)]
   rcases hk with hk|⟨hk1,hk2⟩
   ·rw[if_pos (decide_eq_true hk)]
   ·rw[if_neg (by rw[decide_eq_true_eq];omega),decide_eq_true (by omega)]
end Go.Proofs.YtlcfolgfmlgncaaGreatDoor.Ev
