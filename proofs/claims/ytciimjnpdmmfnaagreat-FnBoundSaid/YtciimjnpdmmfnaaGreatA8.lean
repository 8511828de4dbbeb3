/- A part of the proof of FnBound: see the text YtciimjnpdmmfnaaGreatLawFnBound for what is proved and its conditions. Conditions here: those in each line. -/
import Derived.Test.YtciimjnpdmmfnaaGreatA7
namespace Go.Proofs.YtciimjnpdmmfnaaGreat.Ev
open Go Go.Proofs
set_option linter.unusedVariables false
set_option linter.unusedSimpArgs false
theorem Zmf {n:Int} (h1:-9223372036854775808≤n) (h2:n < 9223372036854775808):IntKind.i64.wrap n=n:=Ycr h1 h2
theorem Zm {a b:Int} (h1:-9223372036854775808≤a+b) (h2:a+b < 9223372036854775808):addW a b=a+b:=Zmf h1 h2
theorem Yx {a b:Int} (h1:-9223372036854775808≤a - b) (h2:a - b < 9223372036854775808):subW a b=a - b:=Zmf h1 h2
theorem Yy {a b:Int} (h1:-9223372036854775808≤a*b) (h2:a*b < 9223372036854775808):mulW a b=a*b:=Zmf h1 h2
theorem Y5 {k:Nat} (h:k < 4611686018427387904):addW (k:Int) 1=((k+1:Nat):Int):=by rw[Zm (by omega) (by omega)];rfl
section
variable {α β σ ρ:Type}
theorem Yi {xs:List α} {k:Nat} (h:k < xs.length):idx xs (k:Int)=some xs[k]:=by
 simp[idx,h]
theorem Wj:4611686018427387904 < FU:=by decide
def runL (step:α→σ→Option (σ ⊕ ρ)) (fin:σ→Option ρ):List α→σ→Option ρ
 | [],s=>fin s
 | a::l,s=>(step a s).bind fun r=>match r with|.inl s'=>runL step fin l s'|.inr x=>some x
def goL (k:σ→Option ρ):σ ⊕ ρ→Option ρ
 | .inl s=>k s
 | .inr x=>some x
theorem Ycw (xs:List α) (hl:xs.length < 4611686018427387904) (step:α→σ→Option (σ ⊕ ρ)) (fin:σ→Option ρ) (L:Nat→σ→Int→Option ρ)
  (hL:∀m s i,L (m+1) s i=if decide (i < (xs.length:Int))=true then (idx xs i).bind fun a=>(step a s).bind (goL fun s'=>L m s' (addW i 1)) else fin s):
  ∀(m k:Nat) (s:σ),k≤xs.length→xs.length - k < m→L m s k=runL step fin (xs.drop k) s:=by
 intro m
 induction m with
 | zero=>intro k s _ h;omega
 | succ m ih=>
  intro k s hk hm
  rw[hL]
  by_cases hc:k < xs.length
  ·have h1:decide ((k:Int) < (xs.length:Int))=true:=by simpa using hc
   rw[if_pos h1,Yi hc,Option.bind_some,List.drop_eq_getElem_cons hc]
   simp only[runL]
   congr 1
   funext r
   cases r with
   | inl s'=>
    simp only[goL]
    rw[Y5 (by omega)]
    exact ih (k+1) s' (by omega) (by omega)
   | inr x=>rfl
  ·have h1:¬decide ((k:Int) < (xs.length:Int))=true:=by simpa using hc
   rw[if_neg h1,List.drop_eq_nil_of_le (by omega)]
   rfl
theorem Zwo (xs:List α) (hl:xs.length < 4611686018427387904) (step:α→σ→Option (σ ⊕ ρ)) (fin:σ→Option ρ) (L:Nat→σ→Int→Option ρ)
  (hL:∀m s i,L (m+1) s i=if decide (i < (xs.length:Int))=true then (idx xs i).bind fun a=>(step a s).bind (goL fun s'=>L m s' (addW i 1)) else fin s) (s:σ):
  L FU s 0=runL step fin xs s:=by
 have:=Ycw xs hl step fin L hL FU 0 s (Nat.zero_le _) (by have:=Wj;omega)
 simpa using this
theorem Yak (step:α→σ→Option (σ ⊕ ρ)) (fin:σ→Option ρ) (f:σ→α→σ) (I:List α→σ→Prop) (h:∀a l s,I (a::l) s→step a s=some (.inl (f s a))∧I l (f s a)):∀(xs:List α) (s:σ),I xs s→runL step fin xs s=fin (xs.foldl f s):=by
 intro xs
 induction xs with
 | nil=>intro s _;rfl
 | cons a l ih=>
  intro s hi
  obtain⟨h1,h2⟩:=h a l s hi
  simp only[runL,h1,Option.bind_some,List.foldl_cons]
  exact ih _ h2
theorem Yb0 {sz n:Nat} {z:α} (h1:n*sz≤70368744177664) (h2:n≤9223372036854775807):mkI sz (n:Int) z=some (List.replicate n z):=by
 simp[mkI,h1,h2]
theorem Wl {sz:Nat} {xs ys:List α} (h1:(xs.length+ys.length)*sz≤140737488355328) (h2:xs.length+ys.length≤9223372036854775807):appI sz xs ys=some (xs++ys):=by
 unfold appI
 rw[if_pos ⟨h1,h2⟩]
end
section
variable {α:Type}
theorem Qi (xs:List α) (i:Int) (a:α):setO xs i a=some (xs.set i.toNat a):=rfl
def atI [Inhabited α] (xs:List α) (i:Int):α:=xs.getD i.toNat default
theorem Yh [Inhabited α] {xs:List α} {k:Nat} (h:k < xs.length):atI xs (k:Int)=xs[k]:=by
 simp[atI,h]
theorem Xj [Inhabited α] {xs:List α} {i:Int} (h0:0≤i) (h1:i < (xs.length:Int)):idx xs i=some (atI xs i):=by
 obtain⟨k,rfl⟩:∃k:Nat,i=k:=⟨i.toNat,by omega⟩
 have hk:k < xs.length:=by omega
 rw[Yi hk,Yh hk]
theorem Zen [Inhabited α] {xs:List α} {i:Int} (h0:0≤i) (h1:i < (xs.length:Int)):atI xs i∈xs:=by
 obtain⟨k,rfl⟩:∃k:Nat,i=k:=⟨i.toNat,by omega⟩
 have hk:k < xs.length:=by omega
 rw[Yh hk];exact List.getElem_mem hk
theorem Zex [Inhabited α] {xs:List α} {i:Int} (a:α) (h0:0≤i) (h1:i < (xs.length:Int)):atI (xs.set i.toNat a) i=a:=by
 obtain⟨k,rfl⟩:∃k:Nat,i=k:=⟨i.toNat,by omega⟩
 have hk:k < xs.length:=by omega
 rw[Yh (by simpa using hk)];simp
theorem Zpt [Inhabited α] {xs:List α} {i j:Int} (a:α) (h0:0≤i) (h1:0≤j) (hn:i≠j):atI (xs.set i.toNat a) j=atI xs j:=by
 unfold atI
 rw[List.getD_eq_getElem?_getD,List.getD_eq_getElem?_getD,List.getElem?_set_ne (by omega)]
theorem Zgc {n:Int} (h:n≠0):nzI n=some ():=by unfold nzI;rw[if_neg h]
theorem Ybt {n:Int} (h:0≤n):nnI n=some ():=by unfold nnI;rw[if_pos h]
theorem Kq {a n:Int} (h0:0≤a):remW a n=a % n:=by unfold remW;rw[Int.tmod_eq_emod_of_nonneg h0]
theorem Z7k {a n:Int} (h0:0≤a) (h1:a < 9223372036854775808) (hn:1≤n):quoW a n=a / n:=by
 unfold quoW
 rw[Int.tdiv_eq_ediv_of_nonneg h0]
 have h2:0≤a / n:=Int.ediv_nonneg h0 (by omega)
 have h3:a / n≤a:=Int.ediv_le_self n h0
 exact Zmf (by omega) (by omega)
theorem Zyj (xs:List α) (hl:xs.length < 4611686018427387904) (f:α→Option Bool) (q:α→Bool) (hf:∀a∈xs,f a=some (!q a)) (L:Nat→Int→Option Int)
  (hL:∀m i,L (m+1) i=if decide (i < (xs.length:Int))=true then (idx xs i).bind fun a=>(f a).bind fun r=>if r=true then some i else L m (addW i 1) else some (-1)):
  (xs.all q=true∧L FU 0=some (-1))∨∃k:Nat,∃h:k < xs.length,L FU 0=some (k:Int)∧q xs[k]=false∧(xs.take k).all q=true:=by
 have key:∀(m k:Nat),k≤xs.length→xs.length - k < m→(xs.take k).all q=true→(xs.all q=true∧L m k=some (-1))∨∃j:Nat,∃h:j < xs.length,L m k=some (j:Int)∧q xs[j]=false∧(xs.take j).all q=true:=by
  intro m
  induction m with
  | zero=>intro k _ h;omega
  | succ m ih=>
   intro k hk hm ht
   rw[hL]
   by_cases hc:k < xs.length
   ·have h1:decide ((k:Int) < (xs.length:Int))=true:=by simpa using hc
    rw[if_pos h1,Yi hc,Option.bind_some,hf _ (List.getElem_mem hc),Option.bind_some]
    by_cases hq:q xs[k]=true
    ·have h2:¬(!q xs[k])=true:=by simp[hq]
     rw[if_neg h2,Y5 (by omega)]
     refine ih (k+1) (by omega) (by omega) ?_
     rw[List.take_succ_eq_append_getElem hc,List.all_append,ht];simp[hq]
    ·have h2:(!q xs[k])=true:=by simpa using hq
     rw[if_pos h2]
     exact .inr ⟨k,hc,rfl,by simpa using hq,ht⟩
   ·have h1:¬decide ((k:Int) < (xs.length:Int))=true:=by simpa using hc
    rw[if_neg h1]
    rw[List.take_of_length_le (by omega)] at ht
    exact .inl ⟨ht,rfl⟩
 exact key FU 0 (Nat.zero_le _) (by have:=Wj;omega) (by simp)
theorem Zpv (xs:List α) (hl:xs.length < 4611686018427387904) (f:α→Option Bool) (q:α→Bool) (hf:∀a∈xs,f a=some (!q a)) (L:Nat→Int→Option Int)
  (hL:∀m i,L (m+1) i=if decide (i < (xs.length:Int))=true then (idx xs i).bind fun a=>(f a).bind fun r=>if r=true then some i else L m (addW i 1) else some (-1)):
  ((L FU 0).bind fun r=>some (decide (r≥0)))=some (!xs.all q):=by
 rcases Zyj xs hl f q hf L hL with⟨h1,h2⟩|⟨k,hk,h1,h2,h3⟩
 ·rw[h2,h1];rfl
 ·rw[h1,Option.bind_some]
  have:xs.all q=false:=by
   rw[List.all_eq_false]
   exact⟨xs[k],List.getElem_mem hk,by simp[h2]⟩
  rw[this]
  have h4:((k:Nat):Int)≥0:=by omega
  simp[h4]
theorem Z48 (xs:List α) (z:α) (hl:xs.length < 4611686018427387904) (f:α→Option Bool) (q:α→Bool) (hf:∀a∈xs,f a=some (!q a)) (I:Nat→Int→Option Int)
  (hI:∀m i,I (m+1) i=if decide (i < (xs.length:Int))=true then (idx xs i).bind fun a=>(f a).bind fun r=>if r=true then some i else I m (addW i 1) else some (-1))
  (L:Nat→List α→Int→Int→Option (List α))
  (hL:∀m v i j,L (m+1) v i j=if decide (j < (v.length:Int))=true then (idx v j).bind fun a=>(f a).bind fun r=>if (!r)=true then (idx v i).bind fun _=>(setO v i a).bind fun y=>L m y (addW i 1) (addW j 1) else L m v i (addW j 1)
   else (Kb v i (v.length:Int)).bind fun _=>(clrI z v i (v.length:Int)).bind fun y=>(Kb y 0 i).bind fun s=>some s):
  ((I FU 0).bind fun r=>if decide (r=(-1))=true then some xs else L FU xs r (addW r 1))=some (xs.filter q):=by
 have key:∀(m i j:Nat) (v:List α),i≤j→j≤xs.length→xs.length - j < m→v.length=xs.length→v.take i=(xs.take j).filter q→v.drop j=xs.drop j→L m v i j=some (xs.filter q):=by
  intro m
  induction m with
  | zero=>intro i j v _ _ h;omega
  | succ m ih=>
   intro i j v hij hj hm hv ht hd
   rw[hL]
   by_cases hc:j < v.length
   ·have hc2:j < xs.length:=by omega
    have h1:decide ((j:Int) < (v.length:Int))=true:=by simpa using hc
    have e:v[j]=xs[j]:=by
     have:=congrArg List.head? hd
     simpa [List.head?_drop,hc,hc2] using this
    have hd2:v.drop (j+1)=xs.drop (j+1):=by
     have:=congrArg (List.drop 1) hd
     simpa [List.drop_drop] using this
    rw[if_pos h1,Yi hc,Option.bind_some,e,hf _ (List.getElem_mem hc2),Option.bind_some,Bool.not_not]
    by_cases hq:q xs[j]=true
    ·rw[if_pos hq,Yi (by omega:i < v.length),Option.bind_some]
     simp only[setO,Option.bind_some]
     rw[Y5 (by omega),Y5 (by omega)]
     refine ih (i+1) (j+1) _ (by omega) (by omega) (by omega) (by simp[hv]) ?_ ?_
     ·rw[Int.toNat_natCast,List.take_succ_eq_append_getElem (by simpa using (by omega:i < v.length)),List.take_set_of_le (Nat.le_refl _),ht,List.take_succ_eq_append_getElem hc2,List.filter_append]
      simp[hq]
     ·rw[Int.toNat_natCast,List.drop_set_of_lt (by omega),hd2]
    ·rw[if_neg hq,Y5 (by omega)]
     refine ih i (j+1) v (by omega) (by omega) (by omega) hv ?_ hd2
     rw[ht,List.take_succ_eq_append_getElem hc2,List.filter_append]
     simp[hq]
   ·have h1:¬decide ((j:Int) < (v.length:Int))=true:=by simpa using hc
    have hjx:j=xs.length:=by omega
    rw[if_neg h1]
    have h2:Kb v (i:Int) (v.length:Int)=some ((v.drop i).take (v.length - i)):=by
     unfold Kb;rw[if_pos ⟨by omega,by omega,by omega⟩];simp
    have h3:clrI z v (i:Int) (v.length:Int)=some (v.take i++List.replicate (v.length - i) z++v.drop v.length):=by
     unfold clrI
     have:(i:Int).toNat+((v.length:Int).toNat - (i:Int).toNat)=v.length:=by omega
     rw[if_pos (by omega),this];simp
    rw[h2,Option.bind_some,h3,Option.bind_some]
    have h4:Kb (v.take i++List.replicate (v.length - i) z++v.drop v.length) 0 (i:Int)=some (v.take i):=by
     unfold Kb
     rw[if_pos ⟨by omega,by omega,by simp;omega⟩]
     have:(v.take i).length=i:=by rw[List.length_take];omega
     simp[List.append_assoc,List.take_append,this]
    rw[h4,Option.bind_some,ht,hjx,List.take_length]
 rcases Zyj xs hl f q hf I hI with⟨h1,h2⟩|⟨k,hk,h1,h2,h3⟩
 ·rw[h2,Option.bind_some,if_pos (by decide)]
  congr 1
  exact (List.filter_eq_self.2 (fun a ha=>List.all_eq_true.1 h1 a ha)).symm
 ·rw[h1,Option.bind_some,if_neg (by simp),Y5 (by omega)]
  refine key FU k (k+1) xs (by omega) (by omega) (by have:=Wj;omega) rfl ?_ rfl
  rw[List.take_succ_eq_append_getElem hk,List.filter_append,List.filter_eq_self.2 (fun a ha=>List.all_eq_true.1 h3 a ha)]
  simp[h2]
theorem Ycb (sz:Nat) (hz:sz≤1024) (xs:List α) (hl:xs.length < 1048577) (f:α→Option α) (hf:∀a∈xs,f a=some a) {ρ:Type} (fin:List α→Option ρ) (L:Nat→List α→Int→Option ρ)
  (hL:∀m v i,L (m+1) v i=if decide (i < (xs.length:Int))=true then (idx xs i).bind fun a=>(f a).bind fun b=>(appI sz v [b]).bind fun z=>L m z (addW i 1) else fin v):L FU [] 0=fin xs:=by
 have key:∀(m k:Nat),k≤xs.length→xs.length - k < m→L m (xs.take k) k=fin xs:=by
  intro m
  induction m with
  | zero=>intro k _ h;omega
  | succ m ih=>
   intro k hk hm
   rw[hL]
   by_cases hc:k < xs.length
   ·have h1:decide ((k:Int) < (xs.length:Int))=true:=by simpa using hc
    have hlen:(xs.take k).length=k:=by rw[List.length_take];omega
    have hb:(k+1)*sz≤140737488355328:=Nat.le_trans (Nat.mul_le_mul (by omega:k+1≤1048577) hz) (by decide)
    rw[if_pos h1,Yi hc,Option.bind_some,hf _ (List.getElem_mem hc),Option.bind_some,Wl (by simpa [hlen] using hb) (by simp[hlen];omega),Option.bind_some,Y5 (by omega),←List.take_succ_eq_append_getElem hc]
    exact ih (k+1) (by omega) (by omega)
   ·have h1:¬decide ((k:Int) < (xs.length:Int))=true:=by simpa using hc
    rw[if_neg h1,List.take_of_length_le (by omega)]
 have:=key FU 0 (Nat.zero_le _) (by have:=Wj;omega)
 simpa using this
end
theorem Ygv (bs:ByteArray):∀(n i:Nat) (r:List UInt8),bs.size - i=n→ByteArray.toList.loop bs i r=r.reverse++bs.data.toList.drop i:=by
 intro n
 induction n with
 | zero=>
  intro i r h
  unfold ByteArray.toList.loop
  have hs:bs.data.toList.length=bs.size:=rfl
  rw[if_neg (by omega),List.drop_eq_nil_of_le (by omega)]
  simp
 | succ n ih=>
  intro i r h
  unfold ByteArray.toList.loop
  have hs:bs.data.toList.length=bs.size:=rfl
  have hi:i < bs.data.toList.length:=by omega
  rw[if_pos (by omega),ih (i+1) _ (by omega),List.drop_eq_getElem_cons hi]
  have:bs.get! i=bs.data.toList[i]:=by
   have hi2:i < bs.data.size:=hi
   simp[ByteArray.get!,getElem!_def,Array.getElem?_eq_getElem hi2]
  rw[this]
  simp
theorem Z0b (bs:ByteArray):bs.toList=bs.data.toList:=by
 unfold ByteArray.toList
 rw[Ygv bs _ 0 [] rfl]
 simp
theorem Z4n {β:Type} {c:Prop} [Decidable c] {x:β}:(if c then x else x)=x:=by split<;>rfl
theorem Ym (x a b:Int):Zx x a b=some (decide (a≤x∧x≤b)):=by
 unfold Zx
 by_cases h:a≤x<;>simp[h]
theorem Yk (x a b:Int):Zj x a b=some (decide (a≤x∧x≤b)):=by
 unfold Zj
 by_cases h:a≤x<;>simp[h]
def Xh (c:GConf):Int:=if (0≤c.maxRetry∧c.maxRetry≤3)∧(0≤c.maxWait∧c.maxWait≤3) then (c.maxRetry+2)*(c.maxWait+6) else 0
def Zz (c:GConf):Int:=if Xh c=0 then 0 else if 1≤c.lockMost∧c.lockMost≤40 then 2*Xh c+c.lockMost else 0
def Zo (c:GConf):Nat:=c.masters.countP (·.prio)
def Xv (c:GConf) (m:GMConf):Bool:=decide (1≤m.weight∧m.weight≤4)&&if m.prio then decide (2*Zz c*Zo c≤m.every∧m.every≤1000)&&decide (1≤m.cap∧m.cap≤8) else decide (m.every=0)&&decide (m.cap=0)
def Z8 (c:GConf):Bool:=decide (1≤(c.masters.length:Int)∧(c.masters.length:Int)≤4)&&decide (1≤c.quantum∧c.quantum≤4)&&decide (1≤c.maxSplit∧c.maxSplit≤12)&&decide (Zz c≠0)&&c.masters.all (Xv c)
theorem Zcc (c:GConf):0≤Xh c∧Xh c≤45:=by
 unfold Xh
 split
 ·rename_i h
  obtain⟨⟨h1,h2⟩,h3,h4⟩:=h
  generalize c.maxRetry=a at*
  generalize c.maxWait=b at*
  have:a=0∨a=1∨a=2∨a=3:=by omega
  rcases this with rfl|rfl|rfl|rfl<;>omega
 ·omega
theorem Q5 (c:GConf):0≤Zz c∧Zz c≤130:=by
 have:=Zcc c
 unfold Zz
 split
 ·omega
 ·split<;>omega
theorem Ze2 (c:GConf):Jw c=some (Xh c):=by
 unfold Jw
 rw[Yk,Option.bind_some,Yk,Option.bind_some]
 unfold Zg7 Xh
 by_cases h1:0≤c.maxRetry∧c.maxRetry≤3
 ·by_cases h2:0≤c.maxWait∧c.maxWait≤3
  ·have:=Zcc c
   unfold Xh at this
   rw[if_pos ⟨h1,h2⟩] at this
   simp only[h1,h2,decide_true,Bool.not_true,Bool.false_eq_true,if_false,and_self,if_true]
   rw[Zm (by omega) (by omega),Zm (by omega) (by omega),Yy (by omega) (by omega)]
  ·simp[h1,h2]
 ·simp[h1]
theorem Zqn (c:GConf):Zdo c=some (Xh c):=by
 rw[←Ze2]
 unfold Zdo Jw
 simp only[Yk,Ym]
 rfl
theorem Ze0 (c:GConf):Qs c=some (Zz c):=by
 have:=Zcc c
 unfold Qs Zz
 rw[Ze2,Option.bind_some,Yk,Option.bind_some,Option.bind_some]
 by_cases h0:Xh c=0
 ·simp[h0]
 ·by_cases h1:1≤c.lockMost∧c.lockMost≤40
  ·simp only[h0,h1,decide_true,decide_false,Bool.not_true,Bool.false_eq_true,if_false,and_self,if_true]
   rw[Yy (by omega) (by omega),Zm (by omega) (by omega)]
  ·simp[h0,h1]
theorem Zhw (c:GConf):Zbz c=some (Zz c):=by
 rw[←Ze0]
 unfold Zbz Qs
 simp only[Yk,Ym,Ze2,Zqn]
theorem Z1p (c:GConf):Zi7 c=some (decide (1≤c.quantum∧c.quantum≤4)&&decide (1≤c.maxSplit∧c.maxSplit≤12)&&decide (Zz c≠0)):=by
 have:=Zcc c
 unfold Zi7 Zz
 simp only[Yk,Ze2,Option.bind_some]
 by_cases h1:1≤c.quantum∧c.quantum≤4
 ·by_cases h2:Xh c=0
  ·simp[h2]
  ·have h3:Xh c > 0:=by omega
   by_cases h4:1≤c.maxSplit∧c.maxSplit≤12
   ·by_cases h5:1≤c.lockMost∧c.lockMost≤40
    ·have:¬(2*Xh c+c.lockMost=0):=by omega
     simp[h1,h2,h3,h4,h5,this]
    ·simp[h1,h2,h3,h4,h5]
   ·simp[h1,h2,h3,h4]
 ·simp[h1]
theorem Zw7 (xs:List GMConf):∀(n:Int),0≤n→n+xs.length < 4611686018427387904→∀{ρ:Type} (fin:Int→Option ρ),runL (fun (a:GMConf) n=>some (.inl (if a.prio=true then addW n 1 else n))) fin xs n=fin (n+(xs.countP (·.prio):Nat)):=by
 induction xs with
 | nil=>intro n _ _ ρ fin;simp[runL]
 | cons a l ih=>
  intro n h0 hl ρ fin
  simp only[List.length_cons] at hl
  simp only[runL,Option.bind_some,List.countP_cons]
  by_cases h:a.prio=true
  ·rw[if_pos h,Zm (by omega) (by omega),ih _ (by omega) (by omega),if_pos h]
   congr 1;omega
  ·rw[if_neg h,ih _ (by omega) (by omega),if_neg h]
   congr 1
theorem Z8c (c:GConf) (hl:c.masters.length < 1048577):Zp3 c=some (Zo c:Int):=by
 unfold Zp3
 rw[Zwo c.masters (by omega) (fun (a:GMConf) n=>some (.inl (if a.prio=true then addW n 1 else n))) some (Zh4 c) (fun m s i=>?_) 0,Zw7 _ _ (by omega) (by omega)]
 ·simp[Zo]
 ·show Zkv c _ s i=_
  unfold Zkv
  congr 1;congr 1;funext a
  by_cases h:a.prio=true<;>simp[h,goL]
theorem Z05 (c:GConf):Zo c≤c.masters.length:=List.countP_le_length
theorem Z28 (c:GConf) (hl:c.masters.length < 1048577):0≤Zz c*(Zo c:Int)∧Zz c*(Zo c:Int)≤136314880:=by
 have h1:=Q5 c
 have h2:=Z05 c
 constructor
 ·exact Int.mul_nonneg h1.1 (by omega)
 ·have h3:Zz c*(Zo c:Int)≤130*(Zo c:Int):=Int.mul_le_mul_of_nonneg_right h1.2 (by omega)
  omega
theorem Zx3 (c:GConf) (hl:c.masters.length < 1048577):Zhf c=some (2*Zz c*Zo c):=by
 have h1:=Q5 c
 have h2:=Z28 c hl
 unfold Zhf
 rw[Zhw,Option.bind_some,Z8c c hl,Option.bind_some]
 rw[Yy (a:=2) (by omega) (by omega),Yy (by rw[Int.mul_assoc];omega) (by rw[Int.mul_assoc];omega)]
theorem Z1k (c:GConf) (m:GMConf) (hl:c.masters.length < 1048577):Zjg m c=some (!Xv c m):=by
 unfold Zjg Xv
 simp only[Ym,Option.bind_some,Zx3 c hl]
 by_cases h1:1≤m.weight∧m.weight≤4
 ·by_cases h2:m.prio=true
  ·by_cases h3:2*Zz c*Zo c≤m.every∧m.every≤1000
   ·simp[h1,h2,h3]
   ·simp[h1,h2,h3]
  ·by_cases h3:m.every=0
   ·simp[h1,h2,h3]
   ·simp[h1,h2,h3]
 ·simp[h1]
theorem Z5c (c:GConf) (xs:List GMConf) (hl:c.masters.length < 1048577) (hx:xs.length < 4611686018427387904):Y3 xs c=some (!xs.all (Xv c)):=by
 unfold Y3 Wf
 have key:∀(m k:Nat),k≤xs.length→xs.length - k < m→∃r,Z4 xs c m k=some r∧decide (r≥0)=!(xs.drop k).all (Xv c):=by
  intro m
  induction m with
  | zero=>intro k _ h;omega
  | succ m ih=>
   intro k hk hm
   have e:Z4 xs c (m+1) k=Xt xs c (Z4 xs c m) k:=rfl
   rw[e]
   unfold Xt
   by_cases hc:k < xs.length
   ·have h1:decide ((k:Int) < (xs.length:Int))=true:=by simpa using hc
    rw[if_pos h1,Yi hc,Option.bind_some,Z1k c _ hl,Option.bind_some,List.drop_eq_getElem_cons hc,List.all_cons]
    by_cases hq:Xv c xs[k]=true
    ·have h2:¬(!Xv c xs[k])=true:=by simp[hq]
     rw[if_neg h2,Y5 (by omega),hq,Bool.true_and]
     exact ih (k+1) (by omega) (by omega)
    ·have h2:(!Xv c xs[k])=true:=by simpa using hq
     rw[if_pos h2]
     refine⟨_,rfl,?_⟩
     simp[hq]
   ·have h1:¬decide ((k:Int) < (xs.length:Int))=true:=by simpa using hc
    rw[if_neg h1,List.drop_eq_nil_of_le (by omega)]
    exact⟨_,rfl,by simp⟩
 obtain⟨r,hr,hq⟩:=key FU 0 (Nat.zero_le _) (by have:=Wj;omega)
 rw[show ((0:Nat):Int)=0 from rfl] at hr
 rw[hr,Option.bind_some,hq,List.drop_zero]
theorem Zac (c:GConf) (hl:c.masters.length < 1048577):K8 c=some (Z8 c):=by
 unfold K8 Z8
 simp only[Ym,Option.bind_some,Zhw,Z5c c c.masters hl (by omega),Bool.not_not]
 by_cases h1:1≤(c.masters.length:Int)∧(c.masters.length:Int)≤4
 ·by_cases h2:1≤c.quantum∧c.quantum≤4
  ·by_cases h3:1≤c.maxSplit∧c.maxSplit≤12
   ·by_cases h4:Zz c=0<;>simp[h1,h2,h3,h4]
   ·simp[h1,h2,h3]
  ·simp[h1,h2]
 ·simp[h1]
theorem Ydf (c:GConf) (m:GMConf) (hl:c.masters.length < 1048577) (k:Option Bool):
  ((Zj m.weight 1 4).bind fun r1102=>
  if (!r1102)=true then some false
  else if (!m.prio)=true then
    if decide (m.every≠0)=true then some false
    else if decide (m.cap≠0)=true then some false
     else if m.prio=true then
       (Qs c).bind fun r1128=>
       (Zj m.every (mulW (mulW 2 (Zo c:Int)) r1128) 1000).bind fun r1130=>
       if (!r1130)=true then some false
       else (Zj m.cap 1 8).bind fun r1135=>if (!r1135)=true then some false else k
      else k
   else if m.prio=true then
     (Qs c).bind fun r1128=>
     (Zj m.every (mulW (mulW 2 (Zo c:Int)) r1128) 1000).bind fun r1130=>
     if (!r1130)=true then some false
     else (Zj m.cap 1 8).bind fun r1135=>if (!r1135)=true then some false else k
    else k)=if Xv c m=true then k else some false:=by
 have h1:=Q5 c
 have h2:=Z28 c hl
 have h3:=Z05 c
 have e:mulW (mulW 2 (Zo c:Int)) (Zz c)=2*Zz c*Zo c:=by
  have e2:2*(Zo c:Int)*Zz c=2*(Zz c*(Zo c:Int)):=by rw[Int.mul_assoc,Int.mul_comm (Zo c:Int)]
  rw[Yy (a:=2) (by omega) (by omega),Yy (by rw[e2];omega) (by rw[e2];omega),e2,Int.mul_assoc]
 unfold Xv
 simp only[Yk,Option.bind_some,Ze0,e]
 by_cases h1:1≤m.weight∧m.weight≤4
 ·by_cases h2:m.prio=true
  ·by_cases h3:2*Zz c*Zo c≤m.every∧m.every≤1000
   ·by_cases h4:1≤m.cap∧m.cap≤8<;>simp[h1,h2,h3,h4]
   ·simp[h1,h2,h3]
  ·by_cases h3:m.every=0
   ·by_cases h4:m.cap=0<;>simp[h1,h2,h3,h4]
   ·simp[h1,h2,h3]
 ·simp[h1]
theorem Zxn (c:GConf) (hl:c.masters.length < 1048577):Q0 c FU (Zo c:Int) 0=some (Z8 c):=by
 have key:∀(m k:Nat),k≤c.masters.length→c.masters.length - k < m→Q0 c m (Zo c:Int) k=some (decide (1≤(c.masters.length:Int)∧(c.masters.length:Int)≤4)&&decide (1≤c.quantum∧c.quantum≤4)&&decide (1≤c.maxSplit∧c.maxSplit≤12)&&decide (Zz c≠0)&&(c.masters.drop k).all (Xv c)):=by
  intro m
  induction m with
  | zero=>intro k _ h;omega
  | succ m ih=>
   intro k hk hm
   have e:Q0 c (m+1) (Zo c:Int) k=Zjs c (Q0 c m) (Zo c:Int) k:=rfl
   rw[e]
   unfold Zjs
   by_cases hc:k < c.masters.length
   ·have h1:decide ((k:Int) < (c.masters.length:Int))=true:=by simpa using hc
    rw[if_pos h1,Yi hc,Option.bind_some,Ydf c _ hl,List.drop_eq_getElem_cons hc,List.all_cons,Y5 (by omega),ih (k+1) (by omega) (by omega)]
    by_cases hq:Xv c c.masters[k]=true
    ·simp[hq]
    ·simp[hq]
   ·have h1:¬decide ((k:Int) < (c.masters.length:Int))=true:=by simpa using hc
    rw[if_neg h1,List.drop_eq_nil_of_le (by omega),Yk,Option.bind_some,Z1p]
    by_cases h2:1≤(c.masters.length:Int)∧(c.masters.length:Int)≤4
    ·simp[h2]
    ·simp[h2]
 have:=key FU 0 (Nat.zero_le _) (by have:=Wj;omega)
 simpa [Z8] using this
theorem K6 (c:GConf) (hl:c.masters.length < 1048577):K0 c=some (Z8 c):=by
 unfold K0
 rw[Zwo c.masters (by omega) (fun (a:GMConf) n=>some (.inl (if a.prio=true then addW n 1 else n))) (fun n=>Q0 c FU n 0) (Zhl c) (fun m s i=>?_) 0,Zw7 _ _ (by omega) (by omega)]
 ·rw[show (0:Int)+(c.masters.countP (·.prio):Nat)=(Zo c:Int) by simp[Zo]]
  exact Zxn c hl
 ·show Zj8 c _ s i=_
  unfold Zj8
  congr 1;congr 1;funext a
  by_cases h:a.prio=true<;>simp[h,goL]
def Znq (c:GConf) (i:Int):Int:=((c.masters[i.toNat]?).map (·.weight)).getD 0
def Za (c:GConf) (i:Int):Bool:=decide (0≤i∧i < (c.masters.length:Int))
def Jv (c:GConf) (i:Int):Int:=if Z8 c=true∧Za c i=true then Znq c i*c.quantum else 0
theorem Zxe {c:GConf} {i:Int} (h:Za c i=true):∃m,idx c.masters i=some m∧m∈c.masters∧m.weight=Znq c i:=by
 simp only[Za,decide_eq_true_eq] at h
 obtain⟨k,rfl⟩:∃k:Nat,i=k:=⟨i.toNat,by omega⟩
 have hk:k < c.masters.length:=by omega
 refine⟨c.masters[k],Yi hk,List.getElem_mem hk,?_⟩
 simp[Znq,hk]
theorem Zv1 {c:GConf} {m:GMConf} (h:Z8 c=true) (hm:m∈c.masters):1≤m.weight∧m.weight≤4:=by
 simp only[Z8,Bool.and_eq_true,List.all_eq_true] at h
 have:=h.2 m hm
 simp only[Xv,Bool.and_eq_true,decide_eq_true_eq] at this
 exact this.1
theorem Ztb {c:GConf} (h:Z8 c=true):1≤c.quantum∧c.quantum≤4:=by
 simp only[Z8,Bool.and_eq_true,decide_eq_true_eq] at h
 exact h.1.1.1.2
theorem Z4a {c:GConf} {i:Int} (h:Z8 c=true) (hm:Za c i=true):1≤Znq c i∧Znq c i≤4:=by
 obtain⟨m,_,h1,h2⟩:=Zxe hm
 rw[←h2];exact Zv1 h h1
theorem Z4q {a b:Int} (h1:1≤a) (h2:a≤4) (h3:1≤b) (h4:b≤4):1≤a*b∧a*b≤16:=by
 have:a=1∨a=2∨a=3∨a=4:=by omega
 rcases this with rfl|rfl|rfl|rfl<;>omega
theorem Zp2 {c:GConf} {i:Int} (h:Z8 c=true) (hm:Za c i=true):1≤Jv c i∧Jv c i≤16:=by
 unfold Jv
 rw[if_pos ⟨h,hm⟩]
 have h1:=Z4a h hm
 have h2:=Ztb h
 exact Z4q h1.1 h1.2 h2.1 h2.2
theorem Z8d {c:GConf} {i:Int}:Jv c i=0↔¬(Z8 c=true∧Za c i=true):=by
 constructor
 ·intro h hc
  have:=Zp2 hc.1 hc.2
  omega
 ·intro h;unfold Jv;rw[if_neg h]
theorem Zrn (c:GConf) (i:Int):0≤Jv c i∧Jv c i≤16:=by
 by_cases h:Z8 c=true∧Za c i=true
 ·have:=Zp2 h.1 h.2;omega
 ·rw[Z8d.2 h];omega
theorem Zno {c:GConf} (i:Int) (hl:c.masters.length < 1048577):decide (0≤i∧i≤subW (c.masters.length:Int) 1)=Za c i:=by
 rw[Yx (by omega) (by omega)]
 unfold Za
 congr 1
 apply propext
 omega
theorem Zk2 (c:GConf) (i:Int) (hl:c.masters.length < 1048577):Zef c i=some (Jv c i):=by
 unfold Zef
 rw[K6 c hl,Option.bind_some,Yk,Option.bind_some,Zno i hl]
 unfold Zg1
 by_cases h1:Z8 c=true
 ·by_cases h2:Za c i=true
  ·obtain⟨m,hm1,hm2,hm3⟩:=Zxe h2
   have hw:=Zv1 h1 hm2
   have hq:=Ztb h1
   have:=Z4q hw.1 hw.2 hq.1 hq.2
   simp only[h1,h2,hm1,Bool.not_true,Bool.false_eq_true,if_false,Option.bind_some]
   rw[Yy (by omega) (by omega)]
   simp[Jv,h1,h2,hm3]
  ·simp[Jv,h1,h2]
 ·simp[Jv,h1]
theorem Wv (c:GConf) (i:Int) (hl:c.masters.length < 1048577):Wb c i=some (Za c i):=by
 unfold Wb
 rw[Ym,Option.bind_some,Zno i hl]
theorem Zk3 (c:GConf) (i:Int) (hl:c.masters.length < 1048577):Zdz c i=some (Jv c i):=by
 rw[←Zk2 c i hl]
 unfold Zdz Zef
 rw[K6 c hl,Zac c hl,Wv c i hl,Yk,Zno i hl]
 rfl
theorem Zi1 (a b:Int):minI a b=min a b:=by unfold minI;omega
theorem Znt (a b:Int):maxI a b=max a b:=by unfold maxI;omega
theorem Xo {c:GConf} (h:Z8 c=true):1≤(c.masters.length:Int)∧(c.masters.length:Int)≤4:=by
 simp only[Z8,Bool.and_eq_true,decide_eq_true_eq] at h
 exact h.1.1.1.1
theorem Ke {c:GConf} (h:Z8 c=true):c.masters.length < 1048577:=by have:=Xo h;omega
instance:Inhabited GMConf:=⟨GMConf.z0⟩
instance:Inhabited GBucket:=⟨GBucket.z0⟩
theorem Zbb {c:GConf} {i:Int} (h:Z8 c=true) (hm:Za c i=true):Xv c (atI c.masters i)=true:=by
 simp only[Za,decide_eq_true_eq] at hm
 have:=Zen hm.1 hm.2
 simp only[Z8,Bool.and_eq_true,List.all_eq_true] at h
 exact h.2 _ this
theorem J9 {c:GConf} {m:GMConf} (h:Xv c m=true):-1≤m.every∧m.every≤1000∧0≤m.cap∧m.cap≤8:=by
 have h1:=Q5 c
 have h2:0≤2*Zz c*(Zo c:Int):=Int.mul_nonneg (by omega) (by omega)
 simp only[Xv,Bool.and_eq_true,decide_eq_true_eq] at h
 obtain⟨h3,h4⟩:=h
 split at h4
 ·simp only[Bool.and_eq_true,decide_eq_true_eq] at h4;omega
 ·simp only[Bool.and_eq_true,decide_eq_true_eq] at h4;omega
def Z5 (b:GBucket) (m:GMConf):Bool:=if m.prio then decide (0≤b.tokens∧b.tokens≤m.cap)&&decide (0≤b.count∧b.count < m.every) else decide (b.tokens=0)&&decide (b.count=0)
def Zgt (b:GBucket) (m:GMConf):GBucket:=if (m.prio&&Z5 b m)=true then (if b.count+1=m.every then ⟨min (b.tokens+1) m.cap,0⟩ else ⟨b.tokens,b.count+1⟩) else b
def Zeb (b:GBucket) (m:GMConf):GBucket×Bool:=if (m.prio&&Z5 b m&&decide (b.tokens≠0))=true then (⟨b.tokens - 1,b.count⟩,true) else (b,false)
def Zhp (b:GBucket) (m:GMConf):GBucket:=if (m.prio&&Z5 b m)=true then ⟨min (b.tokens+1) m.cap,b.count⟩ else b
def Zpd (m:GMConf):GBucket:=if m.prio then ⟨max m.cap 0,0⟩ else ⟨0,0⟩
theorem Z1z (b:GBucket) {m:GMConf} (h:-1≤m.every∧m.every≤1000):Zoa b m=some (Z5 b m):=by
 unfold Zoa Z5
 rw[Yk,Option.bind_some,Yk,Option.bind_some,Yx (by omega) (by omega)]
 by_cases h1:m.prio=true
 ·have e:(0≤b.count∧b.count≤m.every - 1)↔(0≤b.count∧b.count < m.every):=by omega
  by_cases h2:0≤b.tokens∧b.tokens≤m.cap
  ·simp[h1,h2,e]
  ·simp[h1,h2]
 ·simp[h1]
theorem Zs7 (b:GBucket) (m:GMConf):Zgg b m=some (Z5 b m):=by
 unfold Zgg Z5
 rw[Ym,Option.bind_some]
 by_cases h1:m.prio=true
 ·by_cases h2:0≤b.tokens∧b.tokens≤m.cap
  ·by_cases h3:0≤b.count<;>simp[h1,h2,h3]
  ·simp[h1,h2]
 ·simp[h1]
theorem Zm7 {b:GBucket} {c:GConf} {m:GMConf} (h:Z5 b m=true) (hm:Xv c m=true):0≤b.tokens∧b.tokens≤8∧0≤b.count∧b.count≤1000:=by
 have:=J9 hm
 unfold Z5 at h
 split at h<;>simp only[Bool.and_eq_true,decide_eq_true_eq] at h<;>omega
theorem Zqb (b:GBucket) (m:GMConf):Zgz b m=some (m.prio&&Z5 b m):=by
 unfold Zgz
 rw[Zs7,Option.bind_some]
 by_cases h1:m.prio=true<;>simp[h1]
theorem Zx4 (b:GBucket) {c:GConf} {m:GMConf} (h:Xv c m=true):Zhg b m=some (Zgt b m):=by
 unfold Zhg Zgt
 rw[Zqb,Option.bind_some]
 by_cases h1:(m.prio&&Z5 b m)=true
 ·have h2:Z5 b m=true:=by simp only[Bool.and_eq_true] at h1;exact h1.2
  have:=Zm7 h2 h
  rw[if_neg (by simp[h1]),if_pos h1,Zm (by omega) (by omega),Zm (by omega) (by omega),Zi1]
  by_cases h3:b.count+1=m.every<;>simp[h3]
 ·rw[if_pos (by cases hq:(m.prio&&Z5 b m)<;>simp_all),if_neg h1]
theorem Zxi (b:GBucket) {c:GConf} {m:GMConf} (h:Xv c m=true):Zhk b m=some (Zeb b m):=by
 unfold Zhk Zbh Zeb
 rw[Zqb,Option.bind_some]
 by_cases h1:(m.prio&&Z5 b m)=true
 ·have h2:Z5 b m=true:=by simp only[Bool.and_eq_true] at h1;exact h1.2
  have:=Zm7 h2 h
  rw[Yx (by omega) (by omega)]
  by_cases h3:b.tokens=0<;>simp[h1,h3]
 ·simp[h1]
theorem Zxc (b:GBucket) {c:GConf} {m:GMConf} (h:Xv c m=true):Zhb b m=some (Zhp b m):=by
 unfold Zhb Zhp
 rw[Zqb,Option.bind_some]
 by_cases h1:(m.prio&&Z5 b m)=true
 ·have h2:Z5 b m=true:=by simp only[Bool.and_eq_true] at h1;exact h1.2
  have h4:m.prio=true:=by simp only[Bool.and_eq_true] at h1;exact h1.1
  have:=Zm7 h2 h
  have h5:b.tokens≤m.cap:=by
   unfold Z5 at h2
   rw[if_pos h4] at h2
   simp only[Bool.and_eq_true,decide_eq_true_eq] at h2
   exact h2.1.2
  rw[if_pos h1,if_pos h1,Zm (by omega) (by omega)]
  by_cases h3:b.tokens < m.cap
  ·rw[if_pos (by simpa using h3),Int.min_eq_left (by omega)]
  ·rw[if_neg (by simpa using h3),Int.min_eq_right (by omega)]
   have:b.tokens=m.cap:=by omega
   rw[←this]
 ·rw[if_neg h1,if_neg h1]
theorem Zzq (m:GMConf):Zib m=some (Zpd m):=by
 unfold Zib Zpd
 rw[Znt]
 by_cases h1:m.prio=true<;>simp[h1]
theorem Ygd {c:GConf} {m:GMConf} (h:Xv c m=true) (hs:0 < Zz c∧(m.prio=true→0 < Zo c)):Z5 (Zpd m) m=true:=by
 have hm:=J9 h
 unfold Z5 Zpd
 by_cases h1:m.prio=true
 ·simp only[h1,if_true,Bool.and_eq_true,decide_eq_true_eq]
  simp only[Xv,h1,if_true,Bool.and_eq_true,decide_eq_true_eq] at h
  have h2:0 < Zz c*(Zo c:Int):=Int.mul_pos hs.1 (by have:=hs.2 h1;omega)
  have h3:2*Zz c*(Zo c:Int)=2*(Zz c*(Zo c:Int)):=Int.mul_assoc ..
  omega
 ·simp[h1]
theorem Yfv {b:GBucket} {c:GConf} {m:GMConf} (h:Z5 b m=true) (hm:Xv c m=true):Z5 (Zgt b m) m=true:=by
 have hb:=J9 hm
 have hn:=Zm7 h hm
 unfold Zgt
 split
 ·rename_i h1
  simp only[Bool.and_eq_true] at h1
  unfold Z5 at h
  rw[if_pos h1.1] at h
  simp only[Bool.and_eq_true,decide_eq_true_eq] at h
  split
  ·unfold Z5
   rw[if_pos h1.1]
   simp only[Bool.and_eq_true,decide_eq_true_eq]
   omega
  ·unfold Z5
   rw[if_pos h1.1]
   simp only[Bool.and_eq_true,decide_eq_true_eq]
   omega
 ·exact h
theorem Ygf {b:GBucket} {c:GConf} {m:GMConf} (h:Z5 b m=true) (hm:Xv c m=true):Z5 (Zeb b m).1 m=true:=by
 unfold Zeb
 split
 ·rename_i h1
  simp only[Bool.and_eq_true,decide_eq_true_eq] at h1
  unfold Z5 at h ⊢
  rw[if_pos h1.1.1] at h ⊢
  simp only[Bool.and_eq_true,decide_eq_true_eq] at h ⊢
  omega
 ·exact h
theorem Ycz {b:GBucket} {c:GConf} {m:GMConf} (h:Z5 b m=true) (hm:Xv c m=true):Z5 (Zhp b m) m=true:=by
 have hb:=J9 hm
 unfold Zhp
 split
 ·rename_i h1
  simp only[Bool.and_eq_true] at h1
  unfold Z5 at h ⊢
  rw[if_pos h1.1] at h ⊢
  simp only[Bool.and_eq_true,decide_eq_true_eq] at h ⊢
  omega
 ·exact h
def wrrG (w:GWrr) (c:GConf):Bool:=Z8 c&&(Za c w.at_&&decide (0≤w.credit∧w.credit≤Jv c w.at_))
theorem Z8f (w:GWrr) (c:GConf) (hl:c.masters.length < 1048577):Zuc w c=some (wrrG w c):=by
 unfold Zuc wrrG
 rw[K6 c hl,Option.bind_some,Yk,Option.bind_some,Zno _ hl,Zk2 c _ hl,Option.bind_some,Yk,Option.bind_some]
 by_cases h1:Z8 c=true<;>by_cases h2:Za c w.at_=true<;>simp[h1,h2]
theorem Zss (w:GWrr) (c:GConf) (hl:c.masters.length < 1048577):Zf4 w c=some (wrrG w c):=by
 unfold Zf4 wrrG
 rw[Zac c hl,Option.bind_some,Wv c _ hl,Option.bind_some,Zk3 c _ hl,Option.bind_some,Ym,Option.bind_some]
 by_cases h1:Z8 c=true<;>by_cases h2:Za c w.at_=true<;>simp[h1,h2]
def Jt (w:GWrr) (c:GConf) (wants:List Bool):Nat→Int→GWrr×Int
 | 0,_=>(⟨w.at_,0⟩,-1)
 | r+1,k=>if atI wants ((w.at_+k) % (wants.length:Int))=true then (⟨(w.at_+k) % (wants.length:Int),Jv c ((w.at_+k) % (wants.length:Int)) - 1⟩,(w.at_+k) % (wants.length:Int)) else Jt w c wants r (k+1)
def X6 (w:GWrr) (c:GConf) (wants:List Bool):GWrr×Int:=if (decide (0 < w.credit)&&atI wants w.at_)=true then (⟨w.at_,w.credit - 1⟩,w.at_) else Jt w c wants wants.length 1
def Zc6 (w:GWrr) (c:GConf) (who:Int):GWrr:=if w.at_=who then ⟨w.at_,min (w.credit+1) (Jv c who)⟩ else w
theorem Zab {w:GWrr} {c:GConf} (h:wrrG w c=true):Z8 c=true∧Za c w.at_=true∧0≤w.credit∧w.credit≤Jv c w.at_:=by
 simp only[wrrG,Bool.and_eq_true,decide_eq_true_eq] at h
 exact⟨h.1,h.2.1,h.2.2.1,h.2.2.2⟩
theorem Yg0 (w:GWrr) (c:GConf) (wants:List Bool) (h:wrrG w c=true) (hn:wants.length=c.masters.length):∀(m r:Nat) (k:Int),r < m→k+r=wants.length+1→1≤k→Zfw w c wants m k=some (Jt w c wants r k)∧Zp4 w c wants m k=some (Jt w c wants r k):=by
 obtain⟨hc,hm,h1,h2⟩:=Zab h
 have hl:=Xo hc
 have hl2:=Ke hc
 simp only[Za,decide_eq_true_eq] at hm
 intro m
 induction m with
 | zero=>intro r k hr;omega
 | succ m ih=>
  intro r k hr hk h1k
  show Zip w c wants _ k=_∧Zin w c wants _ k=_
  unfold Zip Zin
  rw[←hn]
  cases r with
  | zero=>
   rw[if_neg (by simp;omega),if_neg (by simp;omega)]
   exact⟨rfl,rfl⟩
  | succ r=>
   have h0:0≤(w.at_+k) % (wants.length:Int):=Int.emod_nonneg _ (by omega)
   have h0':(w.at_+k) % (wants.length:Int) < (wants.length:Int):=Int.emod_lt_of_pos _ (by omega)
   have hmm:Za c ((w.at_+k) % (wants.length:Int))=true:=by
    simp only[Za,decide_eq_true_eq];omega
   have ht:=Zp2 hc hmm
   rw[if_pos (by simp;omega),if_pos (by simp;omega),Zgc (by omega),Option.bind_some,Option.bind_some,Zm (a:=w.at_) (by omega) (by omega),Kq (by omega),Xj h0 h0',Option.bind_some,Option.bind_some,Zk3 c _ hl2,Zk2 c _ hl2,Option.bind_some,Yx (by omega) (by omega),Zm (a:=k) (by omega) (by omega)]
   have:=ih r (k+1) (by omega) (by omega) (by omega)
   simp only[Jt]
   by_cases hq:atI wants ((w.at_+k) % (wants.length:Int))=true
   ·simp[hq]
   ·simp only[hq,if_false,Bool.false_eq_true]
    exact this
theorem Z3w (w:GWrr) (c:GConf) (wants:List Bool) (h:wrrG w c=true) (hn:wants.length=c.masters.length):Zlu w c wants=some (X6 w c wants):=by
 obtain⟨hc,hm,h1,h2⟩:=Zab h
 have hl:=Xo hc
 have hl2:=Ke hc
 simp only[Za,decide_eq_true_eq] at hm
 have hs:=(Yg0 w c wants h hn FU wants.length 1 (by have:=Wj;omega) (by omega) (by omega)).1
 have ht:=Zrn c w.at_
 unfold Zlu Zfi Zfs X6
 rw[Zss w c hl2,Option.bind_some,h,Xj hm.1 (by omega),Option.bind_some,hs,Yx (by omega) (by omega)]
 have h3:¬((wants.length:Int)≠(c.masters.length:Int)):=by omega
 by_cases h4:0 < w.credit<;>by_cases h5:atI wants w.at_=true<;>simp[h3,h4,h5]
theorem Z36 (w:GWrr) (c:GConf) (who:Int) (h:wrrG w c=true):Zlb w c who=some (Zc6 w c who):=by
 obtain⟨hc,hm,h1,h2⟩:=Zab h
 have hl2:=Ke hc
 have ht:=Zrn c w.at_
 unfold Zlb Ze7 Zc6
 rw[Zss w c hl2,Option.bind_some,h,Zk3 c _ hl2,Option.bind_some,Zm (by omega) (by omega),Zi1]
 by_cases h4:w.at_=who
 ·simp[h4]
 ·have:¬who=w.at_:=fun h=>h4 h.symm
  simp[h4,this]
theorem Yc3 {w:GWrr} {c:GConf} (who:Int) (h:wrrG w c=true):wrrG (Zc6 w c who) c=true:=by
 obtain⟨hc,hm,h1,h2⟩:=Zab h
 unfold Zc6
 split
 ·rename_i h4
  subst h4
  have ht:=Zrn c w.at_
  simp only[wrrG,Bool.and_eq_true,decide_eq_true_eq]
  exact⟨hc,hm,by omega,by omega⟩
 ·exact h
theorem Ydr {w:GWrr} {c:GConf} {wants:List Bool} (h:wrrG w c=true) (hn:wants.length=c.masters.length):∀(r:Nat) (k:Int),1≤k→wrrG (Jt w c wants r k).1 c=true∧((Jt w c wants r k).2=-1∨(Za c (Jt w c wants r k).2=true∧atI wants (Jt w c wants r k).2=true)):=by
 obtain⟨hc,hm,h1,h2⟩:=Zab h
 have hl:=Xo hc
 intro r
 induction r with
 | zero=>
  intro k _
  refine⟨?_,.inl rfl⟩
  simp only[Jt]
  simp only[wrrG,Bool.and_eq_true,decide_eq_true_eq]
  exact⟨hc,hm,by omega,by omega⟩
 | succ r ih=>
  intro k hk
  simp only[Jt]
  split
  ·rename_i hq
   have h0:0≤(w.at_+k) % (wants.length:Int):=Int.emod_nonneg _ (by omega)
   have h0':(w.at_+k) % (wants.length:Int) < (wants.length:Int):=Int.emod_lt_of_pos _ (by omega)
   have hmm:Za c ((w.at_+k) % (wants.length:Int))=true:=by
    simp only[Za,decide_eq_true_eq];omega
   have ht:=Zp2 hc hmm
   refine⟨?_,.inr ⟨hmm,hq⟩⟩
   simp only[wrrG,Bool.and_eq_true,decide_eq_true_eq]
   exact⟨hc,hmm,by omega,by omega⟩
  ·exact ih (k+1) (by omega)
theorem Z2m {w:GWrr} {c:GConf} {wants:List Bool} (h:wrrG w c=true) (hn:wants.length=c.masters.length):wrrG (X6 w c wants).1 c=true∧((X6 w c wants).2=-1∨(Za c (X6 w c wants).2=true∧atI wants (X6 w c wants).2=true)):=by
 obtain⟨hc,hm,h1,h2⟩:=Zab h
 unfold X6
 split
 ·rename_i h3
  simp only[Bool.and_eq_true,decide_eq_true_eq] at h3
  refine⟨?_,.inr ⟨hm,h3.2⟩⟩
  simp only[wrrG,Bool.and_eq_true,decide_eq_true_eq]
  exact⟨hc,hm,by omega,by omega⟩
 ·exact Ydr h hn _ _ (by omega)
def Yb (s:Int):Int:=if s=0 then 1 else if s=1 then 2 else if s=2 then 4 else 0
def Zc5 (s:Int):Int:=if s=0 then 256 else if s=1 then 65536 else if s=2 then 4294967296 else 0
def Yo (b:Int):Int:=if b=0 then 1 else if b=1 then 4 else if b=2 then 4 else if b=3 then 8 else 0
theorem Zl3 (s:Int):0≤Yb s∧Yb s≤4:=by unfold Yb;repeat' split<;>omega
theorem Zti (s:Int):0≤Zc5 s∧Zc5 s≤4294967296:=by unfold Zc5;repeat' split<;>omega
theorem Zdg (b:Int):0≤Yo b∧Yo b≤8:=by unfold Yo;repeat' split<;>omega
theorem Zcw (s:Int):Q2 s=some (Yb s):=by
 unfold Q2
 rw[Yk,Option.bind_some]
 by_cases h:0≤s∧s≤2
 ·have:s=0∨s=1∨s=2:=by omega
  rcases this with rfl|rfl|rfl<;>rfl
 ·have:Yb s=0:=by unfold Yb;repeat' split<;>omega
  simp[h,this]
theorem Zcz (s:Int):Ql s=some (Yb s):=by
 rw[←Zcw]
 unfold Ql Q2
 rw[Ym,Yk]
theorem Za0 (b:Int):Qm b=some (Yo b):=by
 unfold Qm
 rw[Yk,Option.bind_some]
 by_cases h:0≤b∧b≤3
 ·have:b=0∨b=1∨b=2∨b=3:=by omega
  rcases this with rfl|rfl|rfl|rfl<;>rfl
 ·have:Yo b=0:=by unfold Yo;repeat' split<;>omega
  simp[h,this]
theorem Zjf (b:Int):Zb4 b=some (Yo b):=by
 rw[←Za0]
 unfold Zb4 Qm
 rw[Ym,Yk]
theorem Zc0 (s:Int):Wx s=some (Zc5 s):=by
 unfold Wx
 rw[Zcw,Option.bind_some,Option.bind_some]
 by_cases h:s=0∨s=1∨s=2
 ·rcases h with rfl|rfl|rfl<;>rfl
 ·have h1:Yb s=0:=by unfold Yb;repeat' split<;>omega
  have h2:Zc5 s=0:=by unfold Zc5;repeat' split<;>omega
  simp[h1,h2]
theorem Zug (s:Int):Zht s=some (Zc5 s):=by
 rw[←Zc0]
 unfold Zht Wx
 simp only[Zcz,Zcw]
def numG (v s:Int):Bool:=decide (0≤v∧v < Zc5 s)
theorem Zdj (v s:Int):Zaa v s=some (numG v s):=by
 have:=Zti s
 unfold Zaa numG
 rw[Zug,Option.bind_some,Ym,Option.bind_some,Yx (by omega) (by omega)]
 congr 2
 apply propext
 omega
theorem Zrl (v s:Int):Zj v 0 (subW (Zc5 s) 1)=some (numG v s):=by
 have:=Zti s
 unfold numG
 rw[Yk,Yx (by omega) (by omega)]
 congr 2
 apply propext
 omega
def Xc (a s:Int):Bool:=decide (0 < Yb s)&&(decide (0≤a)&&decide (a % Yb s=0))
theorem Ztz (a s:Int):J4 a s=some (Xc a s):=by
 unfold J4 Xc
 rw[Zcw,Option.bind_some,Option.bind_some]
 by_cases h1:0 < Yb s
 ·by_cases h2:0≤a
  ·rw[Zgc (by omega),Kq h2];simp[h1,h2]
  ·simp[h1,h2]
 ·simp[h1]
theorem Zge (s:Int):0 < Yb s↔(0≤s∧s≤2):=by
 unfold Yb
 repeat' split<;>omega
theorem Zjr (a s:Int):Zcf a s=some (Xc a s):=by
 unfold Zcf Xc
 rw[Ym,Option.bind_some,Zcz,Option.bind_some]
 by_cases h1:0 < Yb s
 ·have h3:=(Zge s).1 h1
  by_cases h2:0≤a
  ·rw[Zgc (by omega),Kq h2];simp[h1,h2,h3]
  ·simp[h1,h2,h3]
 ·have h3:¬(0≤s∧s≤2):=fun h=>h1 ((Zge s).2 h)
  simp[h1,h3]
def Ze5 (a s b:Int):Int:=if (Xc a s=true∧a < 512)∧Yo b≠0 then (if b=2∧(a+Yb s) % (4*Yb s)=0 then a+Yb s - 4*Yb s else a+Yb s) else -1
theorem Ki {a s:Int} (h:Xc a s=true):0 < Yb s∧0≤a∧a % Yb s=0:=by
 simpa [Xc,Bool.and_eq_true,decide_eq_true_eq] using h
theorem Z14 (a s b:Int):Zgo a s b=some (Ze5 a s b):=by
 have hb:=Zl3 s
 unfold Zgo Zap Zec Ze5
 rw[Zcw,Option.bind_some,Ztz,Option.bind_some,Yk,Option.bind_some,Za0,Option.bind_some]
 by_cases h1:Xc a s=true
 ·obtain⟨h2,h3,h4⟩:=Ki h1
  by_cases h5:a < 512
  ·have h6:0≤a∧a≤511:=by omega
   rw[Yy (by omega) (by omega),Zm (by omega) (by omega),Yx (by omega) (by omega),Zgc (by omega),Kq (by omega)]
   by_cases h7:Yo b=0
   ·simp[h1,h5,h6,h7]
   ·by_cases h8:b=2
    ·subst h8
     by_cases h9:(a+Yb s) % (4*Yb s)=0<;>simp[h1,h5,h6,h7,h9]
    ·simp[h1,h5,h6,h7,h8]
  ·have h6:¬(0≤a∧a≤511):=by omega
   simp[h1,h5,h6]
 ·simp[h1]
theorem Z1l (a s b:Int):Zjd a s b=some (Ze5 a s b):=by
 have hb:=Zl3 s
 unfold Zjd Zax Ze5
 rw[Zjr,Option.bind_some,Zcz,Option.bind_some,Option.bind_some,Zjf,Option.bind_some]
 by_cases h1:Xc a s=true
 ·obtain⟨h2,h3,h4⟩:=Ki h1
  by_cases h5:a < 512
  ·have h6:¬a≥512:=by omega
   rw[Yy (by omega) (by omega),Zm (by omega) (by omega),Yx (by omega) (by omega),Zgc (by omega),Kq (by omega)]
   by_cases h7:Yo b=0
   ·simp[h1,h5,h6,h7]
   ·by_cases h8:b=2
    ·subst h8
     by_cases h9:(a+Yb s) % (4*Yb s)=0<;>simp[h1,h5,h6,h7,h9]
    ·simp[h1,h5,h6,h7,h8]
  ·have h6:a≥512:=by omega
   simp[h1,h5,h6]
 ·simp[h1]
theorem Z54 {a s b:Int} (h:0≤Ze5 a s b):Xc a s=true∧a < 512:=by
 unfold Ze5 at h
 split at h
 ·rename_i h1;exact h1.1
 ·omega
def Jf (s b:Int):Nat→Int→Option (List Int)
 | 0,_=>some []
 | n+1,a=>if Ze5 a s b < 0 then none else (Jf s b n (Ze5 a s b)).map (a::·)
def Qn (a s b:Int):List Int:=(Jf s b (Yo b).toNat a).getD []
theorem Zpq (a s b:Int):Zdc a s b=some (Qn a s b):=by
 have hb:=Zdg b
 unfold Zdc
 rw[Zjf,Option.bind_some]
 have key:∀(n m:Nat) (x:Int) (out:List Int) (k:Nat),n < m→(k:Int)+n=Yo b→out.length=k→Zbp a s b m x out (Yo b) k=some (match Jf s b n x with|some l=>out++l|none=>[]):=by
  intro n
  induction n with
  | zero=>
   intro m x out k hm hk ho
   obtain⟨m,rfl⟩:∃m',m=m'+1:=⟨m - 1,by omega⟩
   show Kl a s b _ x out (Yo b) k=_
   unfold Kl
   rw[if_neg (by simp;omega)]
   simp[Jf]
  | succ n ih=>
   intro m x out k hm hk ho
   obtain⟨m,rfl⟩:∃m',m=m'+1:=⟨m - 1,by omega⟩
   show Kl a s b _ x out (Yo b) k=_
   unfold Kl
   rw[if_pos (by simp;omega),Z1l,Option.bind_some]
   simp only[Jf]
   by_cases h1:Ze5 x s b < 0
   ·rw[if_pos (by simpa using h1),if_pos h1]
   ·rw[if_neg (by simpa using h1),if_neg h1,Wl (by simp;omega) (by simp;omega),Option.bind_some,Y5 (by omega),ih m _ _ (k+1) (by omega) (by omega) (by simp[ho])]
    cases Jf s b n (Ze5 x s b)<;>simp
 have:=key (Yo b).toNat FU a [] 0 (by have:=Wj;omega) (by omega) rfl
 rw[show ((0:Nat):Int)=0 from rfl] at this
 rw[this]
 unfold Qn
 cases Jf s b (Yo b).toNat a<;>simp
theorem Zw6 (a s b:Int):Zg6 a s b=some (Qn a s b):=by
 have hb:=Zdg b
 unfold Zg6
 have key:∀(n m:Nat) (x:Int) (out:List Int),n < m→(out.length:Int)+n=Yo b→Zbo a s b m x out=some (match Jf s b n x with|some l=>out++l|none=>[]):=by
  intro n
  induction n with
  | zero=>
   intro m x out hm hk
   obtain⟨m,rfl⟩:∃m',m=m'+1:=⟨m - 1,by omega⟩
   show Kn a s b _ x out=_
   unfold Kn Jb
   have h1:¬((out.length:Int) < Yo b):=by omega
   simp[Za0,h1,Jf]
  | succ n ih=>
   intro m x out hm hk
   obtain⟨m,rfl⟩:∃m',m=m'+1:=⟨m - 1,by omega⟩
   show Kn a s b _ x out=_
   unfold Kn Jb
   have h1:(out.length:Int) < Yo b:=by omega
   simp only[Za0,Z14,Option.bind_some,h1,decide_true,if_true,Jf,decide_eq_true_eq]
   by_cases h2:Ze5 x s b < 0
   ·have h3:¬(Ze5 x s b≥0):=by omega
    rw[if_neg h3,if_pos h2]
   ·have h3:Ze5 x s b≥0:=by omega
    rw[if_pos h3,if_neg h2,Wl (by simp;omega) (by simp;omega),Option.bind_some,ih m _ _ (by omega) (by simp;omega)]
    cases Jf s b n (Ze5 x s b)<;>simp
 have:=key (Yo b).toNat FU a [] (by have:=Wj;omega) (by simp;omega)
 rw[this]
 unfold Qn
 cases Jf s b (Yo b).toNat a<;>simp
theorem Z0u {s b:Int}:∀{n:Nat} {a:Int} {l:List Int},Jf s b n a=some l→l.length=n∧(∀x∈l,Xc x s=true∧x < 512)∧(0 < n→l.head?=some a):=by
 intro n
 induction n with
 | zero=>intro a l h;simp only[Jf,Option.some.injEq] at h;subst h;simp
 | succ n ih=>
  intro a l h
  simp only[Jf] at h
  split at h
  ·cases h
  ·rename_i h1
   obtain⟨l',h2,rfl⟩:=Option.map_eq_some_iff.1 h
   obtain⟨h3,h4,_⟩:=ih h2
   refine⟨by simp[h3],fun x hx=>?_,fun _=>rfl⟩
   rcases List.mem_cons.1 hx with rfl|hx
   ·exact Z54 (s:=s) (b:=b) (by omega)
   ·exact h4 x hx
theorem Zww (a s b:Int):Qn a s b=[]∨((Qn a s b).length:Int)=Yo b:=by
 unfold Qn
 have hb:=Zdg b
 cases h:Jf s b (Yo b).toNat a with
 | none=>exact .inl rfl
 | some l=>
  have:=(Z0u h).1
  exact .inr (by simp only[Option.getD_some];omega)
theorem Zsu {a s b x:Int} (h:x∈Qn a s b):Xc x s=true∧0≤x∧x < 512:=by
 unfold Qn at h
 cases h2:Jf s b (Yo b).toNat a with
 | none=>rw[h2] at h;simp at h
 | some l=>
  rw[h2] at h
  have:=(Z0u h2).2.1 x h
  exact⟨this.1,(Ki this.1).2.1,this.2⟩
theorem Z0h (a s b:Int):(Qn a s b).length≤8:=by
 have:=Zdg b
 rcases Zww a s b with h|h
 ·rw[h];simp
 ·omega
def Zhx (a s b:Int):Bool:=(Qn a s b).all (fun x=>decide (x / 64=atI (Qn a s b) 0 / 64))&&decide (Qn a s b≠[])
theorem Zu9 {x:Int} (h0:0≤x) (h1:x < 512):quoW x 64=x / 64:=Z7k h0 (by omega) (by omega)
theorem Z39 (a s b:Int):Zk8 a s b=some (Zhx a s b):=by
 unfold Zk8 Zhx
 rw[Zpq,Option.bind_some]
 generalize hA:Qn a s b=l
 have hm:∀x∈l,0≤x∧x < 512:=fun x hx=>by rw[←hA] at hx;exact (Zsu hx).2
 have hl:l.length≤8:=by rw[←hA];exact Z0h a s b
 have key:∀(m k:Nat),k≤l.length→l.length - k < m→Zfh a s b m l (l.length:Int) k=some ((l.drop k).all (fun x=>decide (x / 64=atI l 0 / 64))&&decide (l≠[])):=by
  intro m
  induction m with
  | zero=>intro k _ h;omega
  | succ m ih=>
   intro k hk hm2
   show Zij a s b _ l (l.length:Int) k=_
   unfold Zij
   by_cases hc:k < l.length
   ·have h0:=hm _ (List.getElem_mem hc)
    have h1:=hm _ (List.getElem_mem (by omega:0 < l.length))
    rw[if_pos (by simpa using hc),Yi hc,Option.bind_some,show (0:Int)=((0:Nat):Int) from rfl,Yi (by omega:0 < l.length),Option.bind_some,Zu9 h0.1 h0.2,Zu9 h1.1 h1.2,Yh (by omega:0 < l.length),List.drop_eq_getElem_cons hc,List.all_cons]
    by_cases hq:(l[k]:Int) / (64:Int)=(l[0]:Int) / (64:Int)
    ·rw[if_neg (by simpa using hq),Y5 (by omega),ih (k+1) (by omega) (by omega),show (0:Int)=((0:Nat):Int) from rfl,Yh (by omega:0 < l.length),decide_eq_true hq,Bool.true_and]
    ·rw[if_pos (by simpa using hq),decide_eq_false hq,Bool.false_and,Bool.false_and]
   ·rw[if_neg (by simpa using hc),List.drop_eq_nil_of_le (by omega)]
    simp[List.length_pos_iff]
 have:=key FU 0 (Nat.zero_le _) (by have:=Wj;omega)
 simpa using this
theorem Ztu (a s b:Int):Zhs a s b=some (Zhx a s b):=by
 unfold Zhs Zhx
 rw[Zw6,Option.bind_some]
 generalize hA:Qn a s b=l
 have hm:∀x∈l,0≤x∧x < 512:=fun x hx=>by rw[←hA] at hx;exact (Zsu hx).2
 have hl:l.length≤8:=by rw[←hA];exact Z0h a s b
 have key:∀(m k:Nat),k≤l.length→l.length - k < m→Zfu a s b m l k=some ((l.drop k).all (fun x=>decide (x / 64=atI l 0 / 64))&&decide (l≠[])):=by
  intro m
  induction m with
  | zero=>intro k _ h;omega
  | succ m ih=>
   intro k hk hm2
   show Zik a s b _ l k=_
   unfold Zik
   by_cases hc:k < l.length
   ·have h0:=hm _ (List.getElem_mem hc)
    have h1:=hm _ (List.getElem_mem (by omega:0 < l.length))
    rw[if_pos (by simpa using hc),Yi hc,Option.bind_some,show (0:Int)=((0:Nat):Int) from rfl,Yi (by omega:0 < l.length),Option.bind_some,Zu9 h0.1 h0.2,Zu9 h1.1 h1.2,Yh (by omega:0 < l.length),List.drop_eq_getElem_cons hc,List.all_cons]
    by_cases hq:(l[k]:Int) / (64:Int)=(l[0]:Int) / (64:Int)
    ·rw[if_neg (by simpa using hq),Y5 (by omega),ih (k+1) (by omega) (by omega),show (0:Int)=((0:Nat):Int) from rfl,Yh (by omega:0 < l.length),decide_eq_true hq,Bool.true_and]
    ·rw[if_pos (by simpa using hq),decide_eq_false hq,Bool.false_and,Bool.false_and]
   ·rw[if_neg (by simpa using hc),List.drop_eq_nil_of_le (by omega)]
    simp[List.length_pos_iff]
 have:=key FU 0 (Nat.zero_le _) (by have:=Wj;omega)
 simpa using this
instance:Inhabited GReq:=⟨GReq.z0⟩
def reqG (r:GReq):Bool:=Zhx r.addr r.size r.burst&&(decide ((r.data_.length:Int)=if r.write then Yo r.burst else 0)&&r.data_.all fun v=>numG v r.size)
def GReq.sm (r:GReq):Prop:=r.data_.length < 1048577
theorem Zrt (r:GReq) (hs:r.sm):Zf3 r=some (reqG r):=by
 unfold GReq.sm at hs
 have hf:Xf r.data_ r=some (!r.data_.all fun v=>numG v r.size):=by
  unfold Xf W2
  refine Zpv r.data_ (by omega) (fun v=>Zls v r) (fun v=>numG v r.size) (fun v _=>?_) _ (fun m i=>rfl)
  unfold Zls
  rw[Zdj];rfl
 unfold Zf3 Zie reqG
 rw[Zjf,Option.bind_some,Z39,Option.bind_some,hf,Option.bind_some,Bool.not_not]
 by_cases h1:Zhx r.addr r.size r.burst=true
 ·by_cases h2:r.write=true
  ·by_cases h3:(r.data_.length:Int)=Yo r.burst<;>simp[h1,h2,h3]
  ·by_cases h3:r.data_=[]<;>simp[h1,h2,h3]
 ·by_cases h2:r.write=true<;>simp[h1,h2]
theorem Zw5 (r:GReq) (hs:r.sm):Zl2 r=some (reqG r):=by
 unfold GReq.sm at hs
 unfold Zl2
 rw[Ztu,Option.bind_some]
 have hb:=Zdg r.burst
 have key:∀(m k:Nat),k≤r.data_.length→r.data_.length - k < m→Zh7 r m k=some (decide ((r.data_.length:Int)=if r.write then Yo r.burst else 0)&&(r.data_.drop k).all fun v=>numG v r.size):=by
  intro m
  induction m with
  | zero=>intro k _ h;omega
  | succ m ih=>
   intro k hk hm
   show Zku r _ k=_
   unfold Zku
   by_cases hc:k < r.data_.length
   ·rw[if_pos (by simpa using hc),Yi hc,Option.bind_some,Zc0,Option.bind_some,Zrl,Option.bind_some,List.drop_eq_getElem_cons hc,List.all_cons]
    by_cases hq:numG r.data_[k] r.size=true
    ·rw[if_neg (by simp[hq]),Y5 (by omega),ih (k+1) (by omega) (by omega)]
     simp[hq]
    ·rw[if_pos (by simp[hq])]
     simp[hq]
   ·rw[if_neg (by simpa using hc),List.drop_eq_nil_of_le (by omega),Za0]
    cases h2:r.write<;>simp only[if_true,if_false,Bool.false_eq_true,Option.bind_some,List.all_nil,Bool.and_true]<;>generalize decide ((r.data_.length:Int)=0)=x<;>generalize decide ((r.data_.length:Int)=Yo r.burst)=y<;>cases x<;>cases y<;>rfl
 have:=key FU 0 (Nat.zero_le _) (by have:=Wj;omega)
 unfold reqG
 by_cases h1:Zhx r.addr r.size r.burst=true
 ·rw[if_neg (by simp[h1]),show (0:Int)=((0:Nat):Int) from rfl,this]
  simp[h1]
 ·rw[if_pos (by simp[h1])]
  simp[h1]
theorem Zgb {r:GReq} (h:reqG r=true):Zhx r.addr r.size r.burst=true∧(r.data_.length:Int)=(if r.write then Yo r.burst else 0)∧∀v∈r.data_,numG v r.size=true:=by
 simp only[reqG,Bool.and_eq_true,decide_eq_true_eq,List.all_eq_true] at h
 exact⟨h.1,h.2.1,h.2.2⟩
theorem Zl6 {a s b:Int} (h:Zhx a s b=true):((Qn a s b).length:Int)=Yo b∧1≤Yo b:=by
 simp only[Zhx,Bool.and_eq_true,decide_eq_true_eq] at h
 rcases Zww a s b with h1|h1
 ·exact absurd h1 h.2
 ·have:0 < (Qn a s b).length:=List.length_pos_iff.2 h.2
  omega
theorem Yct {r:GReq} (h:reqG r=true):r.sm:=by
 have:=(Zgb h).2.1
 have hb:=Zdg r.burst
 unfold GReq.sm
 split at this<;>omega
theorem Zuv (r:GReq) (hs:r.sm):Zdq r=some r:=by
 unfold GReq.sm at hs
 unfold Zdq Yf
 rw[Wl (by simp;omega) (by simp;omega)]
 rfl
instance:Inhabited GMst:=⟨GMst.z0⟩
def Ze (m:GMst):Int:=if m.queue=[] then 0 else Yo (atI m.queue 0).burst
theorem Zne (m:GMst):0≤Ze m∧Ze m≤8:=by
 unfold Ze
 have:=Zdg (atI m.queue 0).burst
 split<;>omega
def Zml (m:GMst):Bool:=decide (m.queue.length≤4)&&(decide (0≤m.tries)&&(m.queue.all reqG&&
 (if m.queue=[] then decide (m.beat=0)&&(decide (m.done=0)&&(decide (m.tries=0)&&(!m.parted&&!m.broken))) else decide (0≤m.done∧m.done≤Ze m - 1)&&decide (m.done≤m.beat∧m.beat≤min (m.done+2) (Ze m)))))
def GMst.sm (m:GMst):Prop:=m.queue.length < 1048577∧∀r∈m.queue,r.sm
structure RightP (m:GMst):Prop where
 len:m.queue.length≤4
 tries:0≤m.tries
 reqs:∀r∈m.queue,reqG r=true
 none:m.queue=[]→m.beat=0∧m.done=0∧m.tries=0∧m.parted=false∧m.broken=false
 some:m.queue≠[]→0≤m.done∧m.done < Ze m∧m.done≤m.beat∧m.beat≤m.done+2∧m.beat≤Ze m
theorem Zad {m:GMst}:Zml m=true↔RightP m:=by
 unfold Zml
 by_cases h:m.queue=[]
 ·constructor
  ·intro h1
   simp only[h,if_true,Bool.and_eq_true,decide_eq_true_eq,Bool.not_eq_true'] at h1
   exact⟨by simp[h],h1.2.1,by simp[h],fun _=>⟨h1.2.2.2.1,h1.2.2.2.2.1,h1.2.2.2.2.2.1,h1.2.2.2.2.2.2.1,h1.2.2.2.2.2.2.2⟩,fun h2=>absurd h h2⟩
  ·intro h1
   obtain⟨h2,h3,h4,h5,h6⟩:=h1.none h
   simp[h,h2,h3,h4,h5,h6]
 ·constructor
  ·intro h1
   rw[if_neg h] at h1
   simp only[Bool.and_eq_true,decide_eq_true_eq,List.all_eq_true] at h1
   exact⟨h1.1,h1.2.1,h1.2.2.1,fun h2=>absurd h2 h,fun _=>by omega⟩
  ·intro h1
   have h2:=h1.some h
   rw[if_neg h]
   simp only[Bool.and_eq_true,decide_eq_true_eq,List.all_eq_true]
   exact⟨h1.len,h1.tries,h1.reqs,by omega,by omega⟩
theorem RightP.sm {m:GMst} (h:RightP m):m.sm:=⟨by have:=h.len;omega,fun r hr=>Yct (h.reqs r hr)⟩
theorem Zng (m:GMst):Kh m=some (Ze m):=by
 unfold Kh Ze
 by_cases h:m.queue=[]
 ·simp[h]
 ·have h1:0 < m.queue.length:=List.length_pos_iff.2 h
  rw[if_neg (by simpa using h),if_neg h,Xj (by omega) (by omega),Option.bind_some,Zjf]
  rfl
theorem Z80 (m:GMst):Zjx m=some (Ze m):=by
 unfold Zjx Ze
 by_cases h:m.queue=[]
 ·simp[h]
 ·have h1:0 < m.queue.length:=List.length_pos_iff.2 h
  rw[if_neg (by simpa using h),if_neg h,Xj (by omega) (by omega),Option.bind_some,Za0]
  rfl
theorem Kg (m:GMst) (hs:m.sm):Wr m=some (Zml m):=by
 have hf:Yz m.queue=some (!m.queue.all reqG):=by
  unfold Yz X2
  refine Zpv m.queue (by have:=hs.1;omega) Zbn reqG (fun r hr=>?_) _ (fun m i=>rfl)
  unfold Zbn
  rw[Zrt r (hs.2 r hr)];rfl
 have hb:=Zne m
 have hJ:Xg m false=some (if m.queue=[] then decide (m.beat=0)&&(decide (m.done=0)&&(decide (m.tries=0)&&(!m.parted&&!m.broken))) else decide (0≤m.done∧m.done≤Ze m - 1)&&decide (m.done≤m.beat∧m.beat≤min (m.done+2) (Ze m))):=by
  unfold Xg
  rw[Zng,Option.bind_some,Option.bind_some,Ym,Option.bind_some,Ym,Option.bind_some,Yx (by omega) (by omega)]
  by_cases h:m.queue=[]
  ·rw[if_neg (by simp),if_pos (by simpa using h),if_pos h]
   by_cases h1:m.beat=0<;>by_cases h2:m.done=0<;>by_cases h3:m.tries=0<;>by_cases h4:m.parted=true<;>simp[h1,h2,h3,h4]
  ·rw[if_neg (by simp),if_neg (by simpa using h),if_neg h]
   by_cases h1:0≤m.done∧m.done≤Ze m - 1
   ·rw[Zm (by omega) (by omega),Zi1]
    simp[h1]
   ·simp[h1]
 unfold Wr Zml
 rw[hf,Option.bind_some]
 by_cases h1:(m.queue.length:Int) > 4
 ·have h2:¬m.queue.length≤4:=by omega
  simp[h1,h2,Xg]
 ·have h2:m.queue.length≤4:=by omega
  by_cases h3:m.tries < 0
  ·have h4:¬0≤m.tries:=by omega
   simp[h1,h2,h3,h4,Xg]
  ·have h4:0≤m.tries:=by omega
   rw[if_neg (by simpa using h1),if_neg (by simpa using h3)]
   by_cases h5:m.queue.all reqG=true
   ·rw[h5,Bool.not_true,hJ]
    simp only[h2,h4,decide_true,Bool.true_and]
   ·have h6:m.queue.all reqG=false:=by simpa using h5
    rw[h6,Bool.not_false]
    simp[Xg]
theorem Z1i (m:GMst) (hs:m.sm):Zo0 m=some (Zml m):=by
 have hb:=Zne m
 have hJ:Kv m false=some (if m.queue=[] then decide (m.beat=0)&&(decide (m.done=0)&&(decide (m.tries=0)&&(!m.parted&&!m.broken))) else decide (0≤m.done∧m.done≤Ze m - 1)&&decide (m.done≤m.beat∧m.beat≤min (m.done+2) (Ze m))):=by
  unfold Kv
  rw[Z80,Option.bind_some,Option.bind_some,Yk,Option.bind_some,Yk,Option.bind_some,Yx (by omega) (by omega)]
  by_cases h:m.queue=[]
  ·rw[if_neg (by simp),if_pos (by simpa using h),if_pos h]
   by_cases h1:m.beat=0<;>by_cases h2:m.done=0<;>by_cases h3:m.tries=0<;>by_cases h4:m.parted=true<;>simp[h1,h2,h3,h4]
  ·rw[if_neg (by simp),if_neg (by simpa using h),if_neg h]
   by_cases h1:0≤m.done∧m.done≤Ze m - 1
   ·rw[Zm (by omega) (by omega),Zi1]
    simp[h1]
   ·simp[h1]
 unfold Zo0
 have hl:=hs.1
 have key:∀(n k:Nat),k≤m.queue.length→m.queue.length - k < n→Zio m n k=some (decide (m.queue.length≤4)&&(decide (0≤m.tries)&&((m.queue.drop k).all reqG&&
 (if m.queue=[] then decide (m.beat=0)&&(decide (m.done=0)&&(decide (m.tries=0)&&(!m.parted&&!m.broken))) else decide (0≤m.done∧m.done≤Ze m - 1)&&decide (m.done≤m.beat∧m.beat≤min (m.done+2) (Ze m)))))):=by
  intro n
  induction n with
  | zero=>intro k _ h;omega
  | succ n ih=>
   intro k hk hm
   show Zhm m _ k=_
   unfold Zhm
   by_cases hc:k < m.queue.length
   ·rw[if_pos (by simpa using hc),Yi hc,Option.bind_some,Zw5 _ (hs.2 _ (List.getElem_mem hc)),Option.bind_some,List.drop_eq_getElem_cons hc,List.all_cons]
    by_cases hq:reqG m.queue[k]=true
    ·rw[if_neg (by simp[hq]),Y5 (by omega),ih (k+1) (by omega) (by omega)]
     simp[hq]
    ·rw[if_pos (by simp[hq])]
     simp[hq]
   ·rw[if_neg (by simpa using hc),List.drop_eq_nil_of_le (by omega)]
    by_cases h1:(m.queue.length:Int) > 4
    ·have h2:¬m.queue.length≤4:=by omega
     simp[h1,h2,Kv]
    ·have h2:m.queue.length≤4:=by omega
     by_cases h3:m.tries < 0
     ·have h4:¬0≤m.tries:=by omega
      simp[h1,h2,h3,h4,Kv]
     ·have h4:0≤m.tries:=by omega
      rw[if_neg (by simpa using h1),decide_eq_false h3,hJ]
      simp only[h2,h4,decide_true,Bool.true_and,List.all_nil]
 have:=key FU 0 (Nat.zero_le _) (by have:=Wj;omega)
 simpa [Zml] using this
theorem Zho (m:GMst) (hs:m.sm):Zb0 m=some m:=by
 unfold Zb0
 refine (Ycb 64 (by decide) m.queue hs.1 Zdq (fun r hr=>Zuv r (hs.2 r hr)) (fun v=>some {m with queue:=v}) (Zhc m) (fun n v i=>rfl)).trans ?_
 rfl
def Wo (m:GMst) (r:GReq):GMst:=if reqG r=true∧m.queue.length≠4 then {m with queue:=m.queue++[r]} else m
def Zoc (m:GMst):Bool:=decide (m.beat < Ze m)
def Ya (m:GMst) (b:Int):Int:=if 0≤b∧b≤Ze m - 1 then atI (Qn (atI m.queue 0).addr (atI m.queue 0).size (atI m.queue 0).burst) b else -1
def Y6 (m:GMst):GMst:=if m.beat < Ze m∧m.beat≠m.done+2 then {m with beat:=m.beat+1} else m
def Q7 (m:GMst):GMst:=if m.beat=m.done then m else {m with beat:=m.beat - 1}
def endG (m:GMst):GMst:=if m.beat=m.done then m else if m.done+1=Ze m then GMst.mk m.queue.tail 0 0 0 false false else GMst.mk m.queue m.beat (m.done+1) 0 false m.broken
theorem J6 {m:GMst} (h:RightP m):0≤m.done∧m.done≤8∧0≤m.beat∧m.beat≤8:=by
 have hb:=Zne m
 by_cases hq:m.queue=[]
 ·have:=h.none hq;omega
 ·have:=h.some hq;omega
theorem Zqr {m:GMst} (h:RightP m) (hq:m.queue≠[]):reqG (atI m.queue 0)=true∧Ze m=Yo (atI m.queue 0).burst∧1≤Ze m:=by
 have h1:0 < m.queue.length:=List.length_pos_iff.2 hq
 have h2:reqG (atI m.queue 0)=true:=h.reqs _ (Zen (by omega) (by omega))
 have h3:Ze m=Yo (atI m.queue 0).burst:=by unfold Ze;rw[if_neg hq]
 exact⟨h2,h3,by rw[h3];exact (Zl6 (Zgb h2).1).2⟩
theorem Z4l {m:GMst} {b:Int} (h:RightP m) (h0:0≤b) (h1:b < Ze m):Ya m b∈Qn (atI m.queue 0).addr (atI m.queue 0).size (atI m.queue 0).burst∧Xc (Ya m b) (atI m.queue 0).size=true∧0≤Ya m b∧Ya m b < 512:=by
 have hq:m.queue≠[]:=by
  intro hq
  unfold Ze at h1
  rw[if_pos hq] at h1
  omega
 obtain⟨h2,h3,h4⟩:=Zqr h hq
 have h5:=(Zl6 (Zgb h2).1).1
 have h6:Ya m b=atI (Qn (atI m.queue 0).addr (atI m.queue 0).size (atI m.queue 0).burst) b:=by
  unfold Ya;rw[if_pos (by omega)]
 have h7:=Zen (xs:=Qn (atI m.queue 0).addr (atI m.queue 0).size (atI m.queue 0).burst) h0 (by omega)
 rw[h6]
 have h8:=Zsu h7
 exact⟨h7,h8.1,h8.2.1,h8.2.2⟩
theorem Zat {m:GMst} (b:Int) (h:RightP m):J5 m b=some (Ya m b):=by
 have hb:=Zne m
 unfold J5 Zfc
 rw[Kg m h.sm,Option.bind_some,Zad.2 h,Zng,Option.bind_some,Ym,Option.bind_some,Yx (by omega) (by omega)]
 by_cases h1:0≤b∧b≤Ze m - 1
 ·have hq:m.queue≠[]:=by
   intro hq
   unfold Ze at h1
   rw[if_pos hq] at h1
   omega
  obtain⟨h2,h3,h4⟩:=Zqr h hq
  have h5:=(Zl6 (Zgb h2).1).1
  have h6:0 < m.queue.length:=List.length_pos_iff.2 hq
  rw[Xj (by omega) (by omega),Option.bind_some,Zpq,Option.bind_some,Xj h1.1 (by omega)]
  simp[h1,Ya]
 ·simp[h1,Ya]
theorem Zsx {m:GMst} (h:RightP m):Zgm m=some (Zoc m):=by
 unfold Zgm Zoc
 rw[Kg m h.sm,Option.bind_some,Zad.2 h,Zng]
 rfl
theorem Z2z {m:GMst} {r:GReq} (h:RightP m) (hr:r.sm):∃b,Zk1 m r=some (Wo m r,b):=by
 have hl:=h.len
 unfold Zk1 Zbk Wo
 rw[Zho m h.sm,Option.bind_some,Kg m h.sm,Option.bind_some,Zad.2 h,Zrt r hr,Option.bind_some,Zuv r hr,Option.bind_some,Wl (by simp;omega) (by simp;omega),Option.bind_some]
 by_cases h1:reqG r=true
 ·by_cases h2:m.queue.length=4
  ·simp[h1,h2]
  ·have h3:¬((m.queue.length:Int)=4):=by omega
   simp[h1,h2,h3]
 ·simp[h1]
theorem Z1o {m:GMst} (h:RightP m):∃b,Zjm m=some (Y6 m,b):=by
 have hb:=J6 h
 unfold Zjm Zdl Y6
 rw[Zho m h.sm,Option.bind_some,Zsx h,Option.bind_some,Zm (a:=m.done) (by omega) (by omega),Zm (by omega) (by omega)]
 unfold Zoc
 by_cases h1:m.beat < Ze m
 ·by_cases h2:m.beat=m.done+2<;>simp[h1,h2]
 ·simp[h1]
theorem Z4o {m:GMst} (h:RightP m):∃b,Zlj m=some (Q7 m,b):=by
 have hb:=J6 h
 unfold Zlj Ze8 Q7
 rw[Zho m h.sm,Option.bind_some,Kg m h.sm,Option.bind_some,Zad.2 h,Yx (by omega) (by omega)]
 by_cases h1:m.beat=m.done<;>simp[h1]
theorem Zxw {α:Type} (xs:List α) (h:xs≠[]) (hl:xs.length < 1048577):Kb xs 1 (xs.length:Int)=some xs.tail:=by
 have h1:0 < xs.length:=List.length_pos_iff.2 h
 unfold Kb
 rw[if_pos ⟨by omega,by omega,by omega⟩]
 congr 1
 rw[List.take_of_length_le (by simp),←List.drop_one]
 rfl
theorem Zd9 {m:GMst} (h:RightP m) (hb:m.beat≠m.done):m.queue≠[]:=by
 intro hq;have:=h.none hq;omega
theorem Z6x {m:GMst} (h:RightP m):∃b,Zm3 m=some (endG m,b):=by
 have hb:=J6 h
 have hl:=h.len
 unfold Zm3 Zhh endG
 rw[Zho m h.sm,Option.bind_some,Kg m h.sm,Option.bind_some,Zad.2 h,Zm (by omega) (by omega),Zng,Option.bind_some]
 have e:Ze {m with done:=m.done+1}=Ze m:=rfl
 rw[e]
 by_cases h1:m.beat=m.done
 ·simp[h1]
 ·rw[Zxw _ (Zd9 h h1) (by omega),Option.bind_some]
  by_cases h2:m.done+1=Ze m<;>simp[h1,h2]
theorem Zvx {m:GMst} {r:GReq} (h:m.queue≠[]):atI (m.queue++[r]) 0=atI m.queue 0:=by
 cases hq:m.queue with
 | nil=>exact absurd hq h
 | cons a l=>rfl
theorem Z9u {m:GMst} {r:GReq} (h:RightP m):RightP (Wo m r):=by
 unfold Wo
 split
 ·rename_i h1
  have hl:=h.len
  have hne:m.queue++[r]≠[]:=by simp
  refine⟨by simp;omega,h.tries,fun x hx=>?_,fun hx=>absurd hx hne,fun _=>?_⟩
  ·rcases List.mem_append.1 hx with hx|hx
   ·exact h.reqs x hx
   ·rw[List.mem_singleton.1 hx];exact h1.1
  ·by_cases hq:m.queue=[]
   ·obtain⟨h2,h3,h4,h5,h6⟩:=h.none hq
    have hm:Ze {m with queue:=m.queue++[r]}=Yo r.burst:=by
     unfold Ze;rw[if_neg hne];simp[hq,atI]
    have:=(Zl6 (Zgb h1.1).1).2
    rw[hm]
    simp only[h2,h3]
    omega
   ·have h2:=h.some hq
    have hm:Ze {m with queue:=m.queue++[r]}=Ze m:=by
     unfold Ze;rw[if_neg hne,if_neg hq];simp only[Zvx hq]
    rw[hm]
    exact h2
 ·exact h
theorem Z6a {m:GMst} (h:RightP m):RightP (Y6 m):=by
 unfold Y6
 split
 ·rename_i h1
  have hq:m.queue≠[]:=by
   intro hq
   unfold Ze at h1
   rw[if_pos hq] at h1
   have:=J6 h
   omega
  have h2:=h.some hq
  refine⟨h.len,h.tries,h.reqs,fun hx=>absurd hx hq,fun _=>?_⟩
  have hm:Ze {m with beat:=m.beat+1}=Ze m:=rfl
  rw[hm]
  simp only
  omega
 ·exact h
theorem Zwv {m:GMst} (h:RightP m):RightP (Q7 m):=by
 unfold Q7
 split
 ·exact h
 ·rename_i h1
  have hq:=Zd9 h h1
  have h2:=h.some hq
  refine⟨h.len,h.tries,h.reqs,fun hx=>absurd hx hq,fun _=>?_⟩
  have hm:Ze {m with beat:=m.beat - 1}=Ze m:=rfl
  rw[hm]
  simp only
  omega
theorem Yby {m:GMst} (h:RightP m):RightP (endG m):=by
 unfold endG
 split
 ·exact h
 ·rename_i h1
  have hq:=Zd9 h h1
  have h2:=h.some hq
  split
  ·have hr:∀r∈m.queue.tail,reqG r=true:=fun r hr=>h.reqs r (List.mem_of_mem_tail hr)
   refine⟨by have:=h.len;simp;omega,by simp,hr,fun _=>by simp,fun hx=>?_⟩
   have h3:RightP (GMst.mk m.queue.tail 0 0 0 false false)→True:=fun _=>trivial
   have h4:0 < m.queue.tail.length:=List.length_pos_iff.2 hx
   have h5:reqG (atI m.queue.tail 0)=true:=hr _ (Zen (by omega) (by omega))
   have h6:=(Zl6 (Zgb h5).1).2
   have hm:Ze (GMst.mk m.queue.tail 0 0 0 false false)=Yo (atI m.queue.tail 0).burst:=by
    unfold Ze;rw[if_neg hx]
   rw[hm]
   simp only
   omega
  ·rename_i h3
   refine⟨h.len,by simp,h.reqs,fun hx=>absurd hx hq,fun _=>?_⟩
   have hm:Ze (GMst.mk m.queue m.beat (m.done+1) 0 false m.broken)=Ze m:=rfl
   rw[hm]
   simp only
   omega
theorem Ygb {a b:Int} {k:Nat} (h0:0≤a) (h1:a < 2^k) (hb:0≤b) (hk:b*2^k+a < 9223372036854775808):orW a (b*2^k)=a+b*2^k:=by
 obtain⟨a,rfl⟩:=Int.eq_ofNat_of_zero_le h0
 obtain⟨b,rfl⟩:=Int.eq_ofNat_of_zero_le hb
 have e1:(b:Int)*2^k=((b*2^k:Nat):Int):=by simp
 rw[e1] at hk ⊢
 have h1':a < 2^k:=by
  have:((a:Nat):Int) < ((2^k:Nat):Int):=by simpa using h1
  exact Int.ofNat_lt.1 this
 have h2:a+b*2^k < 18446744073709551616:=by omega
 unfold orW
 show IntKind.i64.wrap (((BitVec.ofInt 64 ((a:Nat):Int) ||| BitVec.ofInt 64 ((b*2^k:Nat):Int)).toNat:Nat):Int)=_
 rw[BitVec.ofInt_natCast,BitVec.ofInt_natCast,BitVec.toNat_or,BitVec.toNat_ofNat,BitVec.toNat_ofNat,Nat.mod_eq_of_lt (by omega),Nat.mod_eq_of_lt (by omega)]
 have h3:a ||| b*2^k=a+b*2^k:=by
  rw[Nat.or_comm,←Nat.shiftLeft_eq,←Nat.shiftLeft_add_eq_or_of_lt h1',Nat.add_comm]
 rw[h3,Zmf (by omega) (by omega)]
 simp
theorem Yei {a:Int} (h0:0≤a) (h1:a < 9223372036854775808):andW a 255=a % 256:=by
 obtain⟨a,rfl⟩:=Int.eq_ofNat_of_zero_le h0
 unfold andW
 show IntKind.i64.wrap (((BitVec.ofInt 64 ((a:Nat):Int) &&& BitVec.ofInt 64 ((255:Nat):Int)).toNat:Nat):Int)=_
 rw[BitVec.ofInt_natCast,BitVec.ofInt_natCast,BitVec.toNat_and,BitVec.toNat_ofNat,BitVec.toNat_ofNat,Nat.mod_eq_of_lt (by omega),Nat.mod_eq_of_lt (by omega)]
 have h3:a &&& 255=a % 256:=Nat.and_two_pow_sub_one_eq_mod a 8
 rw[h3,Zmf (by omega) (by omega)]
 omega
theorem Yfm {a:Int} {k:Nat} (hk:k≤64) (h0:0≤a) (h1:a*2^k < 9223372036854775808):shlW a (k:Int)=a*2^k:=by
 unfold shlW
 have:min ((k:Int).toNat) IntKind.i64.bits=k:=by
  show min ((k:Int).toNat) 64=k
  omega
 rw[this]
 have:0≤a*2^k:=Int.mul_nonneg h0 (Int.pow_nonneg (by omega))
 exact Zmf (by omega) h1
theorem Ygl {a:Int} {k:Nat} (hk:k≤64) (h0:0≤a):shrW a (k:Int)=a / 2^k:=by
 unfold shrW
 have:min ((k:Int).toNat) IntKind.i64.bits=k:=by
  show min ((k:Int).toNat) 64=k
  omega
 rw[this,Int.fdiv_eq_ediv_of_nonneg _ (Int.pow_nonneg (by omega))]
def K7 (n:Int):Bool:=decide (0≤n∧n≤255)
def memG (mem:List Int):Bool:=decide (mem.length≤512)&&mem.all K7
def Zk4 (mem:List Int) (a s:Int):Bool:=memG mem&&(Xc a s&&decide (a≤(mem.length:Int) - Yb s))
theorem Zs9 (mem:List Int) (a s:Int) (hl:mem.length < 1048577):Zks mem a s=some (Zk4 mem a s):=by
 have hb:=Zl3 s
 have hf:Xn mem=some (!mem.all K7):=by
  unfold Xn W8
  refine Zpv mem (by omega) Znf K7 (fun r hr=>?_) _ (fun m i=>rfl)
  unfold Znf
  rw[Ym];rfl
 unfold Zks Zk4 memG
 rw[hf,Option.bind_some,Zjr,Option.bind_some,Zcz,Option.bind_some,Yx (by omega) (by omega)]
 by_cases h1:mem.length≤512
 ·have h2:(mem.length:Int)≤512:=by omega
  by_cases h3:mem.all K7=true
  ·by_cases h4:Xc a s=true<;>simp only[h1,h2,h3,h4,decide_true,if_true,Bool.not_true,Bool.not_false,Bool.true_and,Bool.and_self,Bool.false_and,Bool.false_eq_true,if_false]
  ·simp[h1,h2,h3]
 ·have h2:¬(mem.length:Int)≤512:=by omega
  simp[h1,h2]
theorem Z3h (mem:List Int) (hl:mem.length < 1048577):Zqo mem=some (memG mem):=by
 unfold Zqo memG
 have key:∀(n k:Nat),k≤mem.length→mem.length - k < n→Zke mem n k=some (decide (mem.length≤512)&&(mem.drop k).all K7):=by
  intro n
  induction n with
  | zero=>intro k _ h;omega
  | succ n ih=>
   intro k hk hm
   show Zit mem _ k=_
   unfold Zit
   by_cases hc:k < mem.length
   ·rw[if_pos (by simpa using hc),Yi hc,Option.bind_some,Yk,Option.bind_some,List.drop_eq_getElem_cons hc,List.all_cons]
    by_cases hq:0≤mem[k]∧mem[k]≤255
    ·rw[if_neg (by simp[hq]),Y5 (by omega),ih (k+1) (by omega) (by omega)]
     simp[hq,K7]
    ·rw[if_pos (by simp[hq])]
     simp[hq,K7]
   ·rw[if_neg (by simpa using hc),List.drop_eq_nil_of_le (by omega)]
    by_cases h1:mem.length≤512
    ·have h2:(mem.length:Int)≤512:=by omega
     simp[h1,h2]
    ·have h2:¬(mem.length:Int)≤512:=by omega
     simp[h1,h2]
 have:=key FU 0 (Nat.zero_le _) (by have:=Wj;omega)
 simpa using this
def getL (mem:List Int):Nat→Int→Int
 | 0,_=>0
 | n+1,a=>atI mem a+256*getL mem n (a+1)
def putL:Nat→List Int→Int→Int→List Int
 | 0,l,_,_=>l
 | n+1,l,a,v=>putL n (l.set a.toNat (v % 256)) (a+1) (v / 256)
theorem Yc7:∀(n:Nat) (l:List Int) (a v:Int),(putL n l a v).length=l.length:=by
 intro n
 induction n with
 | zero=>intro l a v;rfl
 | succ n ih=>intro l a v;simp only[putL,ih,List.length_set]
theorem Z9e:∀(n:Nat) (l:List Int) (a v:Int),l.all K7=true→(putL n l a v).all K7=true:=by
 intro n
 induction n with
 | zero=>intro l a v h;exact h
 | succ n ih=>
  intro l a v h
  refine ih _ _ _ ?_
  rw[List.all_eq_true] at h ⊢
  intro x hx
  rcases List.mem_or_eq_of_mem_set hx with hx|rfl
  ·exact h x hx
  ·have h1:0≤v % 256:=Int.emod_nonneg _ (by omega)
   have h2:v % 256 < 256:=Int.emod_lt_of_pos _ (by omega)
   simp[K7];omega
theorem Yca (mem:List Int):∀(n:Nat) (a:Int),getL mem (n+1) a=getL mem n a+256^n*atI mem (a+n):=by
 intro n
 induction n with
 | zero=>intro a;simp[getL]
 | succ n ih=>
  intro a
  rw[getL,ih (a+1),getL]
  rw[Int.mul_add,←Int.mul_assoc,show (256:Int)*256^n=256^(n+1) by rw[Int.pow_succ,Int.mul_comm],show a+1+(n:Int)=a+((n+1:Nat):Int) by omega]
  omega
theorem Z7z {mem:List Int} (h:mem.all K7=true):∀(n:Nat) (a:Int),0≤a→a+n≤(mem.length:Int)→0≤getL mem n a∧getL mem n a < 256^n:=by
 intro n
 induction n with
 | zero=>intro a _ _;simp[getL]
 | succ n ih=>
  intro a h0 h1
  have h2:=ih (a+1) (by omega) (by omega)
  have h3:=List.all_eq_true.1 h _ (Zen h0 (by omega:a < (mem.length:Int)))
  simp only[K7,decide_eq_true_eq] at h3
  simp only[getL]
  have e:(256:Int)^(n+1)=256*256^n:=by rw[Int.pow_succ,Int.mul_comm]
  rw[e]
  omega
def getG (mem:List Int) (a s:Int):Int:=getL mem (Yb s).toNat a
def putG (mem:List Int) (a s v:Int):List Int:=putL (Yb s).toNat mem a v
theorem Zst {mem:List Int} {a s:Int} (h:Zk4 mem a s=true):mem.length≤512∧mem.all K7=true∧0 < Yb s∧0≤a∧a+Yb s≤(mem.length:Int):=by
 simp only[Zk4,memG,Bool.and_eq_true,decide_eq_true_eq] at h
 have:=Ki h.2.1
 exact⟨h.1.1,h.1.2,this.1,this.2.1,by omega⟩
theorem Ych (k:Nat) (h:k≤4):(256:Int)^k=2^(8*k)∧(256:Int)^k≤4294967296:=by
 have:k=0∨k=1∨k=2∨k=3∨k=4:=by omega
 rcases this with rfl|rfl|rfl|rfl|rfl<;>decide
theorem Z6m {mem:List Int} {a s:Int} (h:Zk4 mem a s=true):Znl mem a s=some (getG mem a s,true):=by
 obtain⟨h1,h2,h3,h4,h5⟩:=Zst h
 have hb:=Zl3 s
 unfold Znl getG
 rw[Zs9 mem a s (by omega),Option.bind_some,h,if_neg (by simp),Zcz,Option.bind_some]
 have key:∀(r n k:Nat),r < n→(k:Int)+r=Yb s→Zgw mem a s n (getL mem k a) (Yb s) k=some (getL mem (k+r) a,true):=by
  intro r
  induction r with
  | zero=>
   intro n k hn hk
   obtain⟨n,rfl⟩:∃m',n=m'+1:=⟨n - 1,by omega⟩
   show Zbm mem a s _ (getL mem k a) (Yb s) k=_
   unfold Zbm
   rw[if_neg (by simp;omega)]
   rfl
  | succ r ih=>
   intro n k hn hk
   obtain⟨n,rfl⟩:∃m',n=m'+1:=⟨n - 1,by omega⟩
   show Zbm mem a s _ (getL mem k a) (Yb s) k=_
   unfold Zbm
   have h6:0≤a+(k:Int):=by omega
   have h7:a+(k:Int) < (mem.length:Int):=by omega
   have h8:=List.all_eq_true.1 h2 _ (Zen h6 h7)
   simp only[K7,decide_eq_true_eq] at h8
   have h9:=Z7z h2 k a h4 (by omega)
   have hp:=Ych k (by omega)
   have hp1:(0:Int) < 2^(8*k):=Int.pow_pos (by omega)
   have h10:atI mem (a+k)*2^(8*k)≤255*4294967296:=by
    rw[←hp.1]
    exact Int.mul_le_mul h8.2 hp.2 (by rw[hp.1];omega) (by omega)
   rw[if_pos (by simp;omega),Zm (by omega) (by omega),Xj h6 h7,Option.bind_some,Yy (by omega) (by omega),Ybt (by omega),Option.bind_some,show (8:Int)*(k:Int)=((8*k:Nat):Int) by omega,Yfm (by omega) h8.1 (by omega),Ygb h9.1 (by rw[←hp.1];exact h9.2) h8.1 (by have:=h9.2;rw[hp.1] at this;have:=hp.2;rw[hp.1] at this;omega),Y5 (by omega)]
   have e:getL mem k a+atI mem (a+k)*2^(8*k)=getL mem (k+1) a:=by
    rw[Yca,hp.1,Int.mul_comm]
   rw[e,ih n (k+1) (by omega) (by omega),show k+1+r=k+(r+1) by omega]
 have:=key (Yb s).toNat FU 0 (by have:=Wj;omega) (by omega)
 simpa [getL] using this
theorem Zki (xs:List Int) (h:xs.length < 1048577):Yf xs=some xs:=by
 unfold Yf
 rw[Wl (by simp;omega) (by simp;omega)]
 rfl
theorem Z5h {mem:List Int} {a s v:Int} (h:Zk4 mem a s=true) (hv:numG v s=true):Znm mem a s v=some (putG mem a s v,true):=by
 obtain⟨h1,h2,h3,h4,h5⟩:=Zst h
 have hb:=Zl3 s
 have hl:=Zti s
 simp only[numG,decide_eq_true_eq] at hv
 unfold Znm Zha putG
 rw[Zki mem (by omega),Option.bind_some,Zs9 mem a s (by omega),Option.bind_some,h,if_neg (by simp),Zdj,Option.bind_some,Zcz,Option.bind_some]
 have hn:numG v s=true:=by simp[numG,hv]
 rw[hn,if_neg (by simp)]
 have key:∀(r n k:Nat) (l:List Int),r < n→(k:Int)+r=Yb s→l.length=mem.length→Zhj mem a s v n l (Yb s) k=some (putL r l (a+k) (v / 256^k),true):=by
  intro r
  induction r with
  | zero=>
   intro n k l hn hk _
   obtain⟨n,rfl⟩:∃m',n=m'+1:=⟨n - 1,by omega⟩
   show Zbq mem a s v _ l (Yb s) k=_
   unfold Zbq
   rw[if_neg (by simp;omega)]
   rfl
  | succ r ih=>
   intro n k l hn hk hl2
   obtain⟨n,rfl⟩:∃m',n=m'+1:=⟨n - 1,by omega⟩
   show Zbq mem a s v _ l (Yb s) k=_
   unfold Zbq
   have h6:0≤a+(k:Int):=by omega
   have h7:a+(k:Int) < (l.length:Int):=by omega
   have hp:=Ych k (by omega)
   have hp1:(0:Int) < 256^k:=Int.pow_pos (by omega)
   have h8:0≤v / 256^k:=Int.ediv_nonneg hv.1 (by omega)
   have h9:v / 256^k≤v:=Int.ediv_le_self _ hv.1
   rw[if_pos (by simp;omega),Yy (by omega) (by omega),Ybt (by omega),Option.bind_some,Zm (a:=a) (by omega) (by omega),Xj h6 h7,Option.bind_some,Qi,Option.bind_some,show (8:Int)*(k:Int)=((8*k:Nat):Int) by omega,Ygl (by omega) hv.1,←hp.1,Yei h8 (by omega),Y5 (by omega),ih n (k+1) _ (by omega) (by omega) (by simp[hl2])]
   simp only[putL]
   rw[Int.ediv_ediv_of_nonneg (by omega),←Int.pow_succ,show a+((k+1:Nat):Int)=a+k+1 by omega]
 have:=key (Yb s).toNat FU 0 mem (by have:=Wj;omega) (by omega) rfl
 simpa using this
def GDev.sm (d:GDev):Prop:=d.regs.length < 1048577∧d.fifo.length < 1048577
def devG (d:GDev):Bool:=decide (d.regs.length=4)&&(d.regs.all (fun v=>numG v 2)&&(numG d.timer 2&&(decide (d.fifo.length≤4)&&d.fifo.all fun v=>numG v 2)))
theorem Zw4 (d:GDev) (hs:d.sm):Zl8 d=some (devG d):=by
 have hf:∀xs:List Int,xs.length < 1048577→Yw xs=some (!xs.all fun v=>numG v 2):=by
  intro xs hl
  unfold Yw W1
  refine Zpv xs (by omega) Zlo (fun v=>numG v 2) (fun r hr=>?_) _ (fun m i=>rfl)
  unfold Zlo
  rw[Zdj];rfl
 unfold Zl8 devG
 rw[hf _ hs.1,Option.bind_some,hf _ hs.2,Option.bind_some,Zdj,Option.bind_some]
 by_cases h1:d.regs.length=4
 ·have h2:(d.regs.length:Int)=4:=by omega
  by_cases h3:d.fifo.length≤4
  ·have h4:(d.fifo.length:Int)≤4:=by omega
   cases h5:(d.regs.all fun v=>numG v 2)<;>cases h6:(d.fifo.all fun v=>numG v 2)<;>cases h7:numG d.timer 2<;>simp[h1,h2,h3,h4]
  ·have h4:¬(d.fifo.length:Int)≤4:=by omega
   simp[h1,h2,h3,h4]
 ·have h2:¬(d.regs.length:Int)=4:=by omega
  simp[h1,h2]
theorem Zt1 (xs:List Int) (hl:xs.length < 1048577):Zln xs=some (xs.all fun v=>numG v 2):=by
 unfold Zln
 have key:∀(n k:Nat),k≤xs.length→xs.length - k < n→Zkc xs n k=some ((xs.drop k).all fun v=>numG v 2):=by
  intro n
  induction n with
  | zero=>intro k _ h;omega
  | succ n ih=>
   intro k hk hm
   show Zir xs _ k=_
   unfold Zir
   by_cases hc:k < xs.length
   ·rw[if_pos (by simpa using hc),Yi hc,Option.bind_some,Zc0,Option.bind_some,Zrl,Option.bind_some,List.drop_eq_getElem_cons hc,List.all_cons]
    by_cases hq:numG xs[k] 2=true
    ·rw[if_neg (by simp[hq]),Y5 (by omega),ih (k+1) (by omega) (by omega)]
     simp[hq]
    ·rw[if_pos (by simp[hq])]
     simp[hq]
   ·rw[if_neg (by simpa using hc),List.drop_eq_nil_of_le (by omega)]
    rfl
 have:=key FU 0 (Nat.zero_le _) (by have:=Wj;omega)
 simpa using this
theorem Z9a (d:GDev) (hs:d.sm):Zuj d=some (devG d):=by
 unfold Zuj devG
 rw[Zt1 _ hs.1,Option.bind_some,Zt1 _ hs.2,Option.bind_some,Zc0,Option.bind_some,Zrl,Option.bind_some]
 by_cases h1:d.regs.length=4
 ·have h2:(d.regs.length:Int)=4:=by omega
  by_cases h3:d.fifo.length≤4
  ·have h4:(d.fifo.length:Int)≤4:=by omega
   cases h5:(d.regs.all fun v=>numG v 2)<;>cases h6:(d.fifo.all fun v=>numG v 2)<;>cases h7:numG d.timer 2<;>simp[h1,h2,h3,h4]
  ·have h4:¬(d.fifo.length:Int)≤4:=by omega
   cases h5:(d.regs.all fun v=>numG v 2)<;>cases h7:numG d.timer 2<;>simp[h1,h2,h3,h4]
 ·have h2:¬(d.regs.length:Int)=4:=by omega
  simp[h1,h2]
structure DevP (d:GDev):Prop where
 regs:d.regs.length=4
 nums:∀v∈d.regs,numG v 2=true
 timer:numG d.timer 2=true
 len:d.fifo.length≤4
 fifo:∀v∈d.fifo,numG v 2=true
theorem Z7e {d:GDev}:devG d=true↔DevP d:=by
 simp only[devG,Bool.and_eq_true,decide_eq_true_eq,List.all_eq_true]
 constructor
 ·intro h;exact⟨h.1,h.2.1,h.2.2.1,h.2.2.2.1,h.2.2.2.2⟩
 ·intro h;exact⟨h.regs,h.nums,h.timer,h.len,h.fifo⟩
theorem DevP.sm {d:GDev} (h:DevP d):d.sm:=⟨by have:=h.regs;omega,by have:=h.len;omega⟩
theorem Zvt (d:GDev) (hs:d.sm):Zjc d=some d:=by
 unfold Zjc
 rw[Zki _ hs.1,Option.bind_some,Zki _ hs.2]
 rfl
def Zcs (d:GDev) (w:Bool) (a v:Int):GDev×Int×Bool:=
 if (w&&!numG v 2)=true then (d,0,false) else
 if a=16 then (if w then ({d with timer:=v},v,true) else ({d with timer:=(d.timer+1) % 4294967296},d.timer,true)) else
 if a=20 then (if w then (if d.fifo.length < 4 then ({d with fifo:=d.fifo++[v]},v,true) else (d,0,false)) else (if d.fifo=[] then (d,0,false) else ({d with fifo:=d.fifo.tail},atI d.fifo 0,true))) else
 if (0≤a∧a < 16)∧a % 4=0 then (if w then ({d with regs:=d.regs.set (a / 4).toNat v},v,true) else (d,atI d.regs (a / 4),true)) else (d,0,false)
theorem num2 {v:Int} (h:numG v 2=true):0≤v∧v < 4294967296:=by
 simpa [numG,Zc5] using h
theorem Z9r {d:GDev} (w:Bool) (a v:Int) (h:DevP d):Zpg d w a v=some (Zcs d w a v):=by
 have ht:=num2 h.timer
 have hl:=h.len
 have hr:=h.regs
 unfold Zpg
 rw[Zvt d h.sm,Option.bind_some,Zw4 d h.sm,Option.bind_some,Z7e.2 h,Zdj,Option.bind_some]
 have hJ:Jp d w a v d false=some (if a=16 then (if w then ({d with timer:=v},v,true) else ({d with timer:=(d.timer+1) % 4294967296},d.timer,true)) else
 if a=20 then (if w then (if d.fifo.length < 4 then ({d with fifo:=d.fifo++[v]},v,true) else (d,0,false)) else (if d.fifo=[] then (d,0,false) else ({d with fifo:=d.fifo.tail},atI d.fifo 0,true))) else
 if (0≤a∧a < 16)∧a % 4=0 then (if w then ({d with regs:=d.regs.set (a / 4).toNat v},v,true) else (d,atI d.regs (a / 4),true)) else (d,0,false)):=by
  unfold Jp Zh9 Zet Zew Zeu
  by_cases h16:a=16
  ·subst h16
   rw[Zug,Option.bind_some,show Zc5 2=4294967296 from rfl,Zgc (by omega),Zm (by omega) (by omega),Kq (by omega)]
   cases w<;>simp
  ·by_cases h20:a=20
   ·subst h20
    cases w with
    | true=>
     by_cases h3:d.fifo.length < 4
     ·have h4:(d.fifo.length:Int) < 4:=by omega
      rw[Wl (by simp;omega) (by simp;omega)]
      simp[h3,h4]
     ·have h4:¬(d.fifo.length:Int) < 4:=by omega
      simp[h3,h4]
    | false=>
     by_cases h3:d.fifo=[]
     ·simp[h3]
     ·have h4:0 < d.fifo.length:=List.length_pos_iff.2 h3
      have h5:(d.fifo.length:Int) > 0:=by omega
      rw[Xj (by omega) (by omega),Option.bind_some,Zxw _ h3 (by omega),Option.bind_some,Zki _ (by simp;omega)]
      simp[h3,h5]
   ·by_cases h3:(0≤a∧a < 16)∧a % 4=0
    ·obtain⟨⟨h4,h5⟩,h6⟩:=h3
     have h7:¬a≥16:=by omega
     have h8:¬a < 0:=by omega
     rw[Z7k h4 (by omega) (by omega),Xj (xs:=d.regs) (by omega) (by omega),Option.bind_some,Option.bind_some,Qi,Kq h4]
     cases w<;>simp[h16,h20,h4,h5,h6,h7,h8]
    ·by_cases h4:a≥16
     ·have h5:¬a < 16:=by omega
      cases w<;>simp[h16,h20,h4,h5]
     ·by_cases h5:a < 0
      ·have h6:¬0≤a:=by omega
       cases w<;>simp[h16,h20,h4,h5,h6]
      ·have h6:a % 4≠0:=fun h=>h3 ⟨by omega,h⟩
       rw[Kq (by omega)]
       cases w<;>simp[h16,h20,h4,h5,h6]
 unfold Zcs
 cases w with
 | false=>simp only[Bool.not_true,Bool.false_eq_true,if_false,Bool.false_and];exact hJ
 | true=>
  by_cases hv:numG v 2=true
  ·simp only[hv,Bool.not_true,Bool.false_eq_true,if_false,if_true,Bool.and_false]
   exact hJ
  ·simp[hv,Jp]
theorem Yfl {xs:List Int} {p:Int→Prop} (h:∀x∈xs,p x) {k:Nat} {v:Int} (hv:p v):∀x∈xs.set k v,p x:=by
 intro x hx
 rcases List.mem_or_eq_of_mem_set hx with hx|rfl
 ·exact h x hx
 ·exact hv
theorem Ydj {d:GDev} {w:Bool} {a v:Int} (h:DevP d):DevP (Zcs d w a v).1∧((Zcs d w a v).2.2=true→numG (Zcs d w a v).2.1 2=true):=by
 have ht:=num2 h.timer
 have hl:=h.len
 unfold Zcs
 split
 ·exact⟨h,by simp⟩
 ·rename_i hw
  have hv:w=true→numG v 2=true:=by
   intro h1
   rw[h1] at hw
   simpa using hw
  split
  ·split
   ·rename_i h1
    exact⟨⟨h.regs,h.nums,hv h1,h.len,h.fifo⟩,fun _=>hv h1⟩
   ·refine⟨⟨h.regs,h.nums,?_,h.len,h.fifo⟩,fun _=>h.timer⟩
    have:Zc5 2=4294967296:=rfl
    simp only[numG,this,decide_eq_true_eq]
    omega
  ·split
   ·split
    ·rename_i h1
     split
     ·rename_i h2
      refine⟨⟨h.regs,h.nums,h.timer,by simp;omega,fun x hx=>?_⟩,fun _=>hv h1⟩
      rcases List.mem_append.1 hx with hx|hx
      ·exact h.fifo x hx
      ·rw[List.mem_singleton.1 hx];exact hv h1
     ·exact⟨h,by simp⟩
    ·split
     ·exact⟨h,by simp⟩
     ·rename_i h2
      have h4:0 < d.fifo.length:=List.length_pos_iff.2 h2
      refine⟨⟨h.regs,h.nums,h.timer,by simp;omega,fun x hx=>h.fifo x (List.mem_of_mem_tail hx)⟩,fun _=>h.fifo _ (Zen (by omega) (by omega))⟩
   ·split
    ·rename_i h3
     split
     ·rename_i h1
      exact⟨⟨by simp[h.regs],Yfl h.nums (hv h1),h.timer,h.len,h.fifo⟩,fun _=>hv h1⟩
     ·refine⟨h,fun _=>h.nums _ (Zen (by omega) (by have:=h.regs;omega))⟩
    ·exact⟨h,by simp⟩
def Ye (a:Int):Int:=if a < 0∨224≤a then 0 else if a < 128 then 1 else if a < 192 then 2 else 3
theorem Zuh (a:Int):Zhz a=some (Ye a):=by
 unfold Zhz Zfr Ye
 by_cases h1:a < 0
 ·simp[h1]
 ·by_cases h2:a≥224
  ·simp[h1,h2]
  ·by_cases h3:a < 128
   ·simp[h1,h2,h3]
   ·by_cases h4:a < 192<;>simp[h1,h2,h3,h4]
def GModel.sm (m:GModel):Prop:=m.mem.length < 1048577∧m.dev.sm
def Zo4 (m:GModel):Bool:=decide (m.mem.length=192)&&(m.mem.all K7&&devG m.dev)
structure ModelP (m:GModel):Prop where
 len:m.mem.length=192
 bytes:m.mem.all K7=true
 dev:DevP m.dev
theorem Zph {m:GModel}:Zo4 m=true↔ModelP m:=by
 simp only[Zo4,Bool.and_eq_true,decide_eq_true_eq,Z7e]
 constructor
 ·intro h;exact⟨h.1,h.2.1,h.2.2⟩
 ·intro h;exact⟨h.len,h.bytes,h.dev⟩
theorem ModelP.sm {m:GModel} (h:ModelP m):m.sm:=⟨by have:=h.len;omega,h.dev.sm⟩
theorem Ztm (m:GModel) (hs:m.sm):Zb9 m=some (Zo4 m):=by
 unfold Zb9 Zo4
 rw[Zs9 m.mem 0 0 hs.1,Option.bind_some,Zw4 m.dev hs.2,Option.bind_some]
 by_cases h1:m.mem.length=192
 ·have h2:(m.mem.length:Int)=192:=by omega
  have h3:Zk4 m.mem 0 0=m.mem.all K7:=by
   simp[Zk4,memG,h1,Xc,Yb]
  rw[h3]
  cases h4:m.mem.all K7<;>simp[h1,h2]
 ·have h2:¬(m.mem.length:Int)=192:=by omega
  simp[h1,h2]
theorem Z4j (m:GModel) (hs:m.sm):Zqp m=some (Zo4 m):=by
 unfold Zqp Zo4
 rw[Z3h m.mem hs.1,Option.bind_some,Z9a m.dev hs.2,Option.bind_some]
 by_cases h1:m.mem.length=192
 ·have h2:(m.mem.length:Int)=192:=by omega
  have h3:memG m.mem=m.mem.all K7:=by
   simp[memG,h1]
  rw[h3]
  cases h4:m.mem.all K7<;>simp[h1,h2]
 ·have h2:¬(m.mem.length:Int)=192:=by omega
  simp[h1,h2]
theorem Zmr (m:GModel) (hs:m.sm):Zct m=some m:=by
 unfold Zct
 rw[Zki _ hs.1,Option.bind_some,Zvt _ hs.2]
 rfl
def Zce (m:GModel) (w:Bool) (a s v:Int):GModel×Int×Int:=
 if (Xc a s&&!(w&&!numG v s))=true then
  (if Ye a=1∨Ye a=2 then (if w then ({m with mem:=putG m.mem a s v},v,0) else (m,getG m.mem a s,0))
  else if Ye a=3∧s=2 then (if (Zcs m.dev w (a - 192) v).2.2=true then ({m with dev:=(Zcs m.dev w (a - 192) v).1},(Zcs m.dev w (a - 192) v).2.1,0) else (m,0,1))
  else (m,0,1))
 else (m,0,1)
theorem Ycv {a:Int} (h:Ye a=1∨Ye a=2):0≤a∧a < 192:=by
 unfold Ye at h
 repeat' split at h
 all_goals omega
theorem Yai {a:Int} (h:Ye a=3):192≤a∧a < 224:=by
 unfold Ye at h
 repeat' split at h
 all_goals omega
theorem Z25 {m:GModel} {a s:Int} (h:ModelP m) (ha:Xc a s=true) (hs:Ye a=1∨Ye a=2):Zk4 m.mem a s=true:=by
 have h1:=Ycv hs
 have h2:=h.len
 have h3:=Ki ha
 have h4:a+Yb s≤192:=by
  have h5:=(Zge s).1 h3.1
  have h6:s=0∨s=1∨s=2:=by omega
  have h7:=h3.2.2
  rcases h6 with rfl|rfl|rfl<;>simp[Yb] at h7 ⊢<;>omega
 simp only[Zk4,memG,Bool.and_eq_true,decide_eq_true_eq]
 exact⟨⟨by omega,h.bytes⟩,ha,by omega⟩
theorem Z4i {m:GModel} (w:Bool) (a s v:Int) (h:ModelP m):Zlq m w a s v=some (Zce m w a s v):=by
 unfold Zlq Zce
 rw[Zmr m h.sm,Option.bind_some,Ztm m h.sm,Option.bind_some,Zph.2 h,Zjr,Option.bind_some,Zdj,Option.bind_some,if_neg (by simp)]
 by_cases ha:Xc a s=true
 ·rw[ha,if_neg (by simp)]
  have hJ:(w=true→numG v s=true)→Wz m w a s v m false=some (if Ye a=1∨Ye a=2 then (if w then ({m with mem:=putG m.mem a s v},v,0) else (m,getG m.mem a s,0))
  else if Ye a=3∧s=2 then (if (Zcs m.dev w (a - 192) v).2.2=true then ({m with dev:=(Zcs m.dev w (a - 192) v).1},(Zcs m.dev w (a - 192) v).2.1,0) else (m,0,1))
  else (m,0,1)):=by
   intro hw
   unfold Wz
   rw[if_neg (by simp),Zuh,Option.bind_some]
   unfold Zfl Ze6 Jm
   rw[Zmr m h.sm,Option.bind_some]
   by_cases h1:Ye a=1∨Ye a=2
   ·have h3:¬Ye a=3:=by omega
    have hf:=Z25 h ha h1
    cases w with
    | true=>
     rw[Z5h hf (hw rfl),Option.bind_some]
     rcases h1 with h1|h1<;>simp[h1,h3]
    | false=>
     rw[Z6m hf,Option.bind_some]
     rcases h1 with h1|h1<;>simp[h1,h3]
   ·have h2:¬Ye a=1:=fun h=>h1 (.inl h)
    have h4:¬Ye a=2:=fun h=>h1 (.inr h)
    by_cases h3:Ye a=3
    ·have h5:=Yai h3
     rw[Yx (by omega) (by omega),Z9r w _ v h.dev,Option.bind_some]
     by_cases h6:s=2
     ·by_cases h7:(Zcs m.dev w (a - 192) v).2.2=true<;>simp[h3,h6,h7]
     ·simp[h3,h6]
    ·simp[h2,h3,h4]
  cases w with
  | false=>
   simp only[Bool.false_eq_true,if_false,Bool.false_and,Bool.not_false,Bool.and_true,if_true]
   exact hJ (by simp)
  | true=>
   by_cases hv:numG v s=true
   ·simp only[hv,Bool.not_true,if_true,Bool.and_false,Bool.not_false,Bool.and_true]
    exact hJ (fun _=>hv)
   ·simp[hv,Wz]
 ·simp[ha,Wz]
theorem Yci (s:Int) (h:0 < Yb s):(256:Int)^(Yb s).toNat=Zc5 s:=by
 have h1:=(Zge s).1 h
 have:s=0∨s=1∨s=2:=by omega
 rcases this with rfl|rfl|rfl<;>decide
theorem Zxt {m:GModel} {w:Bool} {a s v:Int} (h:ModelP m) (hs:Xc a s=true):ModelP (Zce m w a s v).1∧numG (Zce m w a s v).2.1 s=true∧((Zce m w a s v).2.2=0∨(Zce m w a s v).2.2=1):=by
 have hp:=Ki hs
 have hz:numG 0 s=true:=by
  have h1:=(Zge s).1 hp.1
  have:s=0∨s=1∨s=2:=by omega
  rcases this with rfl|rfl|rfl<;>decide
 unfold Zce
 split
 ·rename_i h1
  split
  ·rename_i h2
   have hf:=Z25 h hs h2
   split
   ·rename_i hw
    have hv:numG v s=true:=by
     rw[hw] at h1
     simpa [hs] using h1
    exact⟨⟨by simp only[putG,Yc7,h.len],Z9e _ _ _ _ h.bytes,h.dev⟩,hv,.inl rfl⟩
   ·obtain⟨h3,h4,h5,h6,h7⟩:=Zst hf
    have h8:=Z7z h4 (Yb s).toNat a h6 (by omega)
    rw[Yci s h5] at h8
    exact⟨h,by simp only[numG,getG];exact decide_eq_true h8,.inl rfl⟩
  ·split
   ·rename_i h3
    split
    ·rename_i h4
     have h5:=Ydj (w:=w) (a:=a - 192) (v:=v) h.dev
     have h6:=h5.2 h4
     rw[h3.2]
     exact⟨⟨h.len,h.bytes,h5.1⟩,h6,.inl rfl⟩
    ·exact⟨h,hz,.inr rfl⟩
   ·exact⟨h,hz,.inr rfl⟩
 ·exact⟨h,hz,.inr rfl⟩
def Z6 (p:Option Bool) (P:Prop):Prop:=∃r,p=some r∧(r=true↔P)
theorem Z6.of {b:Bool} {P:Prop} (h:b=true↔P):Z6 (some b) P:=⟨b,rfl,h⟩
theorem Z6.iff {p:Option Bool} {P Q:Prop} (h:Z6 p P) (e:P↔Q):Z6 p Q:=by
 obtain⟨r,h1,h2⟩:=h;exact⟨r,h1,h2.trans e⟩
theorem Z6.yes {P:Prop} (h:P):Z6 (some true) P:=⟨true,rfl,by simp[h]⟩
theorem Z6.no {P:Prop} (h:¬P):Z6 (some false) P:=⟨false,rfl,by simp[h]⟩
theorem Z6.eq {p q:Option Bool} {P:Prop} (h:Z6 p P) (h':Z6 q P):∃r,p=some r∧q=some r∧(r=true↔P):=by
 obtain⟨r,h1,h2⟩:=h
 obtain⟨r',h3,h4⟩:=h'
 have:r=r':=by
  cases r<;>cases r'<;>simp_all
 subst this
 exact⟨r,h1,h3,h2⟩
theorem Z6.bnd {x:Option Bool} {P Q:Prop} {f:Bool→Option Bool} (h:Z6 x P) (h1:P→Z6 (f true) Q) (h2:¬P→Z6 (f false) Q):Z6 (x.bind f) Q:=by
 obtain⟨r,rfl,hr⟩:=h
 rw[Option.bind_some]
 cases r with
 | true=>exact h1 (hr.1 rfl)
 | false=>exact h2 (fun hp=>by simpa using hr.2 hp)
theorem Z6.and {x y:Option Bool} {P Q:Prop} (h:Z6 x P) (h1:P→Z6 y Q):Z6 (x.bind fun r=>if r=true then y else some false) (P∧Q):=by
 refine h.bnd (fun hp=>?_) (fun hp=>?_)
 ·rw[if_pos rfl];exact (h1 hp).iff ⟨fun q=>⟨hp,q⟩,fun q=>q.2⟩
 ·rw[if_neg (by simp)];exact .no fun q=>hp q.1
section
variable {σ:Type}
theorem Znj {n:Nat} (hn:n < 4611686018427387904) {P:Nat→Prop} {Q:Prop} (st:Nat→σ) {B:(σ→Int→Option Bool)→σ→Int→Option Bool} {L:Nat→σ→Int→Option Bool} (hL:∀m s i,L (m+1) s i=B (L m) s i)
  (hs:∀k,k < n→(P k∧∀κ,B κ (st k) (k:Int)=κ (st (k+1)) (addW (k:Int) 1))∨(¬P k∧∀κ,B κ (st k) (k:Int)=some false))
  (hf:(∀k,k < n→P k)→∃r,(∀κ,B κ (st n) (n:Int)=some r)∧(r=true↔Q)):Z6 (L FU (st 0) 0) ((∀k,k < n→P k)∧Q):=by
 have key:∀(m k:Nat),k≤n→n - k < m→(∀j,j < k→P j)→Z6 (L m (st k) (k:Int)) ((∀j,j < n→P j)∧Q):=by
  intro m
  induction m with
  | zero=>intro k _ h;omega
  | succ m ih=>
   intro k hk hm hp
   rw[hL]
   by_cases hc:k < n
   ·rcases hs k hc with⟨h1,h2⟩|⟨h1,h2⟩
    ·rw[h2,Y5 (by omega)]
     refine ih (k+1) (by omega) (by omega) fun j hj=>?_
     by_cases hjk:j=k
     ·subst hjk;exact h1
     ·exact hp j (by omega)
    ·rw[h2];exact .no fun q=>h1 (q.1 k hc)
   ·have:k=n:=by omega
    subst this
    obtain⟨r,hr,hq⟩:=hf hp
    rw[hr]
    exact .of ⟨fun h=>⟨hp,hq.1 h⟩,fun h=>hq.2 h.2⟩
 have:=key FU 0 (Nat.zero_le _) (by have:=Wj;omega) (fun j hj=>by omega)
 simpa using this
theorem Zhq {n:Nat} (hn:n < 4611686018427387904) {P:Nat→Prop} {Q:Prop} {B:(Int→Option Bool)→Int→Option Bool} {L:Nat→Int→Option Bool} (hL:∀m i,L (m+1) i=B (L m) i)
  (hs:∀k,k < n→(P k∧∀κ,B κ (k:Int)=κ (addW (k:Int) 1))∨(¬P k∧∀κ,B κ (k:Int)=some false))
  (hf:(∀k,k < n→P k)→∃r,(∀κ,B κ (n:Int)=some r)∧(r=true↔Q)):Z6 (L FU 0) ((∀k,k < n→P k)∧Q):=
 Znj (σ:=Unit) hn (fun _=>()) (B:=fun κ _ i=>B (κ ()) i) (L:=fun m _ i=>L m i) (fun m _ i=>hL m i) (fun k hk=>(hs k hk).imp (fun h=>⟨h.1,fun κ=>h.2 _⟩) fun h=>⟨h.1,fun κ=>h.2 _⟩)
  (fun h=>by obtain⟨r,h1,h2⟩:=hf h;exact⟨r,fun κ=>h1 _,h2⟩)
end
instance:Inhabited GDone:=⟨GDone.z0⟩
instance:Inhabited GBeat:=⟨GBeat.z0⟩
def Zy (m:GMst):Bool:=decide (m.queue≠[])&&((atI m.queue 0).lock&&!m.broken)
def flyG (b:GBus) (i:Int):Int:=(if b.addr.live=true∧b.addr.who=i then 1 else 0)+(if b.data_.live=true∧b.data_.who=i then 1 else 0)
structure MstP (c:GConf) (b:GBus) (i:Int):Prop where
 right:RightP (atI b.m i)
 tries:(atI b.m i).tries≤c.maxRetry
 bucket:Z5 (atI b.buckets i) (atI c.masters i)=true
 split:0≤atI b.splits i∧atI b.splits i≤c.maxSplit
def Qr (b:GBus) (x:GBeat):Prop:=Za b.conf x.who=true∧(1≤x.by_∧x.by_≤3)∧atI b.splits x.who=0
def Wt (b:GBus):Prop:=if b.addr.live=true then b.addr.beat=(atI b.m b.addr.who).beat - 1∧b.addr.left=0∧b.addr.resp=0∧b.addr.second=false else b.addr=GBeat.z0
def X9 (b:GBus):Prop:=if b.data_.live=true then
  (b.data_.beat=(atI b.m b.data_.who).done∧(0≤b.data_.left∧b.data_.left≤b.conf.maxWait+2)∧(0≤b.data_.resp∧b.data_.resp≤3))∧
  (b.data_.resp=2→(atI b.m b.data_.who).tries < b.conf.maxRetry)∧(b.data_.resp=3→(atI b.m b.data_.who).parted=false∧b.data_.who≠b.holder)∧
  (b.data_.second=true→b.data_.left=0∧b.data_.resp≠0∧b.addr.live=false)
 else b.data_=GBeat.z0
def Za3 (b:GBus):Prop:=(∀i,Za b.conf i=true→(atI b.m i).beat > 0→Zy (atI b.m i)=true→b.holder=i)∧
 (if b.holder=-1 then b.held=0 else Za b.conf b.holder=true∧Zy (atI b.m b.holder)=true∧atI b.splits b.holder=0∧(0≤b.held∧b.held≤b.conf.lockMost))
def Zr6 (c:GConf) (now:Int) (d:GDone):Prop:=(0≤d.cycle∧d.cycle < now)∧Za c d.who=true∧Xc d.addr d.size=true∧d.addr < 512∧numG d.value d.size=true∧(d.resp=0∨d.resp=1)
def logP (b:GBus):Prop:=(∀d∈b.log,Zr6 b.conf b.now d)∧b.log.Pairwise fun x y=>x.cycle < y.cycle
structure BusP (b:GBus):Prop where
 conf:Z8 b.conf=true
 now:0≤b.now∧b.now≤4000
 ml:b.m.length=b.conf.masters.length
 bl:b.buckets.length=b.conf.masters.length
 sl:b.splits.length=b.conf.masters.length
 mst:∀i,Za b.conf i=true→MstP b.conf b i
 arb:wrrG b.arb b.conf=true
 last:b.last=-1∨Za b.conf b.last=true
 model:ModelP b.model
 picks:0≤b.picks∧b.picks≤b.now
 alive:b.addr.live=true→Qr b b.addr
 dlive:b.data_.live=true→Qr b b.data_
 fly:∀i,Za b.conf i=true→(atI b.m i).beat - (atI b.m i).done=flyG b i
 addr:Wt b
 data:X9 b
 held:Za3 b
 log:logP b
structure GBus.sm (b:GBus):Prop where
 conf:b.conf.masters.length < 1048577
 ml:b.m.length < 1048577
 mst:∀x∈b.m,x.sm
 bl:b.buckets.length < 1048577
 sl:b.splits.length < 1048577
 model:b.model.sm
 log:b.log.length < 1048577
theorem mas {c:GConf} {k:Nat} (h:k < c.masters.length):Za c (k:Int)=true:=by simp[Za,h]
theorem Zkl {c:GConf} {i:Int} (h:Za c i=true):∃k:Nat,i=(k:Int)∧k < c.masters.length:=by
 simp only[Za,decide_eq_true_eq] at h
 exact⟨i.toNat,by omega,by omega⟩
theorem Zns {c:GConf} {P:Int→Prop}:(∀i,Za c i=true→P i)↔∀k:Nat,k < c.masters.length→P (k:Int):=by
 constructor
 ·intro h k hk;exact h _ (mas hk)
 ·intro h i hi
  obtain⟨k,rfl,hk⟩:=Zkl hi
  exact h k hk
theorem Ww {b:GBus} (hl:b.m.length=b.conf.masters.length) {i:Int} (h:Za b.conf i=true):idx b.m i=some (atI b.m i):=by
 simp only[Za,decide_eq_true_eq] at h;exact Xj h.1 (by omega)
theorem Z2d {b:GBus} (hl:b.buckets.length=b.conf.masters.length) {i:Int} (h:Za b.conf i=true):idx b.buckets i=some (atI b.buckets i):=by
 simp only[Za,decide_eq_true_eq] at h;exact Xj h.1 (by omega)
theorem Zli {b:GBus} (hl:b.splits.length=b.conf.masters.length) {i:Int} (h:Za b.conf i=true):idx b.splits i=some (atI b.splits i):=by
 simp only[Za,decide_eq_true_eq] at h;exact Xj h.1 (by omega)
theorem Zye {c:GConf} {i:Int} (h:Za c i=true):idx c.masters i=some (atI c.masters i):=by
 simp only[Za,decide_eq_true_eq] at h;exact Xj h.1 h.2
theorem mem_m {b:GBus} (hl:b.m.length=b.conf.masters.length) {i:Int} (h:Za b.conf i=true):atI b.m i∈b.m:=by
 simp only[Za,decide_eq_true_eq] at h;exact Zen h.1 (by omega)
theorem Zxd (x:GBeat):((x.live == false)&&(decide (x.who=0)&&(decide (x.beat=0)&&((x.first == false)&&(decide (x.by_=0)&&(decide (x.left=0)&&(decide (x.resp=0)&&((x.second == false)&&true))))))))=true↔x=GBeat.z0:=by
 obtain⟨a1,a2,a3,a4,a5,a6,a7,a8⟩:=x
 simp only[Bool.and_eq_true,beq_iff_eq,decide_eq_true_eq,GBeat.mk.injEq,and_true]
theorem Zr1 (m:GMst):Zix m=some (Zy m):=by
 unfold Zix Zy
 by_cases h:m.queue=[]
 ·simp[h]
 ·have h1:0 < m.queue.length:=List.length_pos_iff.2 h
  rw[Xj (by omega) (by omega),Option.bind_some,if_pos (by simp;omega)]
  cases h2:(atI m.queue 0).lock<;>simp[h]
theorem Zma (b:GBus) (hs:b.sm) (hc:Z8 b.conf=true):Z6 (Zbg b) (b.m.length=b.conf.masters.length∧b.buckets.length=b.conf.masters.length∧b.splits.length=b.conf.masters.length∧∀i,Za b.conf i=true→MstP b.conf b i):=by
 unfold Zbg
 by_cases h1:b.m.length=b.conf.masters.length
 ·rw[if_neg (by simp;omega)]
  by_cases h2:b.buckets.length=b.conf.masters.length
  ·rw[if_neg (by simp;omega)]
   unfold X3
   by_cases h3:b.splits.length=b.conf.masters.length
   ·rw[if_neg (by simp;omega)]
    have:=Xo hc
    refine (Zhq (n:=b.m.length) (P:=fun k=>MstP b.conf b (k:Int)) (Q:=True) (by omega) (B:=Kj b) (fun m i=>rfl) (fun k hk=>?_) fun _=>⟨true,fun κ=>?_,by simp⟩).iff ?_
    ·have hm:=mas (c:=b.conf) (k:=k) (by omega)
     have hms:=hs.mst _ (mem_m h1 hm)
     unfold Kj
     simp only[if_pos (show decide ((k:Int) < (b.m.length:Int))=true by simpa using hk),Ww h1 hm,Z2d h2 hm,Zli h3 hm,Zye hm,Option.bind_some,Kg _ hms,Zs7,Ym]
     by_cases e1:Zml (atI b.m (k:Int))=true
     ·by_cases e2:(atI b.m (k:Int)).tries≤b.conf.maxRetry
      ·by_cases e3:Z5 (atI b.buckets (k:Int)) (atI b.conf.masters (k:Int))=true
       ·by_cases e4:0≤atI b.splits (k:Int)∧atI b.splits (k:Int)≤b.conf.maxSplit
        ·refine .inl ⟨⟨Zad.1 e1,e2,e3,e4⟩,fun κ=>?_⟩
         have e5:¬(atI b.m (k:Int)).tries > b.conf.maxRetry:=by omega
         simp[e1,e3,e4,e5]
        ·refine .inr ⟨fun h=>e4 h.split,fun κ=>?_⟩
         simp[e1,e3,e4]
       ·refine .inr ⟨fun h=>e3 h.bucket,fun κ=>?_⟩
        simp[e1,e3]
      ·refine .inr ⟨fun h=>e2 h.tries,fun κ=>?_⟩
       have e5:(atI b.m (k:Int)).tries > b.conf.maxRetry:=by omega
       simp[e1,e5]
     ·refine .inr ⟨fun h=>e1 (Zad.2 h.right),fun κ=>?_⟩
      simp[e1]
    ·unfold Kj
     rw[if_neg (by simp)]
    ·rw[and_true,h1,←Zns]
     exact⟨fun h=>⟨rfl,h2,h3,h⟩,fun h=>h.2.2.2⟩
   ·rw[if_pos (by simp;omega)]
    exact .no fun h=>h3 h.2.2.1
  ·rw[if_pos (by simp;omega)]
   unfold X3
   rw[if_pos rfl]
   exact .no fun h=>h2 h.2.1
 ·rw[if_pos (by simp;omega)]
  unfold X3
  rw[if_pos rfl]
  exact .no fun h=>h1 h.1
theorem Yb7 (b:GBus):Zjy b=some ([b.addr,b.data_].filter (·.live)):=by
 unfold Zjy
 have:Y7 [b.addr,b.data_]=some ([b.addr,b.data_].filter (·.live)):=by
  unfold Y7 Wc
  exact Z48 [b.addr,b.data_] GBeat.z0 (by simp) Zgp (·.live) (fun a _=>rfl) _ (fun m i=>rfl) _ (fun m v i j=>rfl)
 rw[this]
 rfl
def flyL:List GBeat→List Int→List Int
 | [],l=>l
 | x::xs,l=>flyL xs (l.set x.who.toNat (atI l x.who+1))
theorem Ybj:∀(xs:List GBeat) (x:GBeat) (l:List Int),flyL (xs++[x]) l=(flyL xs l).set x.who.toNat (atI (flyL xs l) x.who+1):=by
 intro xs
 induction xs with
 | nil=>intro x l;rfl
 | cons y xs ih=>intro x l;exact ih x _
theorem Z2l:∀(xs:List GBeat) (l:List Int),(flyL xs l).length=l.length:=by
 intro xs
 induction xs with
 | nil=>intro l;rfl
 | cons y xs ih=>intro l;rw[flyL,ih,List.length_set]
theorem Yf5:∀(xs:List GBeat) (l:List Int) (i:Int),0≤i→i < (l.length:Int)→(∀x∈xs,0≤x.who∧x.who < (l.length:Int))→atI (flyL xs l) i=atI l i+(xs.countP fun x=>decide (x.who=i):Nat):=by
 intro xs
 induction xs with
 | nil=>intro l i _ _ _;simp[flyL]
 | cons y xs ih=>
  intro l i h0 h1 hx
  have hy:=hx y (List.mem_cons_self ..)
  rw[flyL,ih _ i h0 (by simpa using h1) (fun x hxm=>by simpa using hx x (List.mem_cons_of_mem _ hxm)),List.countP_cons]
  by_cases h:y.who=i
  ·subst h
   rw[Zex _ hy.1 hy.2]
   simp;omega
  ·rw[Zpt _ hy.1 h0 h]
   simp[h]
theorem Yaq (b:GBus) (i:Int):(([b.addr,b.data_].filter (·.live)).countP fun x=>decide (x.who=i):Nat)=flyG b i:=by
 unfold flyG
 by_cases h1:b.addr.live=true<;>by_cases h2:b.data_.live=true<;>by_cases h3:b.addr.who=i<;>by_cases h4:b.data_.who=i<;>simp[h1,h2,h3,h4]
theorem Ye3 {b:GBus} {P:GBeat→Prop}:(∀k (h:k < ([b.addr,b.data_].filter (·.live)).length),P (([b.addr,b.data_].filter (·.live))[k]))↔(b.addr.live=true→P b.addr)∧(b.data_.live=true→P b.data_):=by
 have:(∀k (h:k < ([b.addr,b.data_].filter (·.live)).length),P (([b.addr,b.data_].filter (·.live))[k]))↔∀x∈[b.addr,b.data_].filter (·.live),P x:=by
  constructor
  ·intro h x hx
   obtain⟨k,hk,rfl⟩:=List.getElem_of_mem hx
   exact h k hk
  ·intro h k hk;exact h _ (List.getElem_mem hk)
 rw[this]
 constructor
 ·intro h;exact⟨fun h1=>h _ (by simp[h1]),fun h1=>h _ (by simp[h1])⟩
 ·intro h x hx
  simp only[List.mem_filter,List.mem_cons,List.not_mem_nil,or_false] at hx
  rcases hx with⟨rfl|rfl,hx⟩
  ·exact h.1 hx
  ·exact h.2 hx
theorem Zy1 (b:GBus):Z6 (Xz b false) (b.data_.second=true→b.data_.left=0∧b.data_.resp≠0∧b.addr.live=false):=by
 unfold Xz
 rw[if_neg (by simp)]
 by_cases h1:b.data_.second=true
 ·rw[if_neg (by simp[h1])]
  by_cases h2:b.data_.left=0
  ·rw[if_pos (by simpa using h2)]
   by_cases h3:b.data_.resp=0
   ·rw[if_neg (by simpa using h3)];exact .no fun h=>(h h1).2.1 h3
   ·rw[if_pos (by simpa using h3)]
    exact .of (by simp[h1,h2,h3])
  ·rw[if_neg (by simpa using h2)];exact .no fun h=>h2 (h h1).1
 ·rw[if_pos (by simpa using h1)];exact .yes fun h=>absurd h h1
theorem Xe {c:GConf} (hc:Z8 c=true):(0≤c.maxRetry∧c.maxRetry≤3)∧(0≤c.maxWait∧c.maxWait≤3)∧(1≤c.lockMost∧c.lockMost≤40)∧(1≤c.maxSplit∧c.maxSplit≤12):=by
 simp only[Z8,Bool.and_eq_true,decide_eq_true_eq] at hc
 have h3:=hc.1.2
 have h4:Xh c≠0:=fun h=>h3 (by unfold Zz;rw[if_pos h])
 have h5:1≤c.lockMost∧c.lockMost≤40:=by
  unfold Zz at h3
  rw[if_neg h4] at h3
  by_cases h6:1≤c.lockMost∧c.lockMost≤40
  ·exact h6
  ·rw[if_neg h6] at h3;exact absurd rfl h3
 have h6:(0≤c.maxRetry∧c.maxRetry≤3)∧(0≤c.maxWait∧c.maxWait≤3):=by
  unfold Xh at h4
  by_cases h7:(0≤c.maxRetry∧c.maxRetry≤3)∧(0≤c.maxWait∧c.maxWait≤3)
  ·exact h7
  ·rw[if_neg h7] at h4;exact absurd rfl h4
 exact⟨h6.1,h6.2,h5,hc.1.1.2⟩
theorem Z8u (b:GBus) (hc:Z8 b.conf=true) (h1:b.m.length=b.conf.masters.length) (hl:b.data_.live=true→Qr b b.data_):Z6 (Yg b false) (X9 b):=by
 have hw:=(Xe hc).2.1
 unfold Yg X9
 rw[if_neg (by simp)]
 by_cases hd:b.data_.live=true
 ·obtain⟨hm,hby,hsp⟩:=hl hd
  rw[if_neg (by simp[hd]),Ww h1 hm,Option.bind_some,if_pos hd,Ym,Option.bind_some,Ym,Option.bind_some,Zm (by omega) (by omega)]
  have hJ6:∀v,Z6 (Q3 b (atI b.m b.data_.who) v) (v=false∧(b.data_.resp=3→(atI b.m b.data_.who).parted=false∧b.data_.who≠b.holder)∧(b.data_.second=true→b.data_.left=0∧b.data_.resp≠0∧b.addr.live=false)):=by
   intro v
   unfold Q3
   cases v with
   | true=>rw[if_pos rfl];exact .no fun h=>by simp at h
   | false=>
    rw[if_neg (by simp)]
    by_cases h3:b.data_.resp=3
    ·rw[if_pos (by simpa using h3)]
     by_cases h4:(atI b.m b.data_.who).parted=true
     ·rw[if_pos h4]
      unfold Xz
      rw[if_pos rfl]
      exact .no fun h=>by have:=(h.2.1 h3).1;rw[h4] at this;cases this
     ·rw[if_neg h4]
      by_cases h5:b.data_.who=b.holder
      ·rw[decide_eq_true h5]
       unfold Xz
       rw[if_pos rfl]
       exact .no fun h=>(h.2.1 h3).2 h5
      ·rw[decide_eq_false h5]
       exact (Zy1 b).iff ⟨fun h=>⟨rfl,fun _=>⟨by simpa using h4,h5⟩,h⟩,fun h=>h.2.2⟩
    ·rw[if_neg (by simpa using h3)]
     exact (Zy1 b).iff ⟨fun h=>⟨rfl,fun h6=>absurd h6 h3,h⟩,fun h=>h.2.2⟩
  have hJ5:∀v,Z6 (Qc b (atI b.m b.data_.who) v) (v=false∧(b.data_.resp=2→(atI b.m b.data_.who).tries < b.conf.maxRetry)∧(b.data_.resp=3→(atI b.m b.data_.who).parted=false∧b.data_.who≠b.holder)∧(b.data_.second=true→b.data_.left=0∧b.data_.resp≠0∧b.addr.live=false)):=by
   intro v
   unfold Qc
   cases v with
   | true=>rw[if_pos rfl];exact .no fun h=>by simp at h
   | false=>
    rw[if_neg (by simp)]
    by_cases h3:b.data_.resp=2
    ·rw[if_pos (by simpa using h3)]
     refine (hJ6 _).iff ?_
     simp[h3]
    ·rw[if_neg (by simpa using h3)]
     refine (hJ6 _).iff ?_
     simp[h3]
  by_cases h3:b.data_.beat=(atI b.m b.data_.who).done
  ·rw[if_neg (by simpa using h3)]
   by_cases h4:0≤b.data_.left∧b.data_.left≤b.conf.maxWait+2
   ·rw[if_neg (by simpa using h4)]
    refine (hJ5 _).iff ?_
    simp[h3,h4]
   ·rw[if_pos (by rw[decide_eq_false h4];rfl)]
    exact (hJ5 _).iff ⟨fun h=>by simp at h,fun h=>absurd h.1.2.1 h4⟩
  ·rw[if_pos (by simpa using h3)]
   exact (hJ5 _).iff ⟨fun h=>by simp at h,fun h=>absurd h.1.1 h3⟩
 ·rw[if_pos (by simpa using hd),if_neg hd]
  exact .of (Zxd _)
theorem Ycs {l:List Int} {N:Int} (hN:0≤N) (h:∀v∈l,0≤v∧v≤N) (i:Int):0≤atI l i∧atI l i≤N:=by
 unfold atI
 rw[List.getD_eq_getElem?_getD]
 cases hg:l[i.toNat]? with
 | none=>exact⟨Int.le_refl _,hN⟩
 | some v=>exact h v (List.mem_of_getElem? hg)
theorem Yd3:∀(xs:List GBeat) (l:List Int) (N:Int),0≤N→(∀v∈l,0≤v∧v≤N)→∀v∈flyL xs l,0≤v∧v≤N+xs.length:=by
 intro xs
 induction xs with
 | nil=>intro l N _ h v hv;have:=h v hv;simpa using this
 | cons x xs ih=>
  intro l N hN h v hv
  have h2:=Ycs hN h x.who
  have:=ih (l.set x.who.toNat (atI l x.who+1)) (N+1) (by omega) (fun y hy=>by
   rcases List.mem_or_eq_of_mem_set hy with hy|rfl
   ·have:=h y hy;omega
   ·omega) v hv
  simp only[List.length_cons]
  omega
theorem Zwp (b:GBus) (hc:Z8 b.conf=true) (h1:b.m.length=b.conf.masters.length) (h3:b.splits.length=b.conf.masters.length) (hr:∀i,Za b.conf i=true→RightP (atI b.m i)):
  Z6 (Kt b) (((b.addr.live=true→Qr b b.addr)∧(b.data_.live=true→Qr b b.data_))∧(∀i,Za b.conf i=true→(atI b.m i).beat - (atI b.m i).done=flyG b i)∧Wt b∧X9 b):=by
 have hlen:=Xo hc
 have hlt:=Ke hc
 unfold Kt
 rw[Yb0 (by omega) (by omega),Option.bind_some,Yb7,Option.bind_some]
 generalize hLs:[b.addr,b.data_].filter (·.live)=ls
 have hls:ls.length≤2:=by
  rw[←hLs]
  exact Nat.le_trans (List.length_filter_le ..) (by simp)
 have hmast:∀x:GBeat,Za b.conf x.who=true→0≤x.who∧x.who < (b.m.length:Int):=fun x h=>by
  simp only[Za,decide_eq_true_eq] at h;omega
 have hL2:(∀x∈ls,Za b.conf x.who=true)→((b.addr.live=true→Qr b b.addr)∧(b.data_.live=true→Qr b b.data_))→Z6 (Q4 b FU (flyL ls (List.replicate b.m.length 0)) 0) ((∀i,Za b.conf i=true→(atI b.m i).beat - (atI b.m i).done=flyG b i)∧Wt b∧X9 b):=by
  intro hml hlive
  have hfa:∀i,Za b.conf i=true→atI (flyL ls (List.replicate b.m.length 0)) i=flyG b i:=by
   intro i hi
   simp only[Za,decide_eq_true_eq] at hi
   rw[Yf5 _ _ i hi.1 (by simp;omega) (fun x hx=>by have:=hmast x (hml x hx);simpa using this),←Yaq,hLs]
   have:atI (List.replicate b.m.length (0:Int)) i=0:=by
    unfold atI
    rw[List.getD_eq_getElem?_getD,List.getElem?_replicate]
    split<;>rfl
   rw[this];simp
  have hQ:∃r,(∀κ,Y9 b κ (flyL ls (List.replicate b.m.length 0)) (b.m.length:Int)=some r)∧(r=true↔Wt b∧X9 b):=by
   obtain⟨r,h4,h5⟩:=Z8u b hc h1 hlive.2
   have hJ4t:Yg b true=some false:=by unfold Yg;rw[if_pos rfl]
   by_cases ha:b.addr.live=true
   ·obtain⟨hm,hby,hsp⟩:=hlive.1 ha
    have hrb:=J6 (hr _ hm)
    by_cases e1:b.addr.beat=(atI b.m b.addr.who).beat - 1∧b.addr.left=0∧b.addr.resp=0∧b.addr.second=false
    ·refine⟨r,fun κ=>?_,?_⟩
     ·unfold Y9
      obtain⟨f1,f2,f3,f4⟩:=e1
      rw[if_neg (by simp),if_pos ha,Ww h1 hm,Option.bind_some,Yx (by omega) (by omega)]
      simp only[f1,f2,f3,f4,ha,ne_eq,not_true_eq_false,decide_false,Bool.false_eq_true,if_false,Bool.not_true,h4]
     ·rw[h5];unfold Wt;rw[if_pos ha];exact⟨fun h=>⟨e1,h⟩,fun h=>h.2⟩
    ·refine⟨false,fun κ=>?_,?_⟩
     ·unfold Y9
      rw[if_neg (by simp),if_pos ha,Ww h1 hm,Option.bind_some,Yx (by omega) (by omega)]
      by_cases f1:b.addr.beat=(atI b.m b.addr.who).beat - 1
      ·by_cases f2:b.addr.left=0
       ·by_cases f3:b.addr.resp=0
        ·have f4:b.addr.second=true:=by
          cases hs:b.addr.second with
          | true=>rfl
          | false=>exact absurd ⟨f1,f2,f3,hs⟩ e1
         rw[if_neg (by simpa using f1),if_neg (by simpa using f2),if_neg (by simpa using f3),if_pos f4,hJ4t]
        ·rw[if_neg (by simpa using f1),if_neg (by simpa using f2),if_pos (by simpa using f3),hJ4t]
       ·rw[if_neg (by simpa using f1),if_pos (by simpa using f2),hJ4t]
      ·rw[if_pos (by simpa using f1),hJ4t]
     ·unfold Wt;rw[if_pos ha];simp[e1]
   ·by_cases e1:b.addr=GBeat.z0
    ·refine⟨r,fun κ=>?_,?_⟩
     ·unfold Y9
      rw[if_neg (by simp),if_neg ha,if_pos (by simpa using ha),(Zxd b.addr).2 e1]
      exact h4
     ·rw[h5];unfold Wt;rw[if_neg ha];exact⟨fun h=>⟨e1,h⟩,fun h=>h.2⟩
    ·refine⟨false,fun κ=>?_,?_⟩
     ·unfold Y9
      rw[if_neg (by simp),if_neg ha,if_pos (by simpa using ha)]
      have:((b.addr.live == false)&&(decide (b.addr.who=0)&&(decide (b.addr.beat=0)&&((b.addr.first == false)&&(decide (b.addr.by_=0)&&(decide (b.addr.left=0)&&(decide (b.addr.resp=0)&&((b.addr.second == false)&&true))))))))=false:=by
       rw[←Bool.not_eq_true,Zxd];exact e1
      rw[this,Bool.not_false,hJ4t]
     ·unfold Wt;rw[if_neg ha];simp[e1]
  obtain⟨r,hr1,hr2⟩:=hQ
  refine (Znj (σ:=List Int) (n:=b.m.length) (by omega) (P:=fun k=>(atI b.m (k:Int)).beat - (atI b.m (k:Int)).done=flyG b (k:Int)) (Q:=Wt b∧X9 b) (fun _=>flyL ls (List.replicate b.m.length 0)) (B:=Y9 b) (L:=Q4 b) (fun m s i=>rfl) (fun k hk=>?_) fun _=>⟨r,hr1,hr2⟩).iff ?_
  ·have hm:=mas (c:=b.conf) (k:=k) (by omega)
   have hrb:=J6 (hr _ hm)
   have hfl:=Z2l ls (List.replicate b.m.length 0)
   rw[List.length_replicate] at hfl
   have hi:idx (flyL ls (List.replicate b.m.length 0)) (k:Int)=some (flyG b (k:Int)):=by
    rw[Xj (by omega) (by omega),hfa _ hm]
   by_cases e1:(atI b.m (k:Int)).beat - (atI b.m (k:Int)).done=flyG b (k:Int)
   ·refine .inl ⟨e1,fun κ=>?_⟩
    unfold Y9
    rw[if_pos (by simpa using hk),Ww h1 hm,Option.bind_some,hi,Option.bind_some,Yx (by omega) (by omega),if_neg (by simpa using e1)]
   ·refine .inr ⟨e1,fun κ=>?_⟩
    unfold Y9
    rw[if_pos (by simpa using hk),Ww h1 hm,Option.bind_some,hi,Option.bind_some,Yx (by omega) (by omega),if_pos (by simpa using e1)]
  ·rw[h1,←Zns (P:=fun i=>(atI b.m i).beat - (atI b.m i).done=flyG b i)]
 have hlv:(∀k,k < ls.length→Qr b (atI ls (k:Int)))↔((b.addr.live=true→Qr b b.addr)∧(b.data_.live=true→Qr b b.data_)):=by
  rw[←Ye3 (P:=Qr b),hLs]
  constructor
  ·intro h k hk;have:=h k hk;rwa [Yh hk] at this
  ·intro h k hk;rw[Yh hk];exact h k hk
 have hstep:∀k,k < ls.length→(Qr b (atI ls (k:Int))∧∀κ,Y8 b κ (flyL (ls.take k) (List.replicate b.m.length 0)) ls (ls.length:Int) (k:Int)=κ (flyL (ls.take (k+1)) (List.replicate b.m.length 0)) ls (ls.length:Int) (addW (k:Int) 1))∨(¬Qr b (atI ls (k:Int))∧∀κ,Y8 b κ (flyL (ls.take k) (List.replicate b.m.length 0)) ls (ls.length:Int) (k:Int)=some false):=by
  intro k hk
  have hfl:=Z2l (ls.take k) (List.replicate b.m.length 0)
  rw[List.length_replicate] at hfl
  have hJ3:∀κ x,Wn b κ x (flyL (ls.take k) (List.replicate b.m.length 0)) ls (ls.length:Int) (k:Int) true=some false:=fun κ x=>by unfold Wn;rw[if_pos rfl]
  by_cases e1:Za b.conf (atI ls (k:Int)).who=true
  ·by_cases e2:1≤(atI ls (k:Int)).by_∧(atI ls (k:Int)).by_≤3
   ·by_cases e3:atI b.splits (atI ls (k:Int)).who=0
    ·refine .inl ⟨⟨e1,e2,e3⟩,fun κ=>?_⟩
     unfold Y8
     have hw:=hmast _ e1
     rw[if_pos (by simpa using hk),Xj (by omega) (by omega),Option.bind_some,Wv _ _ hlt,Option.bind_some,e1,if_neg (by simp),Ym,Option.bind_some,if_neg (by simpa using e2),Zli h3 e1,Option.bind_some,e3]
     unfold Wn
     have hb:=Ycs (by omega) (Yd3 (ls.take k) (List.replicate b.m.length 0) 0 (by omega) (fun v hv=>by rw[List.eq_of_mem_replicate hv];omega)) (atI ls (k:Int)).who
     have hk2:(ls.take k).length≤2:=by rw[List.length_take];omega
     rw[if_neg (by simp),Xj hw.1 (by omega),Option.bind_some,Zm (a:=atI (flyL (ls.take k) (List.replicate b.m.length 0)) (atI ls (k:Int)).who) (by omega) (by omega),Qi,Option.bind_some,List.take_succ_eq_append_getElem hk,Ybj,Yh hk]
    ·refine .inr ⟨fun h=>e3 h.2.2,fun κ=>?_⟩
     unfold Y8
     rw[if_pos (by simpa using hk),Xj (by omega) (by omega),Option.bind_some,Wv _ _ hlt,Option.bind_some,e1,if_neg (by simp),Ym,Option.bind_some,if_neg (by simpa using e2),Zli h3 e1,Option.bind_some,decide_eq_true e3,hJ3]
   ·refine .inr ⟨fun h=>e2 h.2.1,fun κ=>?_⟩
    unfold Y8
    rw[if_pos (by simpa using hk),Xj (by omega) (by omega),Option.bind_some,Wv _ _ hlt,Option.bind_some,e1,if_neg (by simp),Ym,Option.bind_some,if_pos (by rw[decide_eq_false e2];rfl),hJ3]
  ·refine .inr ⟨fun h=>e1 h.1,fun κ=>?_⟩
   unfold Y8
   rw[if_pos (by simpa using hk),Xj (by omega) (by omega),Option.bind_some,Wv _ _ hlt,Option.bind_some,if_pos (by simpa using e1),hJ3]
 have hl1:=Znj (σ:=List Int×List GBeat×Int) (n:=ls.length) (by omega) (P:=fun k=>Qr b (atI ls (k:Int)))
  (Q:=(∀i,Za b.conf i=true→(atI b.m i).beat - (atI b.m i).done=flyG b i)∧Wt b∧X9 b)
  (fun k=>(flyL (ls.take k) (List.replicate b.m.length 0),ls,(ls.length:Int))) (B:=fun κ s i=>Y8 b (fun v l n i=>κ (v,l,n) i) s.1 s.2.1 s.2.2 i) (L:=fun m s i=>J1 b m s.1 s.2.1 s.2.2 i) (fun m s i=>rfl)
  (fun k hk=>(hstep k hk).imp (fun h=>⟨h.1,fun κ=>h.2 _⟩) fun h=>⟨h.1,fun κ=>h.2 _⟩)
 have hml:(∀k,k < ls.length→Qr b (atI ls (k:Int)))→∀x∈ls,Za b.conf x.who=true:=by
  intro h x hx
  obtain⟨k,hk,rfl⟩:=List.getElem_of_mem hx
  have:=(h k hk).1
  rwa [Yh hk] at this
 have hl2:=hl1 fun hall=>by
  obtain⟨r,hr1,hr2⟩:=hL2 (hml hall) (hlv.1 hall)
  refine⟨r,fun κ=>?_,hr2⟩
  unfold Y8
  rw[if_neg (by simp),List.take_length]
  exact hr1
 simp only[List.take_zero,flyL] at hl2
 exact hl2.iff (by rw[hlv])
theorem Zze (b:GBus) (hc:Z8 b.conf=true) (h1:b.m.length=b.conf.masters.length) (h3:b.splits.length=b.conf.masters.length):Z6 (Zah b) (Za3 b):=by
 have hlen:=Xo hc
 have hlt:=Ke hc
 unfold Zah Za3
 refine (Zhq (n:=b.m.length) (by omega) (P:=fun k=>(atI b.m (k:Int)).beat > 0→Zy (atI b.m (k:Int))=true→b.holder=(k:Int))
  (Q:=if b.holder=-1 then b.held=0 else Za b.conf b.holder=true∧Zy (atI b.m b.holder)=true∧atI b.splits b.holder=0∧(0≤b.held∧b.held≤b.conf.lockMost))
  (B:=Za2 b) (fun m i=>rfl) (fun k hk=>?_) fun _=>?_).iff ?_
 ·have hm:=mas (c:=b.conf) (k:=k) (by omega)
  unfold Za2
  simp only[if_pos (show decide ((k:Int) < (b.m.length:Int))=true by simpa using hk),Ww h1 hm,Option.bind_some,Zr1]
  by_cases e1:(atI b.m (k:Int)).beat > 0
  ·by_cases e2:Zy (atI b.m (k:Int))=true
   ·by_cases e3:b.holder=(k:Int)
    ·exact .inl ⟨fun _ _=>e3,fun κ=>by simp[e1,e2,e3]⟩
    ·exact .inr ⟨fun h=>e3 (h e1 e2),fun κ=>by simp[e1,e2,e3]⟩
   ·exact .inl ⟨fun _ h=>absurd h e2,fun κ=>by simp[e1,e2]⟩
  ·exact .inl ⟨fun h=>absurd h e1,fun κ=>by simp[e1]⟩
 ·unfold Za2
  simp only[Int.lt_irrefl,decide_false,Bool.false_eq_true,if_false]
  by_cases e1:b.holder=-1
  ·exact⟨decide (b.held=0),fun κ=>by simp[e1],by simp[e1]⟩
  ·simp only[e1,decide_false,Bool.false_eq_true,if_false,Wv _ _ hlt,Option.bind_some]
   by_cases e2:Za b.conf b.holder=true
   ·simp only[e2,if_true,Ww h1 e2,Zli h3 e2,Option.bind_some,Zr1,Ym]
    by_cases e3:Zy (atI b.m b.holder)=true
    ·by_cases e4:atI b.splits b.holder=0
     ·exact⟨decide (0≤b.held∧b.held≤b.conf.lockMost),fun κ=>by simp only[e3,e4,decide_true,if_true],by simp[e3,e4]⟩
     ·exact⟨false,fun κ=>by simp[e3,e4],by simp[e4]⟩
    ·exact⟨false,fun κ=>by simp[e3],by simp[e3]⟩
   ·exact⟨false,fun κ=>by simp[e2],by simp[e2]⟩
 ·rw[h1,←Zns (P:=fun i=>(atI b.m i).beat > 0→Zy (atI b.m i)=true→b.holder=i)]
def Ji (l:List GDone):Nat→Int
 | 0=>-1
 | k+1=>(atI l (k:Int)).cycle
theorem Z3v {l:List GDone}:(l.Pairwise fun x y=>x.cycle < y.cycle)↔∀k,k+1 < l.length→(atI l (k:Int)).cycle < (atI l ((k+1:Nat):Int)).cycle:=by
 constructor
 ·intro h k hk
  rw[Yh (by omega),Yh hk]
  exact List.pairwise_iff_getElem.1 h k (k+1) (by omega) hk (by omega)
 ·intro h
  rw[List.pairwise_iff_getElem]
  have key:∀(d i:Nat) (hj:i+d+1 < l.length),(l[i]'(by omega)).cycle < (l[i+d+1]'hj).cycle:=by
   intro d
   induction d with
   | zero=>
    intro i hj
    have:=h i hj
    rw[Yh (by omega),Yh hj] at this
    exact this
   | succ d ih=>
    intro i hj
    have h4:=ih i (by omega)
    have h5:=h (i+d+1) (by omega)
    rw[Yh (by omega),Yh (by omega)] at h5
    exact Int.lt_trans h4 h5
  intro i j hi hj hij
  have:=key (j - i - 1) i (by omega)
  have e:i+(j - i - 1)+1=j:=by omega
  simp only[e] at this
  exact this
theorem Z69 {b:GBus}:logP b↔∀k,k < b.log.length→Zr6 b.conf b.now (atI b.log (k:Int))∧Ji b.log k < (atI b.log (k:Int)).cycle:=by
 unfold logP
 constructor
 ·intro h k hk
  have h1:=h.1 _ (Zen (xs:=b.log) (i:=(k:Int)) (by omega) (by omega))
  refine⟨h1,?_⟩
  cases k with
  | zero=>have:=h1.1.1;simp only[Ji];omega
  | succ k=>exact Z3v.1 h.2 k hk
 ·intro h
  refine⟨fun d hd=>?_,Z3v.2 fun k hk=>?_⟩
  ·obtain⟨k,hk,rfl⟩:=List.getElem_of_mem hd
   have:=(h k hk).1
   rwa [Yh hk] at this
  ·exact (h (k+1) hk).2
def doneQ (c:GConf) (now:Int) (d:GDone):Prop:=d.cycle < now∧Za c d.who=true∧Xc d.addr d.size=true∧d.addr < 512∧numG d.value d.size=true∧(d.resp=0∨d.resp=1)
theorem Ydo {b:GBus}:logP b↔∀k,k < b.log.length→doneQ b.conf b.now (atI b.log (k:Int))∧Ji b.log k < (atI b.log (k:Int)).cycle:=by
 rw[Z69]
 constructor
 ·intro h k hk
  have:=h k hk
  exact⟨⟨this.1.1.2,this.1.2⟩,this.2⟩
 ·intro h
  have h0:∀k,k≤b.log.length→-1≤Ji b.log k:=by
   intro k
   induction k with
   | zero=>intro _;simp[Ji]
   | succ k ih=>
    intro hk
    have h1:=ih (by omega)
    have h2:=(h k (by omega)).2
    simp only[Ji]
    omega
  intro k hk
  have h1:=h k hk
  have h2:=h0 k (by omega)
  exact⟨⟨⟨by omega,h1.1.1⟩,h1.1.2⟩,h1.2⟩
theorem Zwi (b:GBus) (hc:Z8 b.conf=true) (hl:b.log.length < 1048577) (hn:0≤b.now∧b.now≤4000):Z6 (Kr b) (logP b):=by
 have hlt:=Ke hc
 unfold Kr
 have:=Znj (σ:=Int) (n:=b.log.length) (by omega) (P:=fun k=>doneQ b.conf b.now (atI b.log (k:Int))∧Ji b.log k < (atI b.log (k:Int)).cycle) (Q:=True)
  (Ji b.log) (B:=Jn b) (L:=Jy b) (fun m s i=>rfl) (fun k hk=>?_) fun _=>⟨true,fun κ=>?_,by simp⟩
 ·exact this.iff (by rw[and_true,Ydo])
 ·have e0:Ji b.log (k+1)=(atI b.log (k:Int)).cycle:=rfl
  rw[e0]
  unfold Jn
  simp only[if_pos (show decide ((k:Int) < (b.log.length:Int))=true by simpa using hk),Xj (xs:=b.log) (i:=(k:Int)) (by omega) (by omega),Option.bind_some,Wv _ _ hlt,Zjr,Zdj]
  generalize atI b.log (k:Int)=d
  by_cases e1:Ji b.log k < d.cycle
  ·have e1':¬d.cycle≤Ji b.log k:=by omega
   by_cases e2:d.cycle < b.now
   ·have e2':¬d.cycle≥b.now:=by omega
    by_cases e3:Za b.conf d.who=true
    ·by_cases e4:Xc d.addr d.size=true
     ·by_cases e5:d.addr < 512
      ·have e5':¬d.addr≥512:=by omega
       by_cases e6:numG d.value d.size=true
       ·by_cases e7:d.resp=0
        ·exact .inl ⟨⟨⟨e2,e3,e4,e5,e6,.inl e7⟩,e1⟩,fun κ=>by simp[e1',e2',e3,e4,e5',e6,e7]⟩
        ·by_cases e8:d.resp=1
         ·exact .inl ⟨⟨⟨e2,e3,e4,e5,e6,.inr e8⟩,e1⟩,fun κ=>by simp[e1',e2',e3,e4,e5',e6,e8]⟩
         ·exact .inr ⟨fun h=>by have:=h.1.2.2.2.2.2;omega,fun κ=>by simp[e1',e2',e3,e4,e5',e6,e7,e8]⟩
       ·exact .inr ⟨fun h=>e6 h.1.2.2.2.2.1,fun κ=>by simp[e1',e2',e3,e4,e5',e6]⟩
      ·have e5':d.addr≥512:=by omega
       exact .inr ⟨fun h=>e5 h.1.2.2.2.1,fun κ=>by simp[e1',e2',e3,e4,e5']⟩
     ·exact .inr ⟨fun h=>e4 h.1.2.2.1,fun κ=>by simp[e1',e2',e3,e4]⟩
    ·exact .inr ⟨fun h=>e3 h.1.2.1,fun κ=>by simp[e1',e2',e3]⟩
   ·have e2':d.cycle≥b.now:=by omega
    exact .inr ⟨fun h=>e2 h.1.1,fun κ=>by simp[e1',e2']⟩
  ·have e1':d.cycle≤Ji b.log k:=by omega
   exact .inr ⟨fun h=>e1 h.2,fun κ=>by simp[e1']⟩
 ·unfold Jn
  rw[if_neg (by simp)]
theorem Z1v (b:GBus) (hs:b.sm):Z6 (Zi2 b) (BusP b):=by
 unfold Zi2
 rw[Zac _ hs.conf,Option.bind_some]
 by_cases hc:Z8 b.conf=true
 ·rw[if_pos hc,Ym,Option.bind_some]
  by_cases hn:0≤b.now∧b.now≤4000
  ·rw[if_pos (decide_eq_true hn)]
   have hrest:b.m.length=b.conf.masters.length→b.buckets.length=b.conf.masters.length→b.splits.length=b.conf.masters.length→(∀i,Za b.conf i=true→MstP b.conf b i)→
     Z6 ((Zb9 b.model).bind fun r133=>if r133=true then (Zx b.picks 0 b.now).bind fun r140=>if r140=true then (Kt b).bind fun r143=>if r143=true then (Zah b).bind fun r146=>if r146=true then (Kr b).bind fun r149=>some r149 else some false else some false else some false else some false)
      (ModelP b.model∧(0≤b.picks∧b.picks≤b.now)∧(((b.addr.live=true→Qr b b.addr)∧(b.data_.live=true→Qr b b.data_))∧(∀i,Za b.conf i=true→(atI b.m i).beat - (atI b.m i).done=flyG b i)∧Wt b∧X9 b)∧Za3 b∧logP b):=by
    intro h1 h2 h3 hm
    rw[Ztm _ hs.model]
    refine Z6.and (Z6.of Zph) fun _=>?_
    rw[Ym]
    refine Z6.and (Z6.of (decide_eq_true_iff)) fun _=>?_
    refine Z6.and (Zwp b hc h1 h3 fun i hi=>(hm i hi).right) fun _=>?_
    refine Z6.and (Zze b hc h1 h3) fun _=>?_
    obtain⟨r,h4,h5⟩:=Zwi b hc hs.log hn
    rw[h4]
    exact .of h5
   have hw:Z6 (Zf4 b.arb b.conf) (wrrG b.arb b.conf=true):=by rw[Zss _ _ hs.conf];exact .of Iff.rfl
   by_cases hla:b.last=-1
   ·simp only[hla,decide_true,if_true]
    refine (Z6.and (Zma b hs hc) fun hm=>Z6.and hw fun _=>hrest hm.1 hm.2.1 hm.2.2.1 hm.2.2.2).iff ⟨fun h=>?_,fun h=>?_⟩
    ·obtain⟨⟨h1,h2,h3,h4⟩,h5,h6,h7,⟨⟨h8,h9⟩,h10,h11,h12⟩,h13,h14⟩:=h
     exact⟨hc,hn,h1,h2,h3,h4,h5,.inl hla,h6,h7,h8,h9,h10,h11,h12,h13,h14⟩
    ·exact⟨⟨h.ml,h.bl,h.sl,h.mst⟩,h.arb,h.model,h.picks,⟨⟨h.alive,h.dlive⟩,h.fly,h.addr,h.data⟩,h.held,h.log⟩
   ·have e:decide (b.last=-1)=false:=decide_eq_false hla
    simp only[e,Bool.false_eq_true,if_false]
    have hi:Z6 (Wb b.conf b.last) (Za b.conf b.last=true):=by rw[Wv _ _ hs.conf];exact .of Iff.rfl
    refine (Z6.and (Zma b hs hc) fun hm=>Z6.and hw fun _=>Z6.and hi fun _=>hrest hm.1 hm.2.1 hm.2.2.1 hm.2.2.2).iff ⟨fun h=>?_,fun h=>?_⟩
    ·obtain⟨⟨h1,h2,h3,h4⟩,h5,hx,h6,h7,⟨⟨h8,h9⟩,h10,h11,h12⟩,h13,h14⟩:=h
     exact⟨hc,hn,h1,h2,h3,h4,h5,.inr hx,h6,h7,h8,h9,h10,h11,h12,h13,h14⟩
    ·exact⟨⟨h.ml,h.bl,h.sl,h.mst⟩,h.arb,h.last.resolve_left hla,h.model,h.picks,⟨⟨h.alive,h.dlive⟩,h.fly,h.addr,h.data⟩,h.held,h.log⟩
  ·rw[if_neg (by simpa using hn)]
   exact .no fun h=>hn h.now
 ·rw[if_neg hc]
  exact .no fun h=>hc h.conf
theorem Ybf (b:GBus) (i:Int):Zqg b i=some (flyG b i):=by
 unfold Zqg Zj6 Zj9 flyG
 by_cases h1:b.addr.live=true<;>by_cases h2:b.data_.live=true<;>by_cases h3:b.addr.who=i<;>by_cases h4:b.data_.who=i<;>simp[h1,h2,h3,h4]<;>rfl
theorem Z10 (n:Int):∃w,Zo5 n=some w∧((!(w.toList == ByteArray.empty.toList))=true↔(0≤n∧n≤3)):=by
 unfold Zo5
 rw[Yk,Option.bind_some]
 by_cases h:0≤n∧n≤3
 ·have:n=0∨n=1∨n=2∨n=3:=by omega
  rcases this with rfl|rfl|rfl|rfl<;>exact⟨_,rfl,by rw[Z0b,Z0b];decide⟩
 ·rw[if_pos (by rw[decide_eq_false h];rfl)]
  exact⟨_,rfl,by simp[h]⟩
theorem Zid {b:GBus} (h1:b.m.length=b.conf.masters.length) (hlt:b.conf.masters.length < 1048577) (i:Int):Zj i 0 (subW (b.m.length:Int) 1)=some (Za b.conf i):=by
 rw[Yk,h1,Zno i hlt]
theorem Zzo (b:GBus) (hs:b.sm) (hc:Z8 b.conf=true) (h1:b.m.length=b.conf.masters.length) (h3:b.splits.length=b.conf.masters.length) (hm:∀i,Za b.conf i=true→MstP b.conf b i):
  Z6 (J7 b b.addr false) ((b.addr.live=true→Qr b b.addr)∧Wt b):=by
 have hlt:=Ke hc
 have hJ1:W0 b b.addr false true=some false:=by unfold W0;rw[if_pos rfl]
 unfold J7 Wt
 by_cases ha:b.addr.live=true
 ·rw[if_neg (by simp[ha]),if_pos ha,Zid h1 hlt,Option.bind_some,Yk,Option.bind_some]
  by_cases e1:Za b.conf b.addr.who=true
  ·rw[e1,if_neg (by simp)]
   by_cases e2:1≤b.addr.by_∧b.addr.by_≤3
   ·rw[if_neg (by simpa using e2),Zli h3 e1,Option.bind_some]
    have hsp:=(hm _ e1).split
    by_cases e3:atI b.splits b.addr.who=0
    ·rw[decide_eq_false (by omega)]
     have hrb:=J6 (hm _ e1).right
     unfold W0
     rw[if_neg (by simp),Ww h1 e1,Option.bind_some,if_pos (by simp),Yx (by omega) (by omega)]
     by_cases f1:b.addr.beat=(atI b.m b.addr.who).beat - 1
     ·by_cases f2:b.addr.left=0
      ·by_cases f3:b.addr.resp=0
       ·rw[if_pos (by simpa using f1),if_pos (by simpa using f2),if_pos (by simpa using f3)]
        refine .of ⟨fun h=>⟨fun _=>⟨e1,e2,e3⟩,f1,f2,f3,by simpa using h⟩,fun h=>by simpa using h.2.2.2.2⟩
       ·rw[if_pos (by simpa using f1),if_pos (by simpa using f2),if_neg (by simpa using f3)]
        exact .no fun h=>f3 h.2.2.2.1
      ·rw[if_pos (by simpa using f1),if_neg (by simpa using f2)]
       exact .no fun h=>f2 h.2.2.1
     ·rw[if_neg (by simpa using f1)]
      exact .no fun h=>f1 h.2.1
    ·rw[decide_eq_true (by omega),hJ1]
     exact .no fun h=>e3 (h.1 ha).2.2
   ·rw[if_pos (by rw[decide_eq_false e2];rfl),hJ1]
    exact .no fun h=>e2 (h.1 ha).2.1
  ·rw[if_pos (by simpa using e1),hJ1]
   exact .no fun h=>e1 (h.1 ha).1
 ·rw[if_pos (by simpa using ha),if_neg ha]
  exact (Z6.of (Zxd _)).iff ⟨fun h=>⟨fun h2=>absurd h2 ha,h⟩,fun h=>h.2⟩
theorem Zy8 (b:GBus) (hs:b.sm) (hc:Z8 b.conf=true) (h1:b.m.length=b.conf.masters.length) (h3:b.splits.length=b.conf.masters.length) (hm:∀i,Za b.conf i=true→MstP b.conf b i):
  Z6 (J7 b b.data_ true) ((b.data_.live=true→Qr b b.data_)∧X9 b):=by
 have hlt:=Ke hc
 have hw:=(Xe hc).2.1
 have hJ1:W0 b b.data_ true true=some false:=by unfold W0;rw[if_pos rfl]
 unfold J7 X9
 by_cases ha:b.data_.live=true
 ·rw[if_neg (by simp[ha]),if_pos ha,Zid h1 hlt,Option.bind_some,Yk,Option.bind_some]
  by_cases e1:Za b.conf b.data_.who=true
  ·rw[e1,if_neg (by simp)]
   by_cases e2:1≤b.data_.by_∧b.data_.by_≤3
   ·rw[if_neg (by simpa using e2),Zli h3 e1,Option.bind_some]
    have hsp:=(hm _ e1).split
    by_cases e3:atI b.splits b.data_.who=0
    ·rw[decide_eq_false (by omega)]
     have hrb:=J6 (hm _ e1).right
     have hJ2:Z6 (Zs b b.data_ true (atI b.m b.data_.who) false) ((b.data_.beat=(atI b.m b.data_.who).done∧(0≤b.data_.left∧b.data_.left≤b.conf.maxWait+2)∧(0≤b.data_.resp∧b.data_.resp≤3))∧(b.data_.second=true→b.data_.left=0∧b.data_.resp≠0)):=by
      unfold Zs
      obtain⟨w,hw1,hw2⟩:=Z10 b.data_.resp
      rw[if_neg (by simp),Yk,Option.bind_some,hw1,Option.bind_some,Zm (by omega) (by omega)]
      by_cases f1:b.data_.beat=(atI b.m b.data_.who).done
      ·rw[if_pos (by simpa using f1)]
       by_cases f2:0≤b.data_.left∧b.data_.left≤b.conf.maxWait+2
       ·rw[if_pos (by simpa using f2)]
        by_cases f3:0≤b.data_.resp∧b.data_.resp≤3
        ·rw[if_pos (hw2.2 f3)]
         by_cases f4:b.data_.second=true
         ·rw[if_neg (by simp[f4])]
          by_cases f5:b.data_.resp=0
          ·rw[if_neg (by simpa using f5)]
           exact .no fun h=>(h.2 f4).2 f5
          ·rw[if_pos (by simpa using f5)]
           refine .of ⟨fun h=>⟨⟨f1,f2,f3⟩,fun _=>⟨by simpa using h,f5⟩⟩,fun h=>by simpa using (h.2 f4).1⟩
         ·rw[if_pos (by simpa using f4)]
          exact .yes ⟨⟨f1,f2,f3⟩,fun h=>absurd h f4⟩
        ·rw[if_neg (fun h=>f3 (hw2.1 h))]
         exact .no fun h=>f3 h.1.2.2
       ·rw[if_neg (by rw[decide_eq_false f2];simp)]
        exact .no fun h=>f2 h.1.2.1
      ·rw[if_neg (by simpa using f1)]
       exact .no fun h=>f1 h.1.1
     have hJ2t:Zs b b.data_ true (atI b.m b.data_.who) true=some false:=by unfold Zs;rw[if_pos rfl]
     have hS:Z6 (if b.data_.second=true then Zs b b.data_ true (atI b.m b.data_.who) b.addr.live else Zs b b.data_ true (atI b.m b.data_.who) false)
       ((b.data_.beat=(atI b.m b.data_.who).done∧(0≤b.data_.left∧b.data_.left≤b.conf.maxWait+2)∧(0≤b.data_.resp∧b.data_.resp≤3))∧(b.data_.second=true→b.data_.left=0∧b.data_.resp≠0∧b.addr.live=false)):=by
      by_cases f4:b.data_.second=true
      ·rw[if_pos f4]
       by_cases f5:b.addr.live=true
       ·rw[f5,hJ2t]
        exact .no fun h=>by have:=(h.2 f4).2.2;cases this
       ·have f6:b.addr.live=false:=by simpa using f5
        rw[f6]
        exact hJ2.iff ⟨fun h=>⟨h.1,fun h2=>⟨(h.2 h2).1,(h.2 h2).2,rfl⟩⟩,fun h=>⟨h.1,fun h2=>⟨(h.2 h2).1,(h.2 h2).2.1⟩⟩⟩
      ·rw[if_neg f4]
       exact hJ2.iff ⟨fun h=>⟨h.1,fun h2=>absurd h2 f4⟩,fun h=>⟨h.1,fun h2=>absurd h2 f4⟩⟩
     have hT:Z6 (if decide (b.data_.resp=3)=true then if (atI b.m b.data_.who).parted=true then Zs b b.data_ true (atI b.m b.data_.who) true else if decide (b.holder=b.data_.who)=true then Zs b b.data_ true (atI b.m b.data_.who) true else if b.data_.second=true then Zs b b.data_ true (atI b.m b.data_.who) b.addr.live else Zs b b.data_ true (atI b.m b.data_.who) false
       else if b.data_.second=true then Zs b b.data_ true (atI b.m b.data_.who) b.addr.live else Zs b b.data_ true (atI b.m b.data_.who) false)
       ((b.data_.resp=3→(atI b.m b.data_.who).parted=false∧b.data_.who≠b.holder)∧(b.data_.beat=(atI b.m b.data_.who).done∧(0≤b.data_.left∧b.data_.left≤b.conf.maxWait+2)∧(0≤b.data_.resp∧b.data_.resp≤3))∧(b.data_.second=true→b.data_.left=0∧b.data_.resp≠0∧b.addr.live=false)):=by
      by_cases f3:b.data_.resp=3
      ·rw[if_pos (by simpa using f3)]
       by_cases f4:(atI b.m b.data_.who).parted=true
       ·rw[if_pos f4,hJ2t]
        exact .no fun h=>by have:=(h.1 f3).1;rw[f4] at this;cases this
       ·rw[if_neg f4]
        by_cases f5:b.holder=b.data_.who
        ·rw[if_pos (by simpa using f5),hJ2t]
         exact .no fun h=>(h.1 f3).2 f5.symm
        ·rw[if_neg (by simpa using f5)]
         exact hS.iff ⟨fun h=>⟨fun _=>⟨by simpa using f4,fun h2=>f5 h2.symm⟩,h⟩,fun h=>h.2⟩
      ·rw[if_neg (by simpa using f3)]
       exact hS.iff ⟨fun h=>⟨fun h2=>absurd h2 f3,h⟩,fun h=>h.2⟩
     unfold W0
     rw[if_neg (by simp),Ww h1 e1,Option.bind_some,if_neg (by simp)]
     by_cases f2:b.data_.resp=2
     ·rw[if_pos (by simpa using f2)]
      by_cases f3:(atI b.m b.data_.who).tries≥b.conf.maxRetry
      ·rw[if_pos (by simpa using f3),hJ2t]
       exact .no fun h=>by have:=h.2.2.1 f2;omega
      ·rw[if_neg (by simpa using f3)]
       exact hT.iff ⟨fun h=>⟨fun _=>⟨e1,e2,e3⟩,h.2.1,fun _=>by omega,h.1,h.2.2⟩,fun h=>⟨h.2.2.2.1,h.2.1,h.2.2.2.2⟩⟩
     ·rw[if_neg (by simpa using f2)]
      exact hT.iff ⟨fun h=>⟨fun _=>⟨e1,e2,e3⟩,h.2.1,fun h2=>absurd h2 f2,h.1,h.2.2⟩,fun h=>⟨h.2.2.2.1,h.2.1,h.2.2.2.2⟩⟩
    ·rw[decide_eq_true (by omega),hJ1]
     exact .no fun h=>e3 (h.1 ha).2.2
   ·rw[if_pos (by rw[decide_eq_false e2];rfl),hJ1]
    exact .no fun h=>e2 (h.1 ha).2.1
  ·rw[if_pos (by simpa using e1),hJ1]
   exact .no fun h=>e1 (h.1 ha).1
 ·rw[if_pos (by simpa using ha),if_neg ha]
  exact (Z6.of (Zxd _)).iff ⟨fun h=>⟨fun h2=>absurd h2 ha,h⟩,fun h=>h.2⟩
theorem Zyb (b:GBus) (hc:Z8 b.conf=true) (h1:b.m.length=b.conf.masters.length) (h3:b.splits.length=b.conf.masters.length) (hm:∀i,Za b.conf i=true→MstP b.conf b i):Z6 (Zk5 b) (Za3 b):=by
 have hlen:=Xo hc
 have hlt:=Ke hc
 unfold Zk5 Za3
 refine (Zhq (n:=b.m.length) (by omega) (P:=fun k=>(atI b.m (k:Int)).beat > 0→Zy (atI b.m (k:Int))=true→b.holder=(k:Int))
  (Q:=if b.holder=-1 then b.held=0 else Za b.conf b.holder=true∧Zy (atI b.m b.holder)=true∧atI b.splits b.holder=0∧(0≤b.held∧b.held≤b.conf.lockMost))
  (B:=Zed b) (fun m i=>rfl) (fun k hk=>?_) fun _=>?_).iff ?_
 ·have hmk:=mas (c:=b.conf) (k:=k) (by omega)
  have hr:=(hm _ hmk).right
  unfold Zed
  simp only[if_pos (show decide ((k:Int) < (b.m.length:Int))=true by simpa using hk),Ww h1 hmk,Option.bind_some]
  by_cases e1:(atI b.m (k:Int)).beat > 0
  ·have hq:(atI b.m (k:Int)).queue≠[]:=by
    intro hq;have:=hr.none hq;omega
   have hq2:0 < (atI b.m (k:Int)).queue.length:=List.length_pos_iff.2 hq
   rw[Xj (xs:=(atI b.m (k:Int)).queue) (by omega) (by omega)]
   simp only[Option.bind_some,e1,decide_true,if_true]
   by_cases e2:(atI (atI b.m (k:Int)).queue 0).lock=true
   ·by_cases e4:(atI b.m (k:Int)).broken=true
    ·exact .inl ⟨fun _ h=>by simp[Zy,e4] at h,fun κ=>by simp[e2,e4]⟩
    ·by_cases e3:b.holder=(k:Int)
     ·exact .inl ⟨fun _ _=>e3,fun κ=>by simp[e2,e3,e4]⟩
     ·exact .inr ⟨fun h=>e3 (h trivial (by simp[Zy,hq,e2,e4])),fun κ=>by simp[e2,e3,e4]⟩
   ·exact .inl ⟨fun _ h=>by simp[Zy,e2] at h,fun κ=>by simp[e2]⟩
  ·exact .inl ⟨fun h=>absurd h e1,fun κ=>by simp[e1]⟩
 ·unfold Zed
  simp only[Int.lt_irrefl,decide_false,Bool.false_eq_true,if_false]
  by_cases e1:b.holder=-1
  ·exact⟨decide (b.held=0),fun κ=>by simp[e1],by simp[e1]⟩
  ·simp only[e1,decide_false,Bool.false_eq_true,if_false,Zid h1 hlt,Option.bind_some,Yk]
   have hJt:Jj b true=some false:=by unfold Jj;rw[if_pos rfl]
   by_cases e2:Za b.conf b.holder=true
   ·simp only[e2,Bool.not_true,Bool.false_eq_true,if_false]
    by_cases e5:0≤b.held∧b.held≤b.conf.lockMost
    ·have hJ:Z6 (Jj b false) (Zy (atI b.m b.holder)=true∧atI b.splits b.holder=0):=by
      unfold Jj
      rw[if_neg (by simp),Ww h1 e2,Option.bind_some]
      by_cases hq:(atI b.m b.holder).queue=[]
      ·rw[if_neg (by simp[hq])]
       exact .no fun h=>by simp[Zy,hq] at h
      ·have hq2:0 < (atI b.m b.holder).queue.length:=List.length_pos_iff.2 hq
       rw[if_pos (by simp;omega),Xj (xs:=(atI b.m b.holder).queue) (by omega) (by omega),Option.bind_some,Zli h3 e2,Option.bind_some]
       by_cases e6:(atI (atI b.m b.holder).queue 0).lock=true
       ·rw[if_pos e6]
        by_cases e7:(atI b.m b.holder).broken=true
        ·rw[if_neg (by simp[e7])]
         exact .no fun h=>by simp[Zy,e7] at h
        ·rw[if_pos (by simp[e7])]
         exact .of (by simp[Zy,hq,e6,e7])
       ·rw[if_neg e6]
        exact .no fun h=>by simp[Zy,e6] at h
     obtain⟨r,hr1,hr2⟩:=hJ
     refine⟨r,fun κ=>by rw[decide_eq_true e5,Bool.not_true,hr1],?_⟩
     rw[hr2]
     exact⟨fun h=>⟨trivial,h.1,h.2,e5⟩,fun h=>⟨h.2.1,h.2.2.1⟩⟩
    ·refine⟨false,fun κ=>by rw[decide_eq_false e5,Bool.not_false,hJt],by simp[e5]⟩
   ·exact⟨false,fun κ=>by simp[e2,hJt],by simp[e2]⟩
 ·rw[h1,←Zns (P:=fun i=>(atI b.m i).beat > 0→Zy (atI b.m i)=true→b.holder=i)]
def doneR (c:GConf) (d:GDone):Prop:=Za c d.who=true∧Xc d.addr d.size=true∧d.addr < 512∧numG d.value d.size=true∧(d.resp=0∨d.resp=1)
theorem Zvp {b:GBus} (h1:b.m.length=b.conf.masters.length) (hlt:b.conf.masters.length < 1048577) (d:GDone):(doneR b.conf d∧∀x:Option Bool,((Zj d.who 0 (subW (b.m.length:Int) 1)).bind fun r530=>if (!r530)=true then some false else (J4 d.addr d.size).bind fun r538=>if (!r538)=true then some false else (Zj d.addr 0 511).bind fun r544=>if (!r544)=true then some false else (Wx d.size).bind fun r552=>(Zj d.value 0 (subW r552 1)).bind fun r554=>if (!r554)=true then some false else (Zj d.resp 0 1).bind fun r560=>if (!r560)=true then some false else x)=x)
  ∨ (¬doneR b.conf d∧∀x:Option Bool,((Zj d.who 0 (subW (b.m.length:Int) 1)).bind fun r530=>if (!r530)=true then some false else (J4 d.addr d.size).bind fun r538=>if (!r538)=true then some false else (Zj d.addr 0 511).bind fun r544=>if (!r544)=true then some false else (Wx d.size).bind fun r552=>(Zj d.value 0 (subW r552 1)).bind fun r554=>if (!r554)=true then some false else (Zj d.resp 0 1).bind fun r560=>if (!r560)=true then some false else x)=some false):=by
 simp only[Zid h1 hlt,Ztz,Zc0,Zrl,Yk d.addr,Yk d.resp,Option.bind_some]
 by_cases e3:Za b.conf d.who=true
 ·by_cases e4:Xc d.addr d.size=true
  ·have e0:=(Ki e4).2.1
   by_cases e5:d.addr < 512
   ·have e5':0≤d.addr∧d.addr≤511:=by omega
    by_cases e6:numG d.value d.size=true
    ·by_cases e7:d.resp=0∨d.resp=1
     ·have e7':0≤d.resp∧d.resp≤1:=by omega
      exact .inl ⟨⟨e3,e4,e5,e6,e7⟩,fun x=>by simp[e3,e4,e5',e6,e7']⟩
     ·have e7':¬(0≤d.resp∧d.resp≤1):=by omega
      exact .inr ⟨fun h=>e7 h.2.2.2.2,fun x=>by simp only[e3,e4,e5',e6,decide_eq_false e7',Bool.not_true,Bool.not_false,Bool.false_eq_true,if_false,if_true,and_self,decide_true]⟩
    ·exact .inr ⟨fun h=>e6 h.2.2.2.1,fun x=>by simp[e3,e4,e5',e6]⟩
   ·have e5':¬(0≤d.addr∧d.addr≤511):=by omega
    exact .inr ⟨fun h=>e5 h.2.2.1,fun x=>by simp only[e3,e4,decide_eq_false e5',Bool.not_true,Bool.not_false,Bool.false_eq_true,if_false,if_true]⟩
  ·exact .inr ⟨fun h=>e4 h.2.1,fun x=>by simp[e3,e4]⟩
 ·exact .inr ⟨fun h=>e3 h.1,fun x=>by simp[e3]⟩
theorem Zz3 (b:GBus) (hc:Z8 b.conf=true) (h1:b.m.length=b.conf.masters.length) (hl:b.log.length < 1048577) (hn:0≤b.now∧b.now≤4000):Z6 (Zm0 b) (logP b):=by
 have hlt:=Ke hc
 unfold Zm0
 have:=Zhq (n:=b.log.length) (by omega) (P:=fun k=>Zr6 b.conf b.now (atI b.log (k:Int))∧(0 < k→Ji b.log k < (atI b.log (k:Int)).cycle)) (Q:=True)
  (B:=Zfb b) (L:=Zkq b) (fun m i=>rfl) (fun k hk=>?_) fun _=>⟨true,fun κ=>?_,by simp⟩
 ·refine this.iff ?_
  rw[and_true,Z69]
  constructor
  ·intro h k hk
   refine⟨(h k hk).1,?_⟩
   cases k with
   | zero=>have:=(h 0 hk).1.1.1;simp only[Ji];omega
   | succ k=>exact (h (k+1) hk).2 (by omega)
  ·intro h k hk
   exact⟨(h k hk).1,fun _=>(h k hk).2⟩
 ·unfold Zfb
  simp only[if_pos (show decide ((k:Int) < (b.log.length:Int))=true by simpa using hk),Xj (xs:=b.log) (i:=(k:Int)) (by omega) (by omega),Option.bind_some,Yk (atI b.log (k:Int)).cycle,Yx (a:=b.now) (b:=1) (by omega) (by omega)]
  by_cases e1:0≤(atI b.log (k:Int)).cycle∧(atI b.log (k:Int)).cycle < b.now
  ·have e1':0≤(atI b.log (k:Int)).cycle∧(atI b.log (k:Int)).cycle≤b.now - 1:=by omega
   simp only[e1',and_self,decide_true,Bool.not_true,Bool.false_eq_true,if_false]
   cases k with
   | zero=>
    simp only[show ¬(((0:Nat):Int) > 0) by omega,decide_false,Bool.false_eq_true,if_false]
    rcases Zvp h1 hlt (atI b.log ((0:Nat):Int)) with⟨h2,h3⟩|⟨h2,h3⟩
    ·exact .inl ⟨⟨⟨e1,h2⟩,fun h=>by omega⟩,fun κ=>h3 _⟩
    ·exact .inr ⟨fun h=>h2 h.1.2,fun κ=>h3 _⟩
   | succ k=>
    have ek:((k+1:Nat):Int) - 1=(k:Int):=by omega
    simp only[show ((k+1:Nat):Int) > 0 by omega,decide_true,if_true,Yx (a:=((k+1:Nat):Int)) (b:=1) (by omega) (by omega),ek,Xj (xs:=b.log) (i:=(k:Int)) (by omega) (by omega),Option.bind_some]
    by_cases e2:(atI b.log (k:Int)).cycle < (atI b.log ((k+1:Nat):Int)).cycle
    ·have e2':¬(atI b.log ((k+1:Nat):Int)).cycle≤(atI b.log (k:Int)).cycle:=by omega
     simp only[e2',decide_false,Bool.false_eq_true,if_false]
     rcases Zvp h1 hlt (atI b.log ((k+1:Nat):Int)) with⟨h2,h3⟩|⟨h2,h3⟩
     ·exact .inl ⟨⟨⟨e1,h2⟩,fun h=>e2⟩,fun κ=>h3 _⟩
     ·exact .inr ⟨fun h=>h2 h.1.2,fun κ=>h3 _⟩
    ·have e2':(atI b.log ((k+1:Nat):Int)).cycle≤(atI b.log (k:Int)).cycle:=by omega
     exact .inr ⟨fun h=>e2 (h.2 (by omega)),fun κ=>by simp only[e2',decide_true,if_true]⟩
  ·have e1':¬(0≤(atI b.log (k:Int)).cycle∧(atI b.log (k:Int)).cycle≤b.now - 1):=by omega
   exact .inr ⟨fun h=>e1 h.1.1,fun κ=>by simp only[decide_eq_false e1',Bool.not_false,if_true]⟩
 ·unfold Zfb
  rw[if_neg (by simp)]
theorem Z1r (b:GBus) (hs:b.sm):Z6 (Zpz b) (BusP b):=by
 have hJt:Xy b true=some false:=by unfold Xy;rw[if_pos rfl]
 unfold Zpz
 rw[K6 _ hs.conf,Option.bind_some]
 by_cases hc:Z8 b.conf=true
 ·have hlen:=Xo hc
  rw[hc,if_neg (by simp),Yk,Option.bind_some]
  by_cases hn:0≤b.now∧b.now≤4000
  ·rw[if_neg (by simpa using hn)]
   by_cases h1:b.m.length=b.conf.masters.length
   ·rw[if_neg (by simp;omega)]
    by_cases h2:b.buckets.length=b.conf.masters.length
    ·rw[if_neg (by simp;omega)]
     by_cases h3:b.splits.length=b.conf.masters.length
     ·rw[if_neg (by simp;omega),Z8f _ _ hs.conf,Option.bind_some]
      by_cases h4:wrrG b.arb b.conf=true
      ·rw[h4,if_neg (by simp),Yk,Option.bind_some,Yx (by omega) (by omega)]
       by_cases h5:b.last=-1∨Za b.conf b.last=true
       ·have h5':-1≤b.last∧b.last≤(b.conf.masters.length:Int) - 1:=by
         rcases h5 with h5|h5
         ·omega
         ·simp only[Za,decide_eq_true_eq] at h5;omega
        rw[if_neg (by simpa using h5'),Z4j _ hs.model,Option.bind_some]
        by_cases h6:Zo4 b.model=true
        ·rw[h6,if_neg (by simp)]
         by_cases h7:0≤b.picks
         ·rw[if_neg (by simpa using h7)]
          by_cases h8:b.picks≤b.now
          ·rw[decide_eq_false (by omega)]
           unfold Xy
           rw[if_neg (by simp)]
           have hloop:=Zhq (n:=b.conf.masters.length) (by omega) (P:=fun k=>MstP b.conf b (k:Int)∧(atI b.m (k:Int)).beat - (atI b.m (k:Int)).done=flyG b (k:Int))
            (Q:=((b.data_.live=true→Qr b b.data_)∧X9 b)∧((b.addr.live=true→Qr b b.addr)∧Wt b)∧Za3 b∧logP b) (B:=Zg5 b) (L:=Zmq b) (fun m i=>rfl) (fun k hk=>?_) fun hP=>?_
           ·refine hloop.iff ⟨fun h=>?_,fun h=>?_⟩
            ·obtain⟨h9,h10,h11,h12,h13⟩:=h
             have hm:=(Zns (c:=b.conf) (P:=fun i=>MstP b.conf b i∧(atI b.m i).beat - (atI b.m i).done=flyG b i)).2 h9
             exact⟨hc,hn,h1,h2,h3,fun i hi=>(hm i hi).1,h4,h5,Zph.1 h6,⟨h7,h8⟩,h11.1,h10.1,fun i hi=>(hm i hi).2,h11.2,h10.2,h12,h13⟩
            ·exact⟨fun k hk=>⟨h.mst _ (mas hk),h.fly _ (mas hk)⟩,⟨h.dlive,h.data⟩,⟨h.alive,h.addr⟩,h.held,h.log⟩
           ·have hm:=mas (c:=b.conf) (k:=k) hk
            have hms:=hs.mst _ (mem_m h1 hm)
            have hme:=J9 (Zbb hc hm)
            unfold Zg5
            simp only[if_pos (show decide ((k:Int) < (b.conf.masters.length:Int))=true by simpa using hk),Ww h1 hm,Z2d h2 hm,Zli h3 hm,Zye hm,Option.bind_some,Z1z _ ⟨hme.1,hme.2.1⟩,Yk,Ybf]
            unfold Z0w
            simp only[K6 _ hs.conf,hc,if_true,Option.bind_some,Z1i _ hms]
            by_cases e1:Zml (atI b.m (k:Int))=true
            ·by_cases e2:(atI b.m (k:Int)).tries≤b.conf.maxRetry
             ·by_cases e3:Z5 (atI b.buckets (k:Int)) (atI b.conf.masters (k:Int))=true
              ·by_cases e4:0≤atI b.splits (k:Int)∧atI b.splits (k:Int)≤b.conf.maxSplit
               ·have hrb:=J6 (Zad.1 e1)
                rw[Yx (by omega) (by omega)]
                by_cases e5:(atI b.m (k:Int)).beat - (atI b.m (k:Int)).done=flyG b (k:Int)
                ·refine .inl ⟨⟨⟨Zad.1 e1,e2,e3,e4⟩,e5⟩,fun κ=>?_⟩
                 simp[e1,e2,e3,e4,e5]
                ·refine .inr ⟨fun h=>e5 h.2,fun κ=>?_⟩
                 simp[e1,e2,e3,e4,e5]
               ·refine .inr ⟨fun h=>e4 h.1.split,fun κ=>?_⟩
                simp[e1,e2,e3,e4]
              ·refine .inr ⟨fun h=>e3 h.1.bucket,fun κ=>?_⟩
               simp[e1,e2,e3]
             ·refine .inr ⟨fun h=>e2 h.1.tries,fun κ=>?_⟩
              simp[e1,e2]
            ·refine .inr ⟨fun h=>e1 (Zad.2 h.1.right),fun κ=>?_⟩
             simp[e1]
           ·have hm:=(Zns (c:=b.conf) (P:=fun i=>MstP b.conf b i∧(atI b.m i).beat - (atI b.m i).done=flyG b i)).2 hP
            have hm1:∀i,Za b.conf i=true→MstP b.conf b i:=fun i hi=>(hm i hi).1
            have hT:Z6 ((J7 b b.data_ true).bind fun r903=>if r903=true then (J7 b b.addr false).bind fun r908=>if r908=true then (Zk5 b).bind fun r912=>if r912=true then (Zm0 b).bind fun r916=>some r916 else some false else some false else some false)
              (((b.data_.live=true→Qr b b.data_)∧X9 b)∧((b.addr.live=true→Qr b b.addr)∧Wt b)∧Za3 b∧logP b):=by
             refine Z6.and (Zy8 b hs hc h1 h3 hm1) fun _=>?_
             refine Z6.and (Zzo b hs hc h1 h3 hm1) fun _=>?_
             refine Z6.and (Zyb b hc h1 h3 hm1) fun _=>?_
             obtain⟨r,h9,h10⟩:=Zz3 b hc h1 hs.log hn
             rw[h9]
             exact .of h10
            obtain⟨r,h9,h10⟩:=hT
            refine⟨r,fun κ=>?_,h10⟩
            unfold Zg5
            rw[if_neg (by simp)]
            exact h9
          ·rw[decide_eq_true (by omega),hJt]
           exact .no fun h=>h8 h.picks.2
         ·rw[if_pos (by simpa using h7),hJt]
          exact .no fun h=>h7 h.picks.1
        ·rw[if_pos (by simpa using h6),hJt]
         exact .no fun h=>h6 (Zph.2 h.model)
       ·have h5':¬(-1≤b.last∧b.last≤(b.conf.masters.length:Int) - 1):=by
         intro h6
         apply h5
         simp only[Za,decide_eq_true_eq]
         omega
        rw[if_pos (by rw[decide_eq_false h5'];rfl),hJt]
        exact .no fun h=>h5 h.last
      ·rw[if_pos (by simpa using h4),hJt]
       exact .no fun h=>h4 h.arb
     ·rw[if_pos (by simp;omega),hJt]
      exact .no fun h=>h3 h.sl
    ·rw[if_pos (by simp;omega),hJt]
     exact .no fun h=>h2 h.bl
   ·rw[if_pos (by simp;omega),hJt]
    exact .no fun h=>h1 h.ml
  ·rw[if_pos (by rw[decide_eq_false hn];rfl),hJt]
   exact .no fun h=>hn h.now
 ·rw[if_pos (by simpa using hc),hJt]
  exact .no fun h=>hc h.conf
theorem Z2k (b:GBus) (hs:b.sm):∃r,Zi2 b=some r∧Zpz b=some r∧(r=true↔BusP b):=(Z1v b hs).eq (Z1r b hs)
def Zh6 (l:List Int) (k:Int):Int:=if l=[]∨k < 0 then 0 else atI l (k % (l.length:Int))
def Zkz (c:GConf) (s:GScript) (k:Int):Int:=max 0 (min (Zh6 s.waits k) c.maxWait)
def Zg4 (s:GScript) (k:Int):Int:=if Zh6 s.says k=2∨Zh6 s.says k=3 then Zh6 s.says k else 0
def Jr (c:GConf) (s:GScript) (k:Int):Int:=max 1 (min (max 0 (min (Zh6 s.waits k) 99)+1) c.maxSplit)
def Zk7 (b:GBus):GWave:=
 GWave.mk b.now (if b.addr.live then Ya (atI b.m b.addr.who) b.addr.beat else -1) (if b.addr.live then (if b.addr.first then 2 else 3) else 0) (if b.addr.live then b.addr.who else -1)
  (if b.data_.live then Ya (atI b.m b.data_.who) b.data_.beat else -1) (if b.data_.live then b.data_.who else -1) true 0 (-1)
def Xq (s:GScript) (t:Int):List GPost:=s.posts.filter fun p=>decide (p.at_=t)
def Xk (b:GBus) (p:GPost):GBus:=if Za b.conf p.who=true then {b with m:=b.m.set p.who.toNat (Wo (atI b.m p.who) p.req)} else b
def Z2 (b:GBus) (ps:List GPost):GBus:=ps.foldl Xk b
def Z7 (b:GBus):GBus:={b with splits:=b.splits.map fun n=>max (n - 1) 0,buckets:=List.zipWith Zgt b.buckets b.conf.masters}
def Qd (b:GBus):GBus:=if b.holder=-1 then b else {b with held:=min (b.held+1) b.conf.lockMost}
def freeG (b:GBus):GBus:={b with holder:=-1,held:=0}
def Yj (b:GBus) (x:GBeat):GBus:=
 if x.by_=1 then {b with m:=b.m.set x.who.toNat (Q7 (atI b.m x.who)),buckets:=b.buckets.set x.who.toNat (Zhp (atI b.buckets x.who) (atI b.conf.masters x.who))}
 else if x.by_=2 then {b with m:=b.m.set x.who.toNat (Q7 (atI b.m x.who)),arb:=Zc6 b.arb b.conf x.who}
 else {b with m:=b.m.set x.who.toNat (Q7 (atI b.m x.who))}
def Znn (m:GMst) (k:Int):Int:=if (atI m.queue 0).write then atI (atI m.queue 0).data_ k else 0
def doG (b:GBus) (x:GBeat):GModel×Int×Int:=Zce b.model (atI (atI b.m x.who).queue 0).write (Ya (atI b.m x.who) x.beat) (atI (atI b.m x.who).queue 0).size (Znn (atI b.m x.who) x.beat)
def Zlh (b:GBus) (x:GBeat):GDone:=GDone.mk b.now x.who (atI (atI b.m x.who).queue 0).write (Ya (atI b.m x.who) x.beat) (atI (atI b.m x.who).queue 0).size (if x.resp=0 then (doG b x).2.1 else 0) x.resp
def Zb1 (b:GBus) (x:GBeat):GBus:=
 {b with model:=if x.resp=0 then (doG b x).1 else b.model,log:=b.log++[Zlh b x],m:=b.m.set x.who.toNat (endG (atI b.m x.who)),holder:=if b.holder=x.who∧(atI b.m x.who).done+1=Ze (atI b.m x.who) then -1 else b.holder,held:=if b.holder=x.who∧(atI b.m x.who).done+1=Ze (atI b.m x.who) then 0 else b.held}
def Zb (b:GBus) (s:GScript):GBus×Bool×Int:=
 if b.data_.live=false then (b,true,0)
 else if b.data_.left > 0 then ({b with data_:={b.data_ with left:=b.data_.left - 1}},false,0)
 else if b.data_.resp≠0∧b.data_.second=false then
  (if b.addr.live then {Yj {b with data_:={b.data_ with second:=true}} b.addr with addr:=GBeat.z0} else {b with data_:={b.data_ with second:=true}},false,b.data_.resp)
 else if b.data_.resp=2 then (Yj {b with data_:=GBeat.z0,m:=b.m.set b.data_.who.toNat {atI b.m b.data_.who with tries:=(atI b.m b.data_.who).tries+1}} b.data_,true,b.data_.resp)
 else if b.data_.resp=3 then (Yj {b with data_:=GBeat.z0,m:=b.m.set b.data_.who.toNat {atI b.m b.data_.who with parted:=true},splits:=b.splits.set b.data_.who.toNat (Jr b.conf s b.picks)} b.data_,true,b.data_.resp)
 else (Zb1 {b with data_:=GBeat.z0} b.data_,true,b.data_.resp)
def Zr (b:GBus):GBus:=if b.holder≠-1∧b.held=b.conf.lockMost then freeG {b with m:=b.m.set b.holder.toNat {atI b.m b.holder with broken:=true}} else b
def Yu (b:GBus) (s:GScript) (x:GBeat):Int×Int:=
 if (atI b.m x.who).broken=true∨Ye (Ya (atI b.m x.who) x.beat)=0 then (1,0) else
 (if Zg4 s b.picks=2∧Ye (Ya (atI b.m x.who) x.beat)≠3∧(atI b.m x.who).tries < b.conf.maxRetry then 2
  else if Zg4 s b.picks=3∧Ye (Ya (atI b.m x.who) x.beat)=2∧(atI b.m x.who).parted=false∧x.who≠b.holder then 3 else (doG b x).2.2,if Ye (Ya (atI b.m x.who) x.beat)=3 then Zkz b.conf s b.picks+2 else Zkz b.conf s b.picks)
def Z1 (b:GBus) (s:GScript):GBus:=if b.addr.live then {b with data_:={b.addr with left:=(Yu b s b.addr).2,resp:=(Yu b s b.addr).1},addr:=GBeat.z0,picks:=b.picks+1} else b
def W4 (b:GBus) (i:Int):Bool:=Zoc (atI b.m i)&&(decide (atI b.splits i=0)&&(decide (b.holder=-1)||decide (b.holder=i)))
def We (b:GBus):List Bool:=(List.range b.m.length).map fun k:Nat=>W4 b (k:Int)
def Zc1 (b:GBus) (k:Nat):Bool:=W4 b (k:Int)&&(Zeb (atI b.buckets (k:Int)) (atI b.conf.masters (k:Int))).2
def Zu (b:GBus):Int×Int×GBus:=
 if b.holder≠-1∧W4 b b.holder=true then (b.holder,3,b)
 else match (List.range b.m.length).find? (Zc1 b) with
  | some k=>((k:Int),1,{b with buckets:=b.buckets.set k (Zeb (atI b.buckets (k:Int)) (atI b.conf.masters (k:Int))).1})
  | none=>if b.holder≠-1 then (-1,0,b) else ((X6 b.arb b.conf (We b)).2,2,{b with arb:=(X6 b.arb b.conf (We b)).1})
def Kk (b:GBus) (who by_:Int):GBus:=
 {b with addr:=GBeat.mk true who (atI b.m who).beat (decide ((atI b.m who).beat=0)||decide (b.last≠who)) by_ 0 0 false,holder:=if Zy (atI b.m who)=true∧b.holder=-1 then who else b.holder,held:=if Zy (atI b.m who)=true∧b.holder=-1 then 0 else b.held,m:=b.m.set who.toNat (Y6 (atI b.m who)),last:=who}
def Zh (b:GBus):Int×GBus:=if (Zu b).1 < 0 then (-1,(Zu b).2.2) else ((Zu b).1,Kk (Zu b).2.2 (Zu b).1 (Zu b).2.1)
def Wu (b:GBus) (s:GScript):Int×GBus:=Zh (Z1 (Zr b) s)
def Zc (b:GBus) (s:GScript):GBus:=Qd (Z7 (Z2 b (Xq s b.now)))
def Zq (b:GBus) (s:GScript):GBus×GWave:=
 if (Zb (Zc b s) s).2.1=true then
  ({(Wu (Zb (Zc b s) s).1 s).2 with now:=b.now+1},{Zk7 b with resp:=(Zb (Zc b s) s).2.2,got:=(Wu (Zb (Zc b s) s).1 s).1})
 else ({(Zb (Zc b s) s).1 with now:=b.now+1},{Zk7 b with ready:=false,resp:=(Zb (Zc b s) s).2.2})
structure BusI (n:Int) (b:GBus):Prop where
 conf:Z8 b.conf=true
 ml:b.m.length=b.conf.masters.length
 bl:b.buckets.length=b.conf.masters.length
 sl:b.splits.length=b.conf.masters.length
 mst:∀i,Za b.conf i=true→MstP b.conf b i
 arb:wrrG b.arb b.conf=true
 last:b.last=-1∨Za b.conf b.last=true
 model:ModelP b.model
 alive:b.addr.live=true→Qr b b.addr
 dlive:b.data_.live=true→Qr b b.data_
 fly:∀i,Za b.conf i=true→(atI b.m i).beat - (atI b.m i).done=flyG b i
 addr:Wt b
 data:X9 b
 held:Za3 b
 log:(∀d∈b.log,Zr6 b.conf n d)∧b.log.Pairwise fun x y=>x.cycle < y.cycle
theorem BusP.i {b:GBus} (h:BusP b):BusI b.now b:=⟨h.conf,h.ml,h.bl,h.sl,h.mst,h.arb,h.last,h.model,h.alive,h.dlive,h.fly,h.addr,h.data,h.held,h.log⟩
theorem Zqw {α:Type} [Inhabited α] {xs:List α} {w i:Int} (a:α) (h0:0≤w) (h1:w < (xs.length:Int)) (hi:0≤i):atI (xs.set w.toNat a) i=if i=w then a else atI xs i:=by
 split
 ·rename_i h;subst h;exact Zex a h0 h1
 ·rename_i h;exact Zpt a h0 hi (fun h2=>h h2.symm)
theorem Z3 {c:GConf} {i:Int} (h:Za c i=true):0≤i∧i < (c.masters.length:Int):=by simpa [Za] using h
theorem BusI.at_m {n:Int} {b:GBus} (h:BusI n b) {w:Int} (hw:Za b.conf w=true) (x:GMst) {i:Int} (hi:Za b.conf i=true):atI (b.m.set w.toNat x) i=if i=w then x else atI b.m i:=by
 have h1:=Z3 hw
 have h2:=Z3 hi
 exact Zqw x h1.1 (by have:=h.ml;omega) h2.1
theorem Qg {n:Int} {b:GBus} (h:BusI n b) (hl:b.addr.live=true):Za b.conf b.addr.who=true:=(h.alive hl).1
theorem Xd {n:Int} {b:GBus} (h:BusI n b) (hl:b.data_.live=true):Za b.conf b.data_.who=true:=(h.dlive hl).1
theorem Ybn {m:GMst} {r:GReq} (hq:m.queue≠[]):(Wo m r).queue≠[]∧atI (Wo m r).queue 0=atI m.queue 0:=by
 unfold Wo
 split
 ·exact⟨by simp,Zvx hq⟩
 ·exact⟨hq,rfl⟩
theorem Z0g (m:GMst) (r:GReq):(Wo m r).beat=m.beat∧(Wo m r).done=m.done∧(Wo m r).tries=m.tries∧(Wo m r).parted=m.parted∧(Wo m r).broken=m.broken:=by
 unfold Wo;split<;>exact⟨rfl,rfl,rfl,rfl,rfl⟩
theorem Z9v {m:GMst} {r:GReq} (hq:m.queue≠[]):Zy (Wo m r)=Zy m:=by
 have h:=Ybn (r:=r) hq
 have h2:=Z0g m r
 unfold Zy
 rw[h.2,h2.2.2.2.2]
 simp[h.1,hq]
theorem Z3k {m:GMst} (h:Zy m=true):m.queue≠[]:=by
 intro hq;simp[Zy,hq] at h
theorem Zsn {n:Int} {b:GBus} {p:GPost} (h:BusI n b):BusI n (Xk b p):=by
 unfold Xk
 split
 ·rename_i hw
  have ha:=fun {i} hi=>h.at_m hw (Wo (atI b.m p.who) p.req) (i:=i) hi
  have hs:=Z0g (atI b.m p.who) p.req
  have hbd:∀i,Za b.conf i=true→(atI (b.m.set p.who.toNat (Wo (atI b.m p.who) p.req)) i).beat=(atI b.m i).beat∧(atI (b.m.set p.who.toNat (Wo (atI b.m p.who) p.req)) i).done=(atI b.m i).done∧(atI (b.m.set p.who.toNat (Wo (atI b.m p.who) p.req)) i).tries=(atI b.m i).tries∧(atI (b.m.set p.who.toNat (Wo (atI b.m p.who) p.req)) i).parted=(atI b.m i).parted:=by
   intro i hi
   rw[ha hi]
   split
   ·rename_i e;subst e;exact⟨hs.1,hs.2.1,hs.2.2.1,hs.2.2.2.1⟩
   ·exact⟨rfl,rfl,rfl,rfl⟩
  have hlk:∀i,Za b.conf i=true→(atI b.m i).queue≠[]→Zy (atI (b.m.set p.who.toNat (Wo (atI b.m p.who) p.req)) i)=Zy (atI b.m i):=by
   intro i hi hq
   rw[ha hi]
   split
   ·rename_i e;subst e;exact Z9v hq
   ·rfl
  refine⟨h.conf,by simp[h.ml],h.bl,h.sl,fun i hi=>?_,h.arb,h.last,h.model,h.alive,h.dlive,fun i hi=>?_,?_,?_,?_,h.log⟩
  ·have hm:=h.mst i hi
   refine⟨?_,by have:=(hbd i hi).2.2.1;simp only at this ⊢;rw[this];exact hm.tries,hm.bucket,hm.split⟩
   show RightP (atI (b.m.set p.who.toNat (Wo (atI b.m p.who) p.req)) i)
   rw[ha hi]
   split
   ·exact Z9u (h.mst _ hw).right
   ·exact hm.right
  ·show (atI (b.m.set p.who.toNat (Wo (atI b.m p.who) p.req)) i).beat - (atI (b.m.set p.who.toNat (Wo (atI b.m p.who) p.req)) i).done=flyG b i
   rw[(hbd i hi).1,(hbd i hi).2.1]
   exact h.fly i hi
  ·have:=h.addr
   unfold Wt at this ⊢
   simp only
   by_cases hl:b.addr.live=true
   ·rw[if_pos hl] at this ⊢
    rw[(hbd _ (Qg h hl)).1];exact this
   ·rw[if_neg hl] at this ⊢;exact this
  ·have:=h.data
   unfold X9 at this ⊢
   simp only
   by_cases hl:b.data_.live=true
   ·rw[if_pos hl] at this ⊢
    have e:=hbd _ (Xd h hl)
    rw[e.2.1,e.2.2.1,e.2.2.2];exact this
   ·rw[if_neg hl] at this ⊢;exact this
  ·obtain⟨h1,h2⟩:=h.held
   refine⟨fun i hi hb hk=>?_,?_⟩
   ·simp only at hb hk
    have hi2:Za b.conf i=true:=hi
    rw[(hbd i hi2).1] at hb
    have hq:(atI b.m i).queue≠[]:=by
     intro hq
     have:=(h.mst i hi2).right.none hq
     omega
    rw[hlk i hi2 hq] at hk
    exact h1 i hi2 hb hk
   ·simp only
    split
    ·rename_i e;rw[if_pos e] at h2;exact h2
    ·rename_i e
     rw[if_neg e] at h2
     exact⟨h2.1,by rw[hlk _ h2.1 (Z3k h2.2.1)];exact h2.2.1,h2.2.2⟩
 ·exact h
theorem Zj2 {n:Int} {b:GBus} (h:BusI n b) (ps:List GPost):BusI n (Z2 b ps):=by
 induction ps generalizing b with
 | nil=>exact h
 | cons p ps ih=>exact ih (Zsn h)
theorem Zo6 (b:GBus) (p:GPost):(Xk b p).conf=b.conf∧(Xk b p).now=b.now∧(Xk b p).picks=b.picks∧(Xk b p).log=b.log∧(Xk b p).model=b.model∧(Xk b p).holder=b.holder∧(Xk b p).held=b.held∧(Xk b p).addr=b.addr∧(Xk b p).data_=b.data_∧(Xk b p).splits=b.splits∧(Xk b p).buckets=b.buckets∧(Xk b p).arb=b.arb∧(Xk b p).last=b.last:=by
 unfold Xk;split<;>exact⟨rfl,rfl,rfl,rfl,rfl,rfl,rfl,rfl,rfl,rfl,rfl,rfl,rfl⟩
theorem Zar (b:GBus) (ps:List GPost):(Z2 b ps).conf=b.conf∧(Z2 b ps).now=b.now∧(Z2 b ps).picks=b.picks∧(Z2 b ps).log=b.log∧(Z2 b ps).model=b.model∧(Z2 b ps).holder=b.holder∧(Z2 b ps).held=b.held∧(Z2 b ps).addr=b.addr∧(Z2 b ps).data_=b.data_∧(Z2 b ps).splits=b.splits∧(Z2 b ps).buckets=b.buckets∧(Z2 b ps).arb=b.arb∧(Z2 b ps).last=b.last:=by
 induction ps generalizing b with
 | nil=>exact⟨rfl,rfl,rfl,rfl,rfl,rfl,rfl,rfl,rfl,rfl,rfl,rfl,rfl⟩
 | cons p ps ih=>
  have h1:=ih (Xk b p)
  have h2:=Zo6 b p
  simp only[h2] at h1
  exact h1
theorem Zxs {α β:Type} [Inhabited α] [Inhabited β] (f:α→β) {xs:List α} {i:Int} (h0:0≤i) (h1:i < (xs.length:Int)):atI (xs.map f) i=f (atI xs i):=by
 obtain⟨k,rfl⟩:∃k:Nat,i=k:=⟨i.toNat,by omega⟩
 have hk:k < xs.length:=by omega
 rw[Yh hk,Yh (by simpa using hk)];simp
theorem Ycg {α β γ:Type} [Inhabited α] [Inhabited β] [Inhabited γ] (f:α→β→γ) {xs:List α} {ys:List β} {i:Int} (h0:0≤i) (h1:i < (xs.length:Int)) (h2:i < (ys.length:Int)):atI (List.zipWith f xs ys) i=f (atI xs i) (atI ys i):=by
 obtain⟨k,rfl⟩:∃k:Nat,i=k:=⟨i.toNat,by omega⟩
 have hk:k < xs.length:=by omega
 have hk2:k < ys.length:=by omega
 rw[Yh hk,Yh hk2,Yh (by simp;omega)];simp
theorem Zy4 {n:Int} {b:GBus} (h:BusI n b):BusI n (Z7 b):=by
 have hsp:∀i,Za b.conf i=true→atI (b.splits.map fun n=>max (n - 1) 0) i=max (atI b.splits i - 1) 0:=fun i hi=>by
  have:=Z3 hi
  exact Zxs _ this.1 (by have:=h.sl;omega)
 have hbu:∀i,Za b.conf i=true→atI (List.zipWith Zgt b.buckets b.conf.masters) i=Zgt (atI b.buckets i) (atI b.conf.masters i):=fun i hi=>by
  have:=Z3 hi
  exact Ycg _ this.1 (by have:=h.bl;omega) this.2
 have h0:∀i,Za b.conf i=true→atI b.splits i=0→atI (b.splits.map fun n=>max (n - 1) 0) i=0:=fun i hi e=>by rw[hsp i hi,e];rfl
 refine⟨h.conf,h.ml,by simp[Z7,h.bl],by simp[Z7,h.sl],fun i hi=>?_,h.arb,h.last,h.model,fun hl=>?_,fun hl=>?_,h.fly,h.addr,h.data,?_,h.log⟩
 ·have hm:=h.mst i hi
  refine⟨hm.right,hm.tries,?_,?_⟩
  ·show Z5 (atI (List.zipWith Zgt b.buckets b.conf.masters) i) _=true
   rw[hbu i hi]
   exact Yfv hm.bucket (Zbb h.conf hi)
  ·show 0≤atI (b.splits.map fun n=>max (n - 1) 0) i∧_
   have:=hm.split
   have hx:=(Xe h.conf).2.2.2
   show 0≤atI (b.splits.map fun n=>max (n - 1) 0) i∧atI (b.splits.map fun n=>max (n - 1) 0) i≤b.conf.maxSplit
   rw[hsp i hi]
   omega
 ·obtain⟨h1,h2,h3⟩:=h.alive hl
  exact⟨h1,h2,h0 _ h1 h3⟩
 ·obtain⟨h1,h2,h3⟩:=h.dlive hl
  exact⟨h1,h2,h0 _ h1 h3⟩
 ·obtain⟨h1,h2⟩:=h.held
  refine⟨h1,?_⟩
  show if b.holder=-1 then b.held=0 else _
  split
  ·rename_i e;rw[if_pos e] at h2;exact h2
  ·rename_i e
   rw[if_neg e] at h2
   exact⟨h2.1,h2.2.1,h0 _ h2.1 h2.2.2.1,h2.2.2.2⟩
theorem Z8a {n:Int} {b:GBus} (h:BusI n b):BusI n (Qd b):=by
 unfold Qd
 split
 ·exact h
 ·rename_i e
  refine⟨h.conf,h.ml,h.bl,h.sl,fun i hi=>?_,h.arb,h.last,h.model,h.alive,h.dlive,h.fly,h.addr,h.data,?_,h.log⟩
  ·have hm:=h.mst i hi;exact⟨hm.right,hm.tries,hm.bucket,hm.split⟩
  ·obtain⟨h1,h2⟩:=h.held
   refine⟨h1,?_⟩
   rw[if_neg e] at h2
   show if b.holder=-1 then _ else _
   rw[if_neg e]
   have hl:=(Xe h.conf).2.2.1
   refine⟨h2.1,h2.2.1,h2.2.2.1,?_⟩
   have:=h2.2.2.2
   show 0≤min (b.held+1) b.conf.lockMost∧min (b.held+1) b.conf.lockMost≤b.conf.lockMost
   omega
theorem Z0q {b b':GBus} (h:Za3 b) (hc:b'.conf=b.conf) (hh:b'.holder=b.holder) (hd:b'.held=b.held)
  (hm:∀i,Za b.conf i=true→Zy (atI b'.m i)=Zy (atI b.m i)∧((atI b'.m i).beat > 0→(atI b.m i).beat > 0)) (hs:b.holder≠-1→atI b.splits b.holder=0→atI b'.splits b.holder=0):Za3 b':=by
 obtain⟨h1,h2⟩:=h
 unfold Za3
 rw[hc,hh,hd]
 refine⟨fun i hi hb hk=>h1 i hi ((hm i hi).2 hb) (by rw[←(hm i hi).1];exact hk),?_⟩
 split
 ·rename_i e;rw[if_pos e] at h2;exact h2
 ·rename_i e
  rw[if_neg e] at h2
  exact⟨h2.1,by rw[(hm _ h2.1).1];exact h2.2.1,hs e h2.2.2.1,h2.2.2.2⟩
theorem Ztd (m:GMst):(Q7 m).queue=m.queue∧(Q7 m).done=m.done∧(Q7 m).tries=m.tries∧(Q7 m).parted=m.parted∧(Q7 m).broken=m.broken:=by
 unfold Q7;split<;>exact⟨rfl,rfl,rfl,rfl,rfl⟩
theorem Zi6 {m m':GMst} (h1:m'.queue=m.queue) (h2:m'.broken=m.broken):Zy m'=Zy m:=by
 unfold Zy;rw[h1,h2]
structure Revoked (b r:GBus) (x:GBeat):Prop where
 conf:r.conf=b.conf
 m:r.m=b.m.set x.who.toNat (Q7 (atI b.m x.who))
 bl:r.buckets.length=b.conf.masters.length
 bk:∀i,Za b.conf i=true→Z5 (atI r.buckets i) (atI b.conf.masters i)=true
 arb:wrrG r.arb b.conf=true
 splits:r.splits=b.splits
 holder:r.holder=b.holder
 held:r.held=b.held
 addr:r.addr=b.addr
 data:r.data_=b.data_
 model:r.model=b.model
 log:r.log=b.log
 last:r.last=b.last
 now:r.now=b.now
 picks:r.picks=b.picks
theorem Ztr {b:GBus} {x:GBeat} (hc:Z8 b.conf=true) (hw:Za b.conf x.who=true) (hbl:b.buckets.length=b.conf.masters.length) (hbk:∀i,Za b.conf i=true→Z5 (atI b.buckets i) (atI b.conf.masters i)=true) (har:wrrG b.arb b.conf=true):Revoked b (Yj b x) x:=by
 have hb:=Z3 hw
 unfold Yj
 split
 ·refine⟨rfl,rfl,by simp[hbl],fun i hi=>?_,har,rfl,rfl,rfl,rfl,rfl,rfl,rfl,rfl,rfl,rfl⟩
  show Z5 (atI (b.buckets.set x.who.toNat _) i) _=true
  rw[Zqw _ hb.1 (by omega) (Z3 hi).1]
  split
  ·rename_i e;subst e;exact Ycz (hbk _ hi) (Zbb hc hi)
  ·exact hbk i hi
 ·split
  ·exact⟨rfl,rfl,hbl,hbk,Yc3 _ har,rfl,rfl,rfl,rfl,rfl,rfl,rfl,rfl,rfl,rfl⟩
  ·exact⟨rfl,rfl,hbl,hbk,har,rfl,rfl,rfl,rfl,rfl,rfl,rfl,rfl,rfl,rfl⟩
theorem BusI.mono {n:Int} {b:GBus} (h:BusI n b):BusI (n+1) b:=
 ⟨h.conf,h.ml,h.bl,h.sl,h.mst,h.arb,h.last,h.model,h.alive,h.dlive,h.fly,h.addr,h.data,h.held,fun d hd=>by have:=h.log.1 d hd;exact⟨⟨this.1.1,by have:=this.1.2;omega⟩,this.2⟩,h.log.2⟩
theorem Z7b {n:Int} {b:GBus} (h:BusI n b) (hl:b.addr.live=true):(atI b.m b.addr.who).beat - (atI b.m b.addr.who).done≥1:=by
 rw[h.fly _ (Qg h hl)]
 unfold flyG
 rw[if_pos ⟨hl,rfl⟩]
 split<;>omega
theorem Zkp {n:Int} {b:GBus} (h:BusI n b) (hl:b.data_.live=true):(atI b.m b.data_.who).beat - (atI b.m b.data_.who).done≥1:=by
 rw[h.fly _ (Xd h hl)]
 unfold flyG
 rw[if_pos (⟨hl,rfl⟩:b.data_.live=true∧b.data_.who=b.data_.who)]
 split<;>omega
theorem Z9g {n:Int} {b:GBus} (h:BusI n b) (hd:b.data_.live=true) (hl:b.data_.left > 0):BusI n {b with data_:={b.data_ with left:=b.data_.left - 1}}:=by
 refine⟨h.conf,h.ml,h.bl,h.sl,fun i hi=>?_,h.arb,h.last,h.model,h.alive,fun _=>h.dlive hd,fun i hi=>?_,h.addr,?_,h.held,h.log⟩
 ·have hm:=h.mst i hi;exact⟨hm.right,hm.tries,hm.bucket,hm.split⟩
 ·have:=h.fly i hi
  unfold flyG at this ⊢
  exact this
 ·have:=h.data
  unfold X9 at this ⊢
  rw[if_pos hd] at this
  simp only
  rw[if_pos hd]
  refine⟨⟨this.1.1,by have:=this.1.2.1;omega,this.1.2.2⟩,this.2.1,this.2.2.1,fun hs=>?_⟩
  have:=(this.2.2.2 hs).1
  omega
theorem Z9o {n:Int} {b:GBus} (h:BusI n b) (hd:b.data_.live=true) (hl:b.data_.left=0) (hr:b.data_.resp≠0):
  BusI n (if b.addr.live then {Yj {b with data_:={b.data_ with second:=true}} b.addr with addr:=GBeat.z0} else {b with data_:={b.data_ with second:=true}}):=by
 have hdat:=h.data
 unfold X9 at hdat
 rw[if_pos hd] at hdat
 by_cases ha:b.addr.live=true
 ·rw[if_pos ha]
  have hw:=Qg h ha
  have hb:=Z3 hw
  have hf:=Ztr (b:={b with data_:={b.data_ with second:=true}}) (x:=b.addr) h.conf hw h.bl (fun i hi=>(h.mst i hi).bucket) h.arb
  generalize Yj {b with data_:={b.data_ with second:=true}} b.addr=r at hf
  have hat:∀i,Za b.conf i=true→atI r.m i=if i=b.addr.who then Q7 (atI b.m b.addr.who) else atI b.m i:=fun i hi=>by
   rw[hf.m];exact h.at_m hw _ hi
  have hs:=Ztd (atI b.m b.addr.who)
  have hsm:∀i,Za b.conf i=true→(atI r.m i).queue=(atI b.m i).queue∧(atI r.m i).done=(atI b.m i).done∧(atI r.m i).tries=(atI b.m i).tries∧(atI r.m i).parted=(atI b.m i).parted∧(atI r.m i).broken=(atI b.m i).broken:=fun i hi=>by
   rw[hat i hi]
   split
   ·rename_i e;subst e;exact hs
   ·exact⟨rfl,rfl,rfl,rfl,rfl⟩
  have hp:=Z7b h ha
  have hbt:(Q7 (atI b.m b.addr.who)).beat=(atI b.m b.addr.who).beat - 1:=by
   unfold Q7;rw[if_neg (by omega)]
  refine⟨by rw[show ({r with addr:=GBeat.z0}:GBus).conf=r.conf from rfl,hf.conf];exact h.conf,?_,?_,?_,fun i hi=>?_,?_,?_,?_,fun hx=>?_,fun hx=>?_,fun i hi=>?_,?_,?_,?_,?_⟩
  ·show r.m.length=r.conf.masters.length
   rw[hf.m,hf.conf];simp[h.ml]
  ·show r.buckets.length=r.conf.masters.length
   rw[hf.bl,hf.conf]
  ·show r.splits.length=r.conf.masters.length
   rw[hf.splits,hf.conf];exact h.sl
  ·have hi':Za b.conf i=true:=by rw[←show r.conf=b.conf from hf.conf];exact hi
   have hm:=h.mst i hi'
   refine⟨?_,?_,?_,?_⟩
   ·show RightP (atI r.m i)
    rw[hat i hi']
    split
    ·exact Zwv (h.mst _ hw).right
    ·exact hm.right
   ·show (atI r.m i).tries≤r.conf.maxRetry
    rw[(hsm i hi').2.2.1,hf.conf];exact hm.tries
   ·show Z5 (atI r.buckets i) (atI r.conf.masters i)=true
    rw[hf.conf];exact hf.bk i hi'
   ·show 0≤atI r.splits i∧atI r.splits i≤r.conf.maxSplit
    rw[hf.splits,hf.conf];exact hm.split
  ·show wrrG r.arb r.conf=true
   rw[hf.conf];exact hf.arb
  ·show r.last=-1∨Za r.conf r.last=true
   rw[hf.last,hf.conf];exact h.last
  ·show ModelP r.model
   rw[hf.model];exact h.model
  ·cases hx
  ·have hx':r.data_.live=true:=hx
   obtain⟨h1,h2,h3⟩:=h.dlive hd
   refine⟨?_,?_,?_⟩
   ·show Za r.conf r.data_.who=true
    rw[hf.conf,hf.data];exact h1
   ·show 1≤r.data_.by_∧r.data_.by_≤3
    rw[hf.data];exact h2
   ·show atI r.splits r.data_.who=0
    rw[hf.splits,hf.data];exact h3
  ·have hi':Za b.conf i=true:=by rw[←show r.conf=b.conf from hf.conf];exact hi
   show (atI r.m i).beat - (atI r.m i).done=flyG {r with addr:=GBeat.z0} i
   have hfl:=h.fly i hi'
   unfold flyG at hfl ⊢
   simp only[hf.data]
   rw[(hsm i hi').2.1,hat i hi']
   by_cases e:i=b.addr.who
   ·subst e
    rw[if_pos rfl,hbt]
    rw[if_pos ⟨ha,rfl⟩] at hfl
    simp only[Bool.false_eq_true,false_and,if_false]
    omega
   ·rw[if_neg e]
    rw[if_neg (fun hx=>e hx.2.symm)] at hfl
    simp only[Bool.false_eq_true,false_and,if_false]
    exact hfl
  ·unfold Wt
   simp
  ·unfold X9
   show if r.data_.live=true then _ else _
   simp only[hf.data,hf.conf,hf.holder]
   rw[if_pos hd]
   have e:=hsm _ (Xd h hd)
   rw[e.2.1,e.2.2.1,e.2.2.2.1]
   exact⟨hdat.1,hdat.2.1,hdat.2.2.1,fun _=>⟨hl,hr,trivial⟩⟩
  ·refine Z0q (b:=b) h.held hf.conf hf.holder hf.held (fun i hi=>⟨Zi6 (hsm i hi).1 (hsm i hi).2.2.2.2,fun hx=>?_⟩) (fun _ hx=>by show atI r.splits b.holder=0;rw[hf.splits];exact hx)
   show (atI b.m i).beat > 0
   have hx':(atI r.m i).beat > 0:=hx
   rw[hat i hi] at hx'
   split at hx'
   ·rename_i e;subst e;rw[hbt] at hx';omega
   ·exact hx'
  ·show (∀d∈r.log,Zr6 r.conf n d)∧r.log.Pairwise _
   rw[hf.log,hf.conf];exact h.log
 ·rw[if_neg ha]
  refine⟨h.conf,h.ml,h.bl,h.sl,fun i hi=>?_,h.arb,h.last,h.model,h.alive,fun _=>h.dlive hd,fun i hi=>?_,h.addr,?_,h.held,h.log⟩
  ·have hm:=h.mst i hi;exact⟨hm.right,hm.tries,hm.bucket,hm.split⟩
  ·have:=h.fly i hi
   unfold flyG at this ⊢
   exact this
  ·unfold X9
   simp only
   rw[if_pos hd]
   exact⟨hdat.1,hdat.2.1,hdat.2.2.1,fun _=>⟨hl,hr,by simpa using ha⟩⟩
theorem Zw9 {n:Int} {b:GBus} (h:BusI n b) (hd:b.data_.live=true) (ha:b.addr.live=false) (x:GMst) (sp:List Int) (hq:x.queue=(atI b.m b.data_.who).queue) (hbe:x.beat=(atI b.m b.data_.who).beat) (hdo:x.done=(atI b.m b.data_.who).done) (hbr:x.broken=(atI b.m b.data_.who).broken)
  (ht:0≤x.tries∧x.tries≤b.conf.maxRetry) (hsl:sp.length=b.splits.length) (hsp:∀i,Za b.conf i=true→0≤atI sp i∧atI sp i≤b.conf.maxSplit) (hsh:b.holder≠-1→atI b.splits b.holder=0→atI sp b.holder=0):
  BusI n (Yj {b with data_:=GBeat.z0,m:=b.m.set b.data_.who.toNat x,splits:=sp} b.data_):=by
 have hw:=Xd h hd
 have hb:=Z3 hw
 have hf:=Ztr (b:={b with data_:=GBeat.z0,m:=b.m.set b.data_.who.toNat x,splits:=sp}) (x:=b.data_) h.conf hw h.bl (fun i hi=>(h.mst i hi).bucket) h.arb
 generalize Yj {b with data_:=GBeat.z0,m:=b.m.set b.data_.who.toNat x,splits:=sp} b.data_=r at hf
 have hmw:=(h.mst _ hw).right
 have hp:=Zkp h hd
 have hne:(atI b.m b.data_.who).queue≠[]:=Zd9 hmw (by omega)
 have hxr:RightP x:=by
  have h2:=hmw.some hne
  refine⟨by rw[hq];exact hmw.len,ht.1,by rw[hq];exact hmw.reqs,fun hx=>absurd (by rw[←hq];exact hx) hne,fun _=>?_⟩
  have:Ze x=Ze (atI b.m b.data_.who):=by unfold Ze;rw[hq]
  rw[this,hbe,hdo];exact h2
 have hxx:atI (b.m.set b.data_.who.toNat x) b.data_.who=x:=Zex x hb.1 (by have:=h.ml;omega)
 have hat:∀i,Za b.conf i=true→atI r.m i=if i=b.data_.who then Q7 x else atI b.m i:=fun i hi=>by
  have hi':=Z3 hi
  rw[hf.m]
  show atI ((b.m.set b.data_.who.toNat x).set b.data_.who.toNat (Q7 (atI (b.m.set b.data_.who.toNat x) b.data_.who))) i=_
  rw[hxx,List.set_set]
  exact h.at_m hw _ hi
 have hs:=Ztd x
 have hbt:(Q7 x).beat=(atI b.m b.data_.who).beat - 1:=by
  unfold Q7;rw[if_neg (by rw[hbe,hdo];omega)];simp only[hbe]
 have hbz:GBeat.z0.live=false:=rfl
 refine⟨by rw[hf.conf];exact h.conf,?_,?_,?_,fun i hi=>?_,?_,?_,?_,fun hx=>?_,fun hx=>?_,fun i hi=>?_,?_,?_,?_,?_⟩
 ·rw[hf.m,hf.conf];simp[h.ml]
 ·rw[hf.bl,hf.conf]
 ·rw[hf.splits,hf.conf];show sp.length=_;rw[hsl];exact h.sl
 ·have hi':Za b.conf i=true:=by rw[←show r.conf=b.conf from hf.conf];exact hi
  have hm:=h.mst i hi'
  refine⟨?_,?_,?_,?_⟩
  ·rw[hat i hi']
   split
   ·exact Zwv hxr
   ·exact hm.right
  ·rw[hat i hi',hf.conf]
   split
   ·rw[hs.2.2.1];exact ht.2
   ·exact hm.tries
  ·rw[hf.conf];exact hf.bk i hi'
  ·rw[hf.splits,hf.conf];exact hsp i hi'
 ·rw[hf.conf];exact hf.arb
 ·rw[hf.last,hf.conf];exact h.last
 ·rw[hf.model];exact h.model
 ·rw[hf.addr] at hx;rw[show ({b with data_:=GBeat.z0,m:=b.m.set b.data_.who.toNat x,splits:=sp}:GBus).addr=b.addr from rfl,ha] at hx;cases hx
 ·rw[hf.data] at hx;cases hx
 ·have hi':Za b.conf i=true:=by rw[←show r.conf=b.conf from hf.conf];exact hi
  have hfl:=h.fly i hi'
  unfold flyG at hfl ⊢
  rw[hf.data,hf.addr,hat i hi']
  show _=(if b.addr.live=true∧b.addr.who=i then (1:Int) else 0)+(if GBeat.z0.live=true∧GBeat.z0.who=i then 1 else 0)
  rw[ha] at hfl ⊢
  simp only[Bool.false_eq_true,false_and,if_false] at hfl ⊢
  by_cases e:i=b.data_.who
  ·subst e
   rw[if_pos rfl,hbt,hs.2.1,hdo]
   rw[if_pos (⟨hd,rfl⟩:b.data_.live=true∧b.data_.who=b.data_.who)] at hfl
   omega
  ·rw[if_neg e]
   rw[if_neg (fun hx=>e hx.2.symm)] at hfl
   exact hfl
 ·have:=h.addr
  unfold Wt at this ⊢
  rw[hf.addr]
  show if b.addr.live=true then _ else _
  rw[ha] at this ⊢
  exact this
 ·unfold X9
  rw[hf.data]
  show if GBeat.z0.live=true then _ else _
  rw[if_neg (by simp)]
 ·refine Z0q (b:=b) h.held hf.conf hf.holder hf.held (fun i hi=>?_) (fun h1 h2=>by rw[hf.splits];exact hsh h1 h2)
  rw[hat i hi]
  split
  ·rename_i e;subst e
   refine⟨Zi6 (by rw[hs.1,hq]) (by rw[hs.2.2.2.2,hbr]),fun hx=>?_⟩
   rw[hbt] at hx;omega
  ·exact⟨rfl,id⟩
 ·rw[hf.log,hf.conf];exact h.log
theorem Z0t {m:GMst} (h:RightP m) (hp:m.beat - m.done≥1):(m.done+1=Ze m→m.beat - m.done=1∧(endG m).queue=m.queue.tail∧(endG m).beat=0∧(endG m).done=0∧(endG m).tries=0)∧
  (m.done+1≠Ze m→(endG m).queue=m.queue∧(endG m).beat=m.beat∧(endG m).done=m.done+1∧(endG m).tries=0∧(endG m).broken=m.broken∧(endG m).parted=false):=by
 have h1:=h.some (Zd9 h (by omega))
 unfold endG
 constructor
 ·intro e
  rw[if_neg (by omega),if_pos e]
  exact⟨by omega,rfl,rfl,rfl,rfl⟩
 ·intro e
  rw[if_neg (by omega),if_neg e]
  exact⟨rfl,rfl,rfl,rfl,rfl,rfl⟩
theorem Ycd {m:GMst} {k:Int} (h:RightP m) (h0:0≤k) (h1:k < Ze m) (hw:(atI m.queue 0).write=true):0≤k∧k < ((atI m.queue 0).data_.length:Int):=by
 have hq:m.queue≠[]:=by
  intro hq
  unfold Ze at h1
  rw[if_pos hq] at h1
  omega
 obtain⟨h2,h3,h4⟩:=Zqr h hq
 have h5:=(Zgb h2).2.1
 rw[if_pos hw] at h5
 omega
theorem Z06 {n:Int} {b:GBus} (h:BusI n b) (hd:b.data_.live=true):0≤b.data_.beat∧b.data_.beat < Ze (atI b.m b.data_.who):=by
 have hw:=Xd h hd
 have hp:=Zkp h hd
 have hr:=(h.mst _ hw).right
 have h1:=hr.some (Zd9 hr (by omega))
 have h2:=h.data
 unfold X9 at h2
 rw[if_pos hd] at h2
 rw[h2.1.1]
 omega
theorem Ziv {n:Int} {b:GBus} (h:BusI n b) (hl:b.addr.live=true):0≤b.addr.beat∧b.addr.beat < Ze (atI b.m b.addr.who):=by
 have hw:=Qg h hl
 have hp:=Z7b h hl
 have hr:=(h.mst _ hw).right
 have h1:=hr.some (Zd9 hr (by omega))
 have h2:=h.addr
 unfold Wt at h2
 rw[if_pos hl] at h2
 rw[h2.1]
 omega
theorem Z59 {b:GBus} (hn:0≤b.now) (h:BusI b.now b) (hd:b.data_.live=true) (hr:b.data_.resp=0∨b.data_.resp=1) (hsec:b.data_.resp≠0→b.addr.live=false):BusI (b.now+1) (Zb1 {b with data_:=GBeat.z0} b.data_):=by
 have hw:=Xd h hd
 have hb:=Z3 hw
 have hmw:=(h.mst _ hw).right
 have hp:=Zkp h hd
 have hne:(atI b.m b.data_.who).queue≠[]:=Zd9 hmw (by omega)
 have hbt:=Z06 h hd
 have had:=Z4l hmw hbt.1 hbt.2
 have hdat:=h.data
 unfold X9 at hdat
 rw[if_pos hd] at hdat
 have hmdl:=Zxt (w:=(atI (atI b.m b.data_.who).queue 0).write) (v:=Znn (atI b.m b.data_.who) b.data_.beat) h.model had.2.1
 have hef:=Z0t hmw hp
 have hat:∀i,Za b.conf i=true→atI (b.m.set b.data_.who.toNat (endG (atI b.m b.data_.who))) i=if i=b.data_.who then endG (atI b.m b.data_.who) else atI b.m i:=fun i hi=>h.at_m hw _ hi
 have hlast:(atI b.m b.data_.who).done+1=Ze (atI b.m b.data_.who)→b.addr.live=true→b.addr.who≠b.data_.who:=by
  intro e hl e2
  have h1:=(hef.1 e).1
  have h2:=h.fly _ hw
  unfold flyG at h2
  rw[if_pos (⟨hl,e2⟩:b.addr.live=true∧b.addr.who=b.data_.who),if_pos (⟨hd,rfl⟩:b.data_.live=true∧b.data_.who=b.data_.who)] at h2
  omega
 have hz:numG 0 (atI (atI b.m b.data_.who).queue 0).size=true:=by
  have h1:=(Zge _).1 (Ki had.2.1).1
  generalize (atI (atI b.m b.data_.who).queue 0).size=s at h1
  have:s=0∨s=1∨s=2:=by omega
  rcases this with rfl|rfl|rfl<;>decide
 refine⟨h.conf,?_,h.bl,h.sl,fun i hi=>?_,h.arb,h.last,?_,h.alive,(fun hx=>by cases hx),fun i hi=>?_,?_,?_,?_,?_⟩
 ·show (b.m.set b.data_.who.toNat (endG (atI b.m b.data_.who))).length=_
  rw[List.length_set];exact h.ml
 ·have hi':Za b.conf i=true:=hi
  have hm:=h.mst i hi'
  refine⟨?_,?_,hm.bucket,hm.split⟩
  ·show RightP (atI (b.m.set b.data_.who.toNat (endG (atI b.m b.data_.who))) i)
   rw[hat i hi']
   split
   ·exact Yby hmw
   ·exact hm.right
  ·show (atI (b.m.set b.data_.who.toNat (endG (atI b.m b.data_.who))) i).tries≤b.conf.maxRetry
   rw[hat i hi']
   split
   ·have hl:=(Xe h.conf).1
    by_cases e:(atI b.m b.data_.who).done+1=Ze (atI b.m b.data_.who)
    ·rw[(hef.1 e).2.2.2.2];omega
    ·rw[(hef.2 e).2.2.2.1];omega
   ·exact hm.tries
 ·show ModelP (if b.data_.resp=0 then (doG {b with data_:=GBeat.z0} b.data_).1 else b.model)
  split
  ·exact hmdl.1
  ·exact h.model
 ·have hi':Za b.conf i=true:=hi
  have hfl:=h.fly i hi'
  show (atI (b.m.set b.data_.who.toNat (endG (atI b.m b.data_.who))) i).beat - (atI (b.m.set b.data_.who.toNat (endG (atI b.m b.data_.who))) i).done=flyG (Zb1 {b with data_:=GBeat.z0} b.data_) i
  unfold flyG at hfl ⊢
  show _=(if b.addr.live=true∧b.addr.who=i then (1:Int) else 0)+(if GBeat.z0.live=true∧GBeat.z0.who=i then 1 else 0)
  rw[hat i hi']
  simp only[Bool.false_eq_true,false_and,if_false]
  by_cases e:i=b.data_.who
  ·subst e
   rw[if_pos rfl]
   rw[if_pos (⟨hd,rfl⟩:b.data_.live=true∧b.data_.who=b.data_.who)] at hfl
   by_cases e2:(atI b.m b.data_.who).done+1=Ze (atI b.m b.data_.who)
   ·rw[(hef.1 e2).2.2.1,(hef.1 e2).2.2.2.1,if_neg (fun hx=>hlast e2 hx.1 hx.2)]
    rfl
   ·rw[(hef.2 e2).2.1,(hef.2 e2).2.2.1]
    omega
  ·rw[if_neg e]
   rw[if_neg (fun hx:b.data_.live=true∧b.data_.who=i=>e hx.2.symm)] at hfl
   omega
 ·have hA:=h.addr
  unfold Wt at hA ⊢
  show if b.addr.live=true then _ else _
  by_cases hl:b.addr.live=true
  ·rw[if_pos hl] at hA ⊢
   show b.addr.beat=(atI (b.m.set b.data_.who.toNat (endG (atI b.m b.data_.who))) b.addr.who).beat - 1∧_
   rw[hat _ (Qg h hl)]
   split
   ·rename_i e
    have e2:¬(atI b.m b.data_.who).done+1=Ze (atI b.m b.data_.who):=fun e2=>hlast e2 hl e
    rw[(hef.2 e2).2.1,←e];exact hA
   ·exact hA
  ·rw[if_neg hl] at hA ⊢;exact hA
 ·unfold X9
  show if GBeat.z0.live=true then _ else _
  rw[if_neg (by simp)]
  rfl
 ·obtain⟨h1,h2⟩:=h.held
  show Za3 (Zb1 {b with data_:=GBeat.z0} b.data_)
  unfold Za3
  show (∀i,Za b.conf i=true→(atI (b.m.set b.data_.who.toNat (endG (atI b.m b.data_.who))) i).beat > 0→Zy (atI (b.m.set b.data_.who.toNat (endG (atI b.m b.data_.who))) i)=true→(if b.holder=b.data_.who∧(atI b.m b.data_.who).done+1=Ze (atI b.m b.data_.who) then -1 else b.holder)=i)∧
   (if (if b.holder=b.data_.who∧(atI b.m b.data_.who).done+1=Ze (atI b.m b.data_.who) then -1 else b.holder)=-1 then (if b.holder=b.data_.who∧(atI b.m b.data_.who).done+1=Ze (atI b.m b.data_.who) then 0 else b.held)=0 else Za b.conf (if b.holder=b.data_.who∧(atI b.m b.data_.who).done+1=Ze (atI b.m b.data_.who) then -1 else b.holder)=true∧Zy (atI (b.m.set b.data_.who.toNat (endG (atI b.m b.data_.who))) (if b.holder=b.data_.who∧(atI b.m b.data_.who).done+1=Ze (atI b.m b.data_.who) then -1 else b.holder))=true∧atI b.splits (if b.holder=b.data_.who∧(atI b.m b.data_.who).done+1=Ze (atI b.m b.data_.who) then -1 else b.holder)=0∧(0≤(if b.holder=b.data_.who∧(atI b.m b.data_.who).done+1=Ze (atI b.m b.data_.who) then 0 else b.held)∧(if b.holder=b.data_.who∧(atI b.m b.data_.who).done+1=Ze (atI b.m b.data_.who) then 0 else b.held)≤b.conf.lockMost))
  have hold:∀i,Za b.conf i=true→(atI (b.m.set b.data_.who.toNat (endG (atI b.m b.data_.who))) i).beat > 0→Zy (atI (b.m.set b.data_.who.toNat (endG (atI b.m b.data_.who))) i)=true→b.holder=i∧¬(i=b.data_.who∧(atI b.m b.data_.who).done+1=Ze (atI b.m b.data_.who)):=by
   intro i hi hx hk
   rw[hat i hi] at hx hk
   by_cases e:i=b.data_.who
   ·rw[if_pos e] at hx hk
    by_cases e2:(atI b.m b.data_.who).done+1=Ze (atI b.m b.data_.who)
    ·rw[(hef.1 e2).2.2.1] at hx;omega
    ·have e3:=hef.2 e2
     rw[e3.2.1] at hx
     rw[Zi6 e3.1 e3.2.2.2.2.1] at hk
     subst e
     exact⟨h1 _ hi hx hk,fun hy=>e2 hy.2⟩
   ·rw[if_neg e] at hx hk
    exact⟨h1 i hi hx hk,fun hy=>e hy.1⟩
  by_cases e:b.holder=b.data_.who∧(atI b.m b.data_.who).done+1=Ze (atI b.m b.data_.who)
  ·simp only[if_pos e,if_true]
   refine⟨fun i hi hx hk=>?_,trivial⟩
   have:=hold i hi hx hk
   exact absurd ⟨by rw[←this.1];exact e.1,e.2⟩ this.2
  ·simp only[if_neg e]
   refine⟨fun i hi hx hk=>(hold i hi hx hk).1,?_⟩
   split
   ·rename_i e2;rw[if_pos e2] at h2;exact h2
   ·rename_i e2
    rw[if_neg e2] at h2
    refine⟨h2.1,?_,h2.2.2.1,h2.2.2.2⟩
    rw[hat _ h2.1]
    split
    ·rename_i e3
     have e4:¬(atI b.m b.data_.who).done+1=Ze (atI b.m b.data_.who):=fun e4=>e ⟨e3,e4⟩
     rw[Zi6 (hef.2 e4).1 (hef.2 e4).2.2.2.2.1,←e3];exact h2.2.1
    ·exact h2.2.1
 ·show (∀d∈b.log++[Zlh {b with data_:=GBeat.z0} b.data_],Zr6 b.conf (b.now+1) d)∧(b.log++[Zlh {b with data_:=GBeat.z0} b.data_]).Pairwise _
  refine⟨fun d hx=>?_,?_⟩
  ·rcases List.mem_append.1 hx with hx|hx
   ·have:=h.log.1 d hx
    exact⟨⟨this.1.1,by have:=this.1.2;omega⟩,this.2⟩
   ·rw[List.mem_singleton.1 hx]
    refine⟨⟨hn,by show b.now < b.now+1;omega⟩,hw,had.2.1,had.2.2.2,?_,hr⟩
    show numG (if b.data_.resp=0 then (doG {b with data_:=GBeat.z0} b.data_).2.1 else 0) (atI (atI b.m b.data_.who).queue 0).size=true
    split
    ·exact hmdl.2.1
    ·exact hz
  ·rw[List.pairwise_append]
   refine⟨h.log.2,List.pairwise_singleton _ _,fun x hx y hy=>?_⟩
   rw[List.mem_singleton.1 hy]
   exact (h.log.1 x hx).1.2
theorem Yc1 {c:GConf} (h:Z8 c=true) (s:GScript) (k:Int):1≤Jr c s k∧Jr c s k≤c.maxSplit:=by
 have:=(Xe h).2.2.2
 unfold Jr
 omega
theorem Zp8 {b:GBus} (s:GScript) (hn:0≤b.now) (h:BusI b.now b):BusI (b.now+1) (Zb b s).1∧((Zb b s).2.1=true→(Zb b s).1.data_=GBeat.z0):=by
 unfold Zb
 by_cases hd:b.data_.live=false
 ·rw[if_pos hd]
  refine⟨h.mono,fun _=>?_⟩
  have:=h.data
  unfold X9 at this
  rw[if_neg (by simp[hd])] at this
  exact this
 ·have hd':b.data_.live=true:=by simpa using hd
  have hdat:=h.data
  unfold X9 at hdat
  rw[if_pos hd'] at hdat
  rw[if_neg hd]
  by_cases hl:b.data_.left > 0
  ·rw[if_pos hl]
   exact⟨(Z9g h hd' hl).mono,fun hx=>by cases hx⟩
  ·have hl0:b.data_.left=0:=by have:=hdat.1.2.1;omega
   rw[if_neg hl]
   by_cases h2:b.data_.resp≠0∧b.data_.second=false
   ·rw[if_pos h2]
    exact⟨(Z9o h hd' hl0 h2.1).mono,fun hx=>by cases hx⟩
   ·rw[if_neg h2]
    have hsec:b.data_.resp≠0→b.addr.live=false:=fun hr=>by
     have:b.data_.second=true:=by
      cases hs:b.data_.second with
      | true=>rfl
      | false=>exact absurd ⟨hr,hs⟩ h2
     exact (hdat.2.2.2 this).2.2
    have hw:=Xd h hd'
    have hm:=h.mst _ hw
    by_cases h3:b.data_.resp=2
    ·rw[if_pos h3]
     refine⟨?_,fun _=>?_⟩
     ·refine (Zw9 h hd' (hsec (by omega)) {atI b.m b.data_.who with tries:=(atI b.m b.data_.who).tries+1} b.splits rfl rfl rfl rfl ⟨?_,?_⟩ rfl (fun i hi=>(h.mst i hi).split) fun _ h=>h).mono
      ·have:=hm.right.tries;show 0≤(atI b.m b.data_.who).tries+1;omega
      ·have:=hdat.2.1 h3;show (atI b.m b.data_.who).tries+1≤_;omega
     ·unfold Yj;split
      ·rfl
      ·split<;>rfl
    ·rw[if_neg h3]
     by_cases h4:b.data_.resp=3
     ·rw[if_pos h4]
      have hsp:=Yc1 h.conf s b.picks
      refine⟨?_,fun _=>?_⟩
      ·refine (Zw9 h hd' (hsec (by omega)) {atI b.m b.data_.who with parted:=true} (b.splits.set b.data_.who.toNat (Jr b.conf s b.picks)) rfl rfl rfl rfl ⟨hm.right.tries,hm.tries⟩ (by simp) (fun i hi=>?_) fun h5 h6=>?_).mono
       ·have hb:=Z3 hw
        rw[Zqw _ hb.1 (by have:=h.sl;omega) (Z3 hi).1]
        split
        ·omega
        ·exact (h.mst i hi).split
       ·have hb:=Z3 hw
        have hh:Za b.conf b.holder=true:=by
         have:=h.held.2
         rw[if_neg h5] at this
         exact this.1
        rw[Zqw _ hb.1 (by have:=h.sl;omega) (Z3 hh).1,if_neg (fun e=>(hdat.2.2.1 h4).2 e.symm)]
        exact h6
      ·unfold Yj;split
       ·rfl
       ·split<;>rfl
     ·rw[if_neg h4]
      exact⟨Z59 hn h hd' (by have:=hdat.1.2.2;omega) hsec,fun _=>rfl⟩
theorem Zb8 {n:Int} {b:GBus} (h:BusI n b) (e:b.holder≠-1):Za b.conf b.holder=true∧Zy (atI b.m b.holder)=true∧atI b.splits b.holder=0∧(0≤b.held∧b.held≤b.conf.lockMost):=by
 have:=h.held.2
 rw[if_neg e] at this
 exact this
theorem Zsr {n:Int} {b:GBus} (h:BusI n b):BusI n (Zr b):=by
 unfold Zr
 split
 ·rename_i hx
  obtain⟨hw,hlk,_,_⟩:=Zb8 h hx.1
  have hb:=Z3 hw
  have hat:∀i,Za b.conf i=true→atI (b.m.set b.holder.toNat {atI b.m b.holder with broken:=true}) i=if i=b.holder then {atI b.m b.holder with broken:=true} else atI b.m i:=fun i hi=>h.at_m hw _ hi
  have hsm:∀i,Za b.conf i=true→(atI (b.m.set b.holder.toNat {atI b.m b.holder with broken:=true}) i).beat=(atI b.m i).beat∧(atI (b.m.set b.holder.toNat {atI b.m b.holder with broken:=true}) i).done=(atI b.m i).done∧(atI (b.m.set b.holder.toNat {atI b.m b.holder with broken:=true}) i).tries=(atI b.m i).tries∧(atI (b.m.set b.holder.toNat {atI b.m b.holder with broken:=true}) i).parted=(atI b.m i).parted:=by
   intro i hi
   rw[hat i hi]
   split
   ·rename_i e;subst e;exact⟨rfl,rfl,rfl,rfl⟩
   ·exact⟨rfl,rfl,rfl,rfl⟩
  refine⟨h.conf,?_,h.bl,h.sl,fun i hi=>?_,h.arb,h.last,h.model,h.alive,h.dlive,fun i hi=>?_,?_,?_,?_,h.log⟩
  ·show (b.m.set b.holder.toNat _).length=_
   rw[List.length_set];exact h.ml
  ·have hi':Za b.conf i=true:=hi
   have hm:=h.mst i hi'
   refine⟨?_,?_,hm.bucket,hm.split⟩
   ·show RightP (atI (b.m.set b.holder.toNat {atI b.m b.holder with broken:=true}) i)
    rw[hat i hi']
    split
    ·have hr:=(h.mst _ hw).right
     exact⟨hr.len,hr.tries,hr.reqs,fun hq=>absurd (show (atI b.m b.holder).queue=[] from hq) (Z3k hlk),hr.some⟩
    ·exact hm.right
   ·show (atI (b.m.set b.holder.toNat {atI b.m b.holder with broken:=true}) i).tries≤b.conf.maxRetry
    rw[(hsm i hi').2.2.1];exact hm.tries
  ·have hi':Za b.conf i=true:=hi
   show (atI (b.m.set b.holder.toNat {atI b.m b.holder with broken:=true}) i).beat - (atI (b.m.set b.holder.toNat {atI b.m b.holder with broken:=true}) i).done=flyG b i
   rw[(hsm i hi').1,(hsm i hi').2.1];exact h.fly i hi'
  ·have:=h.addr
   unfold Wt at this ⊢
   show if b.addr.live=true then b.addr.beat=(atI (b.m.set b.holder.toNat {atI b.m b.holder with broken:=true}) b.addr.who).beat - 1∧_ else _
   by_cases hl:b.addr.live=true
   ·rw[if_pos hl] at this ⊢
    rw[(hsm _ (Qg h hl)).1];exact this
   ·rw[if_neg hl] at this ⊢;exact this
  ·have:=h.data
   unfold X9 at this ⊢
   show if b.data_.live=true then _ else _
   by_cases hl:b.data_.live=true
   ·rw[if_pos hl] at this ⊢
    have e:=hsm _ (Xd h hl)
    show (b.data_.beat=(atI (b.m.set b.holder.toNat {atI b.m b.holder with broken:=true}) b.data_.who).done∧_)∧(_→(atI (b.m.set b.holder.toNat {atI b.m b.holder with broken:=true}) b.data_.who).tries < _)∧(_→(atI (b.m.set b.holder.toNat {atI b.m b.holder with broken:=true}) b.data_.who).parted=false∧b.data_.who≠-1)∧_
    rw[e.2.1,e.2.2.1,e.2.2.2]
    exact⟨this.1,this.2.1,fun h3=>⟨(this.2.2.1 h3).1,by have:=Z3 (Xd h hl);omega⟩,this.2.2.2⟩
   ·rw[if_neg hl] at this ⊢;exact this
  ·refine⟨fun i hi hx2 hk=>?_,?_⟩
   ·have hi':Za b.conf i=true:=hi
    have hx3:(atI (b.m.set b.holder.toNat {atI b.m b.holder with broken:=true}) i).beat > 0:=hx2
    have hk3:Zy (atI (b.m.set b.holder.toNat {atI b.m b.holder with broken:=true}) i)=true:=hk
    rw[hat i hi'] at hx3 hk3
    split at hk3
    ·simp[Zy] at hk3
    ·rename_i e
     rw[if_neg e] at hx3
     exact absurd (h.held.1 i hi' hx3 hk3).symm e
   ·show if (-1:Int)=-1 then (0:Int)=0 else _
    rw[if_pos rfl]
 ·exact h
theorem Zdv (b:GBus):(Zr b).data_=b.data_∧(Zr b).addr=b.addr∧(Zr b).picks=b.picks∧(Zr b).now=b.now∧(Zr b).conf=b.conf∧(Zr b).log=b.log∧(Zr b).model=b.model:=by
 unfold Zr;split<;>exact⟨rfl,rfl,rfl,rfl,rfl,rfl,rfl⟩
theorem Zz5 {c:GConf} (h:Z8 c=true) (s:GScript) (k:Int):0≤Zkz c s k∧Zkz c s k≤c.maxWait:=by
 have:=(Xe h).2.1
 unfold Zkz
 omega
theorem Yck {n:Int} {b:GBus} (h:BusI n b) (s:GScript) (hl:b.addr.live=true):(0≤(Yu b s b.addr).2∧(Yu b s b.addr).2≤b.conf.maxWait+2)∧(0≤(Yu b s b.addr).1∧(Yu b s b.addr).1≤3)∧
  ((Yu b s b.addr).1=2→(atI b.m b.addr.who).tries < b.conf.maxRetry)∧((Yu b s b.addr).1=3→(atI b.m b.addr.who).parted=false∧b.addr.who≠b.holder):=by
 have hw:=Qg h hl
 have hm:=(h.mst _ hw).right
 have hbt:=Ziv h hl
 have had:=Z4l hm hbt.1 hbt.2
 have hmdl:=(Zxt (w:=(atI (atI b.m b.addr.who).queue 0).write) (v:=Znn (atI b.m b.addr.who) b.addr.beat) h.model had.2.1).2.2
 have hwt:=Zz5 h.conf s b.picks
 have hlm:=(Xe h.conf).2.1
 have hdo:(doG b b.addr).2.2=0∨(doG b b.addr).2.2=1:=hmdl
 unfold Yu
 split
 ·exact⟨by simp;omega,by simp,by simp,by simp⟩
 ·refine⟨?_,?_,?_,?_⟩
  ·simp only
   split<;>omega
  ·simp only
   repeat' split
   all_goals omega
  ·simp only
   split
   ·rename_i h1;exact fun _=>h1.2.2
   ·split
    ·intro h2;omega
    ·intro h2;omega
  ·simp only
   split
   ·intro h2;omega
   ·split
    ·rename_i h1;exact fun _=>h1.2.2
    ·intro h2;omega
theorem Zsq {n:Int} {b:GBus} (h:BusI n b) (s:GScript) (hd:b.data_=GBeat.z0):BusI n (Z1 b s)∧(Z1 b s).addr=GBeat.z0:=by
 unfold Z1
 by_cases hl:b.addr.live=true
 ·rw[if_pos hl]
  refine⟨?_,rfl⟩
  have hw:=Qg h hl
  have ha:=Yck h s hl
  have hA:=h.addr
  unfold Wt at hA
  rw[if_pos hl] at hA
  have hdl:b.data_.live=false:=by rw[hd]
  have hdone:(atI b.m b.addr.who).beat - (atI b.m b.addr.who).done=1:=by
   rw[h.fly _ hw]
   unfold flyG
   rw[if_pos ⟨hl,rfl⟩,hdl]
   simp
  refine⟨h.conf,h.ml,h.bl,h.sl,fun i hi=>?_,h.arb,h.last,h.model,(fun hx=>by cases hx),fun _=>h.alive hl,fun i hi=>?_,?_,?_,h.held,h.log⟩
  ·have hm:=h.mst i hi;exact⟨hm.right,hm.tries,hm.bucket,hm.split⟩
  ·have hfl:=h.fly i hi
   rw[hfl]
   unfold flyG
   simp only[hdl,hl,Bool.false_eq_true,false_and,if_false,true_and]
   omega
  ·unfold Wt
   simp
  ·unfold X9
   show if b.addr.live=true then _ else _
   rw[if_pos hl]
   refine⟨⟨by show b.addr.beat=_;rw[hA.1];show (atI b.m b.addr.who).beat - 1=(atI b.m b.addr.who).done;omega,ha.1,ha.2.1⟩,ha.2.2.1,ha.2.2.2,fun hs=>?_⟩
   have:b.addr.second=true:=hs
   rw[hA.2.2.2] at this
   cases this
 ·rw[if_neg hl]
  refine⟨h,?_⟩
  have hA:=h.addr
  unfold Wt at hA
  rw[if_neg hl] at hA
  exact hA
theorem J3 (b:GBus) (s:GScript):(Z1 b s).now=b.now∧(Z1 b s).conf=b.conf∧(Z1 b s).log=b.log∧(Z1 b s).model=b.model∧(Z1 b s).m=b.m∧(Z1 b s).splits=b.splits∧(Z1 b s).holder=b.holder∧b.picks≤(Z1 b s).picks∧(Z1 b s).picks≤b.picks+1:=by
 unfold Z1;split
 ·exact⟨rfl,rfl,rfl,rfl,rfl,rfl,rfl,by show b.picks≤b.picks+1;omega,Int.le_refl _⟩
 ·exact⟨rfl,rfl,rfl,rfl,rfl,rfl,rfl,Int.le_refl _,by omega⟩
theorem Kz (b:GBus):(We b).length=b.m.length:=by simp[We]
theorem Zmc {n:Int} {b:GBus} (h:BusI n b) {i:Int} (hi:Za b.conf i=true):atI (We b) i=W4 b i:=by
 obtain⟨k,rfl,hk⟩:=Zkl hi
 have:=h.ml
 rw[Yh (by rw[Kz];omega)]
 simp[We]
structure Picked (n:Int) (b:GBus) (p:Int×Int×GBus):Prop where
 ok:BusI n p.2.2
 who:p.1=-1∨(Za b.conf p.1=true∧W4 b p.1=true∧(1≤p.2.1∧p.2.1≤3))
 conf:p.2.2.conf=b.conf
 m:p.2.2.m=b.m
 splits:p.2.2.splits=b.splits
 holder:p.2.2.holder=b.holder
 held:p.2.2.held=b.held
 addr:p.2.2.addr=b.addr
 data:p.2.2.data_=b.data_
 model:p.2.2.model=b.model
 log:p.2.2.log=b.log
 last:p.2.2.last=b.last
 now:p.2.2.now=b.now
 picks:p.2.2.picks=b.picks
theorem Zdh {n:Int} {b:GBus} (h:BusI n b):Picked n b (Zu b):=by
 unfold Zu
 split
 ·rename_i hx
  exact⟨h,.inr ⟨(Zb8 h hx.1).1,hx.2,by simp⟩,rfl,rfl,rfl,rfl,rfl,rfl,rfl,rfl,rfl,rfl,rfl,rfl⟩
 ·split
  ·rename_i k hk
   have hk1:=List.find?_some hk
   have hk2:=List.mem_of_find?_eq_some hk
   rw[List.mem_range,h.ml] at hk2
   simp only[Zc1,Bool.and_eq_true] at hk1
   have hm:=mas (c:=b.conf) hk2
   have hmb:=Z3 hm
   refine⟨?_,.inr ⟨hm,hk1.1,by simp⟩,rfl,rfl,rfl,rfl,rfl,rfl,rfl,rfl,rfl,rfl,rfl,rfl⟩
   refine⟨h.conf,h.ml,by show (b.buckets.set k _).length=_;rw[List.length_set];exact h.bl,h.sl,fun i hi=>?_,h.arb,h.last,h.model,h.alive,h.dlive,h.fly,h.addr,h.data,h.held,h.log⟩
   have hmi:=h.mst i hi
   refine⟨hmi.right,hmi.tries,?_,hmi.split⟩
   show Z5 (atI (b.buckets.set k (Zeb (atI b.buckets (k:Int)) (atI b.conf.masters (k:Int))).1) i) (atI b.conf.masters i)=true
   have e:=Zqw (xs:=b.buckets) (w:=(k:Int)) (Zeb (atI b.buckets (k:Int)) (atI b.conf.masters (k:Int))).1 hmb.1 (by have:=h.bl;omega) (Z3 hi).1
   rw[Int.toNat_natCast] at e
   rw[e]
   split
   ·rename_i e2;subst e2;exact Ygf hmi.bucket (Zbb h.conf hi)
   ·exact hmi.bucket
  ·split
   ·exact⟨h,.inl rfl,rfl,rfl,rfl,rfl,rfl,rfl,rfl,rfl,rfl,rfl,rfl,rfl⟩
   ·have hp:=Z2m (wants:=We b) h.arb (by rw[Kz,h.ml])
    refine⟨⟨h.conf,h.ml,h.bl,h.sl,fun i hi=>?_,hp.1,h.last,h.model,h.alive,h.dlive,h.fly,h.addr,h.data,h.held,h.log⟩,?_,rfl,rfl,rfl,rfl,rfl,rfl,rfl,rfl,rfl,rfl,rfl,rfl⟩
    ·have hmi:=h.mst i hi;exact⟨hmi.right,hmi.tries,hmi.bucket,hmi.split⟩
    ·rcases hp.2 with hp2|hp2
     ·exact .inl hp2
     ·exact .inr ⟨hp2.1,by rw[←Zmc h hp2.1];exact hp2.2,by simp⟩
theorem Zm2 {b:GBus} {i:Int} (h:W4 b i=true):(atI b.m i).beat < Ze (atI b.m i)∧atI b.splits i=0∧(b.holder=-1∨b.holder=i):=by
 simp only[W4,Zoc,Bool.and_eq_true,Bool.or_eq_true,decide_eq_true_eq] at h
 exact⟨h.1,h.2.1,h.2.2⟩
theorem Zxf (m:GMst):(Y6 m).queue=m.queue∧(Y6 m).done=m.done∧(Y6 m).tries=m.tries∧(Y6 m).parted=m.parted∧(Y6 m).broken=m.broken:=by
 unfold Y6;split<;>exact⟨rfl,rfl,rfl,rfl,rfl⟩
theorem Yfq {n:Int} {b:GBus} (h:BusI n b) (ha:b.addr=GBeat.z0) (hsec:b.data_.second=false) {who by_:Int} (hw:Za b.conf who=true) (hwant:W4 b who=true) (hby:1≤by_∧by_≤3):BusI n (Kk b who by_):=by
 obtain⟨w1,w2,w3⟩:=Zm2 hwant
 have hmw:=(h.mst _ hw).right
 have hal:b.addr.live=false:=by rw[ha]
 have hfw:=h.fly _ hw
 have hle:(atI b.m who).beat - (atI b.m who).done≤1:=by
  rw[hfw];unfold flyG;rw[hal];simp only[Bool.false_eq_true,false_and,if_false];split<;>omega
 have hbt:(Y6 (atI b.m who)).beat=(atI b.m who).beat+1:=by
  unfold Y6;rw[if_pos ⟨w1,by omega⟩]
 have hs:=Zxf (atI b.m who)
 have hat:∀i,Za b.conf i=true→atI (b.m.set who.toNat (Y6 (atI b.m who))) i=if i=who then Y6 (atI b.m who) else atI b.m i:=fun i hi=>h.at_m hw _ hi
 have hsm:∀i,Za b.conf i=true→(atI (b.m.set who.toNat (Y6 (atI b.m who))) i).queue=(atI b.m i).queue∧(atI (b.m.set who.toNat (Y6 (atI b.m who))) i).done=(atI b.m i).done∧(atI (b.m.set who.toNat (Y6 (atI b.m who))) i).tries=(atI b.m i).tries∧(atI (b.m.set who.toNat (Y6 (atI b.m who))) i).parted=(atI b.m i).parted∧(atI (b.m.set who.toNat (Y6 (atI b.m who))) i).broken=(atI b.m i).broken:=fun i hi=>by
  rw[hat i hi]
  split
  ·rename_i e;subst e;exact hs
  ·exact⟨rfl,rfl,rfl,rfl,rfl⟩
 have hmb:=Z3 hw
 refine⟨h.conf,?_,h.bl,h.sl,fun i hi=>?_,h.arb,.inr hw,h.model,fun _=>⟨hw,hby,w2⟩,h.dlive,fun i hi=>?_,?_,?_,?_,h.log⟩
 ·show (b.m.set who.toNat _).length=_
  rw[List.length_set];exact h.ml
 ·have hi':Za b.conf i=true:=hi
  have hm:=h.mst i hi'
  refine⟨?_,?_,hm.bucket,hm.split⟩
  ·show RightP (atI (b.m.set who.toNat (Y6 (atI b.m who))) i)
   rw[hat i hi']
   split
   ·exact Z6a hmw
   ·exact hm.right
  ·show (atI (b.m.set who.toNat (Y6 (atI b.m who))) i).tries≤_
   rw[(hsm i hi').2.2.1];exact hm.tries
 ·have hi':Za b.conf i=true:=hi
  have hfl:=h.fly i hi'
  show (atI (b.m.set who.toNat (Y6 (atI b.m who))) i).beat - (atI (b.m.set who.toNat (Y6 (atI b.m who))) i).done=flyG (Kk b who by_) i
  rw[(hsm i hi').2.1,hat i hi']
  unfold flyG at hfl ⊢
  rw[hal] at hfl
  simp only[Bool.false_eq_true,false_and,if_false] at hfl
  show _=(if (true:Bool)=true∧who=i then (1:Int) else 0)+(if b.data_.live=true∧b.data_.who=i then 1 else 0)
  simp only[true_and]
  by_cases e:i=who
  ·subst e
   rw[if_pos rfl,if_pos rfl,hbt];omega
  ·rw[if_neg e,if_neg (fun e2=>e e2.symm)];omega
 ·unfold Wt
  show if (true:Bool)=true then (atI b.m who).beat=(atI (b.m.set who.toNat (Y6 (atI b.m who))) who).beat - 1∧_ else _
  rw[if_pos rfl,hat _ hw,if_pos rfl,hbt]
  exact⟨by omega,rfl,rfl,rfl⟩
 ·have hD:=h.data
  unfold X9 at hD ⊢
  show if b.data_.live=true then _ else _
  by_cases hl:b.data_.live=true
  ·rw[if_pos hl] at hD ⊢
   have e:=hsm _ (Xd h hl)
   show (b.data_.beat=(atI (b.m.set who.toNat (Y6 (atI b.m who))) b.data_.who).done∧_)∧(_→(atI (b.m.set who.toNat (Y6 (atI b.m who))) b.data_.who).tries < _)∧(_→(atI (b.m.set who.toNat (Y6 (atI b.m who))) b.data_.who).parted=false∧b.data_.who≠(if Zy (atI b.m who)=true∧b.holder=-1 then who else b.holder))∧_
   rw[e.2.1,e.2.2.1,e.2.2.2.1]
   refine⟨hD.1,hD.2.1,fun h3=>⟨(hD.2.2.1 h3).1,?_⟩,fun h4=>?_⟩
   ·split
    ·rename_i e2
     intro e3
     have hp:=Zkp h hl
     have hr:=J6 (h.mst _ (Xd h hl)).right
     have:=h.held.1 _ (Xd h hl) (by omega) (by rw[e3];exact e2.1)
     omega
    ·exact (hD.2.2.1 h3).2
   ·have:b.data_.second=true:=h4
    rw[hsec] at this;cases this
  ·rw[if_neg hl] at hD ⊢;exact hD
 ·have hh:=h.held
  unfold Za3 at hh ⊢
  show (∀i,Za b.conf i=true→(atI (b.m.set who.toNat (Y6 (atI b.m who))) i).beat > 0→Zy (atI (b.m.set who.toNat (Y6 (atI b.m who))) i)=true→(if Zy (atI b.m who)=true∧b.holder=-1 then who else b.holder)=i)∧
   (if (if Zy (atI b.m who)=true∧b.holder=-1 then who else b.holder)=-1 then (if Zy (atI b.m who)=true∧b.holder=-1 then 0 else b.held)=0 else Za b.conf (if Zy (atI b.m who)=true∧b.holder=-1 then who else b.holder)=true∧Zy (atI (b.m.set who.toNat (Y6 (atI b.m who))) (if Zy (atI b.m who)=true∧b.holder=-1 then who else b.holder))=true∧atI b.splits (if Zy (atI b.m who)=true∧b.holder=-1 then who else b.holder)=0∧(0≤(if Zy (atI b.m who)=true∧b.holder=-1 then 0 else b.held)∧(if Zy (atI b.m who)=true∧b.holder=-1 then 0 else b.held)≤b.conf.lockMost))
  have hlk:∀i,Za b.conf i=true→Zy (atI (b.m.set who.toNat (Y6 (atI b.m who))) i)=Zy (atI b.m i):=fun i hi=>Zi6 (hsm i hi).1 (hsm i hi).2.2.2.2
  have hlm:=(Xe h.conf).2.2.1
  have hold:∀i,Za b.conf i=true→i≠who→(atI (b.m.set who.toNat (Y6 (atI b.m who))) i).beat > 0→Zy (atI b.m i)=true→False:=by
   intro i hi e hx hk
   rw[hat i hi,if_neg e] at hx
   have:=hh.1 i hi hx hk
   have:=Z3 hi
   omega
  by_cases e:Zy (atI b.m who)=true∧b.holder=-1
  ·simp only[if_pos e]
   refine⟨fun i hi hx hk=>?_,?_⟩
   ·by_cases e2:i=who
    ·exact e2.symm
    ·rw[hlk i hi] at hk
     exact (hold i hi e2 hx hk).elim
   ·rw[if_neg (by omega)]
    exact⟨hw,by rw[hlk _ hw];exact e.1,w2,by omega,by omega⟩
  ·simp only[if_neg e]
   refine⟨fun i hi hx hk=>?_,?_⟩
   ·rw[hlk i hi] at hk
    by_cases e2:i=who
    ·subst e2
     rcases w3 with w3|w3
     ·exact absurd ⟨hk,w3⟩ e
     ·exact w3
    ·exact (hold i hi e2 hx hk).elim
   ·have h2:=hh.2
    split
    ·rename_i e2;rw[if_pos e2] at h2;exact h2
    ·rename_i e2
     rw[if_neg e2] at h2
     exact⟨h2.1,by rw[hlk _ h2.1];exact h2.2.1,h2.2.2⟩
theorem Yfa {n:Int} {b:GBus} (h:BusI n b) (ha:b.addr=GBeat.z0) (hsec:b.data_.second=false):BusI n (Zh b).2:=by
 have hp:=Zdh h
 unfold Zh
 split
 ·exact hp.ok
 ·rename_i hx
  rcases hp.who with h1|h1
  ·exact absurd (show (Zu b).1 < 0 by rw[h1];decide) hx
  ·refine Yfq hp.ok (by rw[hp.addr];exact ha) (by rw[hp.data];exact hsec) (by rw[hp.conf];exact h1.1) ?_ h1.2.2
   have:=h1.2.1
   unfold W4 at this ⊢
   rw[hp.m,hp.splits,hp.holder];exact this
theorem Zgv {n:Int} {b:GBus} (h:BusI n b):(Zh b).2.now=b.now∧(Zh b).2.conf=b.conf∧(Zh b).2.log=b.log∧(Zh b).2.model=b.model∧(Zh b).2.picks=b.picks∧(Zh b).2.data_=b.data_:=by
 have hp:=Zdh h
 unfold Zh
 split
 ·exact⟨hp.now,hp.conf,hp.log,hp.model,hp.picks,hp.data⟩
 ·exact⟨hp.now,hp.conf,hp.log,hp.model,hp.picks,hp.data⟩
theorem Z26 {n:Int} {b:GBus} (h:BusI n b) (s:GScript) (hd:b.data_=GBeat.z0):BusI n (Wu b s).2∧(Wu b s).2.now=b.now∧b.picks≤(Wu b s).2.picks∧(Wu b s).2.picks≤b.picks+1∧(Wu b s).2.conf=b.conf∧(Wu b s).2.log=b.log∧(Wu b s).2.model=b.model:=by
 have h1:=Zsr h
 have e1:=Zdv b
 have h2:=Zsq h1 s (by rw[e1.1];exact hd)
 have e2:=J3 (Zr b) s
 have hsec:(Z1 (Zr b) s).data_.second=false:=by
  unfold Z1
  split
  ·rename_i hl
   have hA:=h1.addr
   unfold Wt at hA
   rw[if_pos hl] at hA
   exact hA.2.2.2
  ·rw[e1.1,hd]
 have h3:=Yfa h2.1 h2.2 hsec
 have e3:=Zgv h2.1
 unfold Wu
 exact⟨h3,by rw[e3.1,e2.1,e1.2.2.2.1],by rw[e3.2.2.2.2.1,←e1.2.2.1];exact e2.2.2.2.2.2.2.2.1,by rw[e3.2.2.2.2.1,←e1.2.2.1];exact e2.2.2.2.2.2.2.2.2,by rw[e3.2.1,e2.2.1,e1.2.2.2.2.1],by rw[e3.2.2.1,e2.2.2.1,e1.2.2.2.2.2.1],by rw[e3.2.2.2.1,e2.2.2.2.1,e1.2.2.2.2.2.2]⟩
theorem Zte (b:GBus):(Z7 b).now=b.now∧(Z7 b).conf=b.conf∧(Z7 b).picks=b.picks∧(Z7 b).log=b.log∧(Z7 b).model=b.model∧(Z7 b).m=b.m∧(Z7 b).addr=b.addr∧(Z7 b).data_=b.data_∧(Z7 b).holder=b.holder:=⟨rfl,rfl,rfl,rfl,rfl,rfl,rfl,rfl,rfl⟩
theorem Zus (b:GBus):(Qd b).now=b.now∧(Qd b).conf=b.conf∧(Qd b).picks=b.picks∧(Qd b).log=b.log∧(Qd b).model=b.model∧(Qd b).m=b.m∧(Qd b).addr=b.addr∧(Qd b).data_=b.data_∧(Qd b).holder=b.holder:=by
 unfold Qd;split<;>exact⟨rfl,rfl,rfl,rfl,rfl,rfl,rfl,rfl,rfl⟩
theorem Xs (b:GBus) (s:GScript):(Zc b s).now=b.now∧(Zc b s).conf=b.conf∧(Zc b s).picks=b.picks∧(Zc b s).log=b.log∧(Zc b s).model=b.model∧(Zc b s).addr=b.addr∧(Zc b s).data_=b.data_∧(Zc b s).holder=b.holder:=by
 have h1:=Zus (Z7 (Z2 b (Xq s b.now)))
 have h2:=Zte (Z2 b (Xq s b.now))
 have h3:=Zar b (Xq s b.now)
 unfold Zc
 refine⟨?_,?_,?_,?_,?_,?_,?_,?_⟩
 ·rw[h1.1,h2.1,h3.2.1]
 ·rw[h1.2.1,h2.2.1,h3.1]
 ·rw[h1.2.2.1,h2.2.2.1,h3.2.2.1]
 ·rw[h1.2.2.2.1,h2.2.2.2.1,h3.2.2.2.1]
 ·rw[h1.2.2.2.2.1,h2.2.2.2.2.1,h3.2.2.2.2.1]
 ·rw[h1.2.2.2.2.2.2.1,h2.2.2.2.2.2.2.1,h3.2.2.2.2.2.2.2.1]
 ·rw[h1.2.2.2.2.2.2.2.1,h2.2.2.2.2.2.2.2.1,h3.2.2.2.2.2.2.2.2.1]
 ·rw[h1.2.2.2.2.2.2.2.2,h2.2.2.2.2.2.2.2.2,h3.2.2.2.2.2.1]
theorem Zzi {b:GBus} (h:BusP b) (s:GScript):BusI b.now (Zc b s):=Z8a (Zy4 (Zj2 h.i _))
theorem Zsj (b:GBus) (x:GBeat):(Yj b x).now=b.now∧(Yj b x).picks=b.picks∧(Yj b x).conf=b.conf∧(Yj b x).log=b.log∧(Yj b x).model=b.model:=by
 unfold Yj
 split
 ·exact⟨rfl,rfl,rfl,rfl,rfl⟩
 ·split<;>exact⟨rfl,rfl,rfl,rfl,rfl⟩
theorem Zbs (b:GBus) (s:GScript):(Zb b s).1.now=b.now∧(Zb b s).1.picks=b.picks∧(Zb b s).1.conf=b.conf:=by
 unfold Zb
 repeat' split
 all_goals first
  | exact⟨rfl,rfl,rfl⟩
  | exact⟨(Zsj _ _).1,(Zsj _ _).2.1,(Zsj _ _).2.2.1⟩
theorem Zu7 {b:GBus} (h:BusP b) (s:GScript) (hn:b.now < 4000):BusP (Zq b s).1∧(Zq b s).1.now=b.now+1∧(Zq b s).1.conf=b.conf:=by
 have h1:=Zzi h s
 have e1:=Xs b s
 have hI:BusI (Zc b s).now (Zc b s):=by rw[e1.1];exact h1
 have h2:=Zp8 s (by rw[e1.1];exact h.now.1) hI
 have e2:=Zbs (Zc b s) s
 have hp:=h.picks
 have hnow:=h.now
 unfold Zq
 rw[e1.1] at h2
 by_cases hr:(Zb (Zc b s) s).2.1=true
 ·rw[if_pos hr]
  have h3:=Z26 h2.1 s (h2.2 hr)
  refine⟨?_,rfl,by show (Wu _ s).2.conf=_;rw[h3.2.2.2.2.1,e2.2.2,e1.2.1]⟩
  have h4:=h3.1
  have e3:(Zb (Zc b s) s).1.picks=b.picks:=by rw[e2.2.1,e1.2.2.1]
  have h5:=h3.2.2.1
  have h6:=h3.2.2.2.1
  generalize (Wu (Zb (Zc b s) s).1 s).2=r at h4 h5 h6 ⊢
  exact⟨h4.conf,⟨by show 0≤b.now+1;omega,by show b.now+1≤4000;omega⟩,h4.ml,h4.bl,h4.sl,fun i hi=>⟨(h4.mst i hi).right,(h4.mst i hi).tries,(h4.mst i hi).bucket,(h4.mst i hi).split⟩,h4.arb,h4.last,h4.model,⟨by show 0≤r.picks;omega,by show r.picks≤b.now+1;omega⟩,h4.alive,h4.dlive,h4.fly,h4.addr,h4.data,h4.held,h4.log⟩
 ·rw[if_neg hr]
  refine⟨?_,rfl,by show (Zb _ s).1.conf=_;rw[e2.2.2,e1.2.1]⟩
  have h4:=h2.1
  have e3:(Zb (Zc b s) s).1.picks=b.picks:=by rw[e2.2.1,e1.2.2.1]
  generalize (Zb (Zc b s) s).1=r at h4 e3 ⊢
  exact⟨h4.conf,⟨by show 0≤b.now+1;omega,by show b.now+1≤4000;omega⟩,h4.ml,h4.bl,h4.sl,fun i hi=>⟨(h4.mst i hi).right,(h4.mst i hi).tries,(h4.mst i hi).bucket,(h4.mst i hi).split⟩,h4.arb,h4.last,h4.model,⟨by show 0≤r.picks;omega,by show r.picks≤b.now+1;omega⟩,h4.alive,h4.dlive,h4.fly,h4.addr,h4.data,h4.held,h4.log⟩
structure GScript.sm (s:GScript):Prop where
 posts:s.posts.length < 1048577
 reqs:∀p∈s.posts,p.req.sm
 waits:s.waits.length < 1048577
 says:s.says.length < 1048577
 wmin:∀w∈s.waits,-9223372036854775808≤w∧w < 9223372036854775808
theorem Jl {σ ρ:Type} {n:Nat} (hn:n < 4611686018427387904) (st:Nat→σ) {B:(σ→Int→ρ)→σ→Int→ρ} {L:Nat→σ→Int→ρ} (hL:∀m s i,L (m+1) s i=B (L m) s i)
  (hs:∀k,k < n→∀κ,B κ (st k) (k:Int)=κ (st (k+1)) (addW (k:Int) 1)) {r:ρ} (hf:∀κ,B κ (st n) (n:Int)=r):L FU (st 0) 0=r:=by
 have key:∀(m k:Nat),k≤n→n - k < m→L m (st k) (k:Int)=r:=by
  intro m
  induction m with
  | zero=>intro k _ h;omega
  | succ m ih=>
   intro k hk hm
   rw[hL]
   by_cases hc:k < n
   ·rw[hs k hc,Y5 (by omega)]
    exact ih (k+1) (by omega) (by omega)
   ·have:k=n:=by omega
    subst this
    exact hf _
 have:=key FU 0 (Nat.zero_le _) (by have:=Wj;omega)
 simpa using this
theorem Zn4 (l:List Int) (k:Int) (hl:l.length < 1048577):Zez l k=some (Zh6 l k):=by
 unfold Zez Zfk Zh6
 by_cases h:l=[]
 ·simp[h]
 ·have h1:0 < l.length:=List.length_pos_iff.2 h
  rw[if_neg (by simpa using h)]
  by_cases h2:k < 0
  ·simp[h2]
  ·have h3:0≤k % (l.length:Int):=Int.emod_nonneg _ (by omega)
   have h4:k % (l.length:Int) < (l.length:Int):=Int.emod_lt_of_pos _ (by omega)
   rw[Zgc (by omega),Option.bind_some,Kq (by omega),Xj h3 h4]
   simp[h,h2]
theorem Yd0 {l:List Int} {k:Int} (h:∀w∈l,-9223372036854775808≤w∧w < 9223372036854775808):-9223372036854775808≤Zh6 l k∧Zh6 l k < 9223372036854775808:=by
 unfold Zh6
 split
 ·omega
 ·rename_i hx
  have h1:l≠[]:=fun e=>hx (.inl e)
  have h2:0 < l.length:=List.length_pos_iff.2 h1
  exact h _ (Zen (Int.emod_nonneg _ (by omega)) (Int.emod_lt_of_pos _ (by omega)))
theorem Z51 (c:GConf) {s:GScript} (k:Int) (hs:s.sm):Zni c s k=some (Zkz c s k):=by
 unfold Zni Zkz
 rw[Zn4 _ _ hs.waits,Option.bind_some,Znt,Zi1]
theorem Z5k {s:GScript} (k:Int) (hs:s.sm):Zm9 s k=some (Zg4 s k):=by
 unfold Zm9 Zg4
 rw[Zn4 _ _ hs.says,Option.bind_some]
 by_cases h1:Zh6 s.says k=2
 ·simp[h1]
 ·by_cases h2:Zh6 s.says k=3<;>simp[h1,h2]
theorem Z29 (c:GConf) {s:GScript} (k:Int) (hs:s.sm):Zlg c s k=some (Jr c s k):=by
 have h:=Yd0 (k:=k) hs.wmin
 unfold Zlg Jr
 rw[Zn4 _ _ hs.waits,Option.bind_some,Znt,Zi1,Znt,Zi1,Zm (by omega) (by omega)]
theorem Z63 {α:Type} (p:α→Bool) (xs:List α) (k:Nat) (hk:k < xs.length):(xs.take (k+1)).filter p=(xs.take k).filter p++(if p xs[k] then [xs[k]] else []):=by
 rw[List.take_succ_eq_append_getElem hk,List.filter_append]
 cases hq:p xs[k]<;>simp[hq]
theorem Z41 (s:GScript) (t:Int) (hs:s.sm):Zll s t=some (Xq s t):=by
 unfold Zll Xq
 have hp:=hs.posts
 refine Jl (σ:=List GPost) (n:=s.posts.length) (by omega) (fun k=>(s.posts.take k).filter fun p=>decide (p.at_=t)) (B:=Zem s t) (L:=Ze9 s t) (fun m s i=>rfl) (fun k hk κ=>?_) fun κ=>?_
 ·unfold Zem
  have hlen:((s.posts.take k).filter fun p=>decide (p.at_=t)).length≤k:=Nat.le_trans (List.length_filter_le ..) (by rw[List.length_take];omega)
  rw[if_pos (by simpa using hk),Yi hk,Option.bind_some,Z63 _ _ _ hk,Zuv _ (hs.reqs _ (List.getElem_mem hk)),Option.bind_some]
  by_cases e:s.posts[k].at_=t
  ·rw[if_pos (by simpa using e),Wl (by simp only[List.length_cons,List.length_nil];omega) (by simp only[List.length_cons,List.length_nil];omega),Option.bind_some,if_pos (decide_eq_true e)]
  ·rw[if_neg (by simpa using e),if_neg (by simpa using e),List.append_nil]
 ·unfold Zem
  rw[if_neg (by simp),List.take_length]
theorem Yek {s:GScript} (hs:s.sm) (t:Int):(Xq s t).length < 1048577∧∀p∈Xq s t,p.req.sm:=by
 have hp:=hs.posts
 refine⟨Nat.lt_of_le_of_lt (List.length_filter_le ..) hp,fun p hx=>hs.reqs p ?_⟩
 unfold Xq at hx
 exact (List.mem_filter.1 hx).1
theorem Z4v (b:GBus) (ps:List GPost) (k:Nat) (hk:k < ps.length):Z2 b (ps.take (k+1))=Xk (Z2 b (ps.take k)) ps[k]:=by
 unfold Z2
 rw[List.take_succ_eq_append_getElem hk,List.foldl_append]
 rfl
theorem Z0r (c:GConf) (h:c.masters.length < 1048577):Zhy c=some c∧Zxm c=some c:=by
 unfold Zhy Qp Zxm
 rw[Wl (by simp;omega) (by simp;omega)]
 exact⟨rfl,rfl⟩
theorem Ydg (xs:List GDone) (h:xs.length < 1048577):appI 56 [] xs=some xs:=by
 rw[Wl (by simp;omega) (by simp;omega)];rfl
theorem Ye0 (xs:List GBucket) (h:xs.length < 1048577):appI 16 [] xs=some xs:=by
 rw[Wl (by simp;omega) (by simp;omega)];rfl
theorem Zvj (b:GBus) (hs:b.sm):Zj5 b=some b:=by
 unfold Zj5
 rw[(Z0r b.conf hs.conf).1,Option.bind_some]
 have:=hs.ml
 refine (Jl (σ:=GBus×List GMst) (n:=b.m.length) (by omega) (fun k=>(b,b.m.take k)) (B:=fun κ s i=>Zfv b (fun x y i=>κ (x,y) i) s.1 s.2 i) (L:=fun m s i=>Zdb b m s.1 s.2 i) (fun m s i=>rfl) (fun k hk κ=>?_) fun κ=>?_:Zdb b FU b [] 0=some b)
 ·unfold Zfv
  have hlen:(b.m.take k).length=k:=by rw[List.length_take];omega
  simp only
  rw[if_pos (by simpa using hk),Yi hk,Option.bind_some,Zho _ (hs.mst _ (List.getElem_mem hk)),Option.bind_some,Wl (by simp only[List.length_cons,List.length_nil];omega) (by simp only[List.length_cons,List.length_nil];omega),Option.bind_some,←List.take_succ_eq_append_getElem hk]
 ·unfold Zfv Qa Q6
  simp only
  rw[if_neg (by simp),Ye0 _ hs.bl,Option.bind_some,Zki _ hs.sl,Option.bind_some,Zmr _ hs.model,Option.bind_some,Ydg _ hs.log,Option.bind_some,List.take_length]
theorem Z7o {c:GConf} {n:Int} (hn:n≤4001) {l:List GDone} (h:(∀d∈l,Zr6 c n d)∧l.Pairwise fun x y=>x.cycle < y.cycle):l.length≤4001:=by
 have key:∀(l:List GDone) (a:Int),(∀d∈l,a≤d.cycle∧d.cycle < n)→(l.Pairwise fun x y=>x.cycle < y.cycle)→l≠[]→(l.length:Int)≤n - a:=by
  intro l
  induction l with
  | nil=>intro a _ _ h;exact absurd rfl h
  | cons x xs ih=>
   intro a h1 h2 _
   have h3:=h1 x (List.mem_cons_self ..)
   by_cases hx:xs=[]
   ·subst hx;simp;omega
   ·have h4:=List.pairwise_cons.1 h2
    have:=ih (x.cycle+1) (fun d hd=>⟨by have:=h4.1 d hd;omega,(h1 d (List.mem_cons_of_mem _ hd)).2⟩) h4.2 hx
    simp only[List.length_cons]
    omega
 by_cases hx:l=[]
 ·subst hx;simp
 ·have:=key l 0 (fun d hd=>(h.1 d hd).1) h.2 hx
  omega
theorem BusI.sm {n:Int} {b:GBus} (h:BusI n b) (hn:n≤4001):b.sm:=by
 have h1:=Ke h.conf
 have h2:=h.ml
 have h3:=h.bl
 have h4:=h.sl
 have h5:=Z7o hn h.log
 refine⟨h1,by omega,fun x hx=>?_,by omega,by omega,h.model.sm,by omega⟩
 obtain⟨k,hk,rfl⟩:=List.getElem_of_mem hx
 have:=(h.mst (k:Int) (mas (by omega))).right.sm
 rwa [Yh hk] at this
theorem BusP.sm {b:GBus} (h:BusP b):b.sm:=h.i.sm (by have:=h.now;omega)
section
variable {n:Int} {b:GBus} {s:GScript}
theorem Zql (x:GBeat) (hc:Z8 b.conf=true) (hw:Za b.conf x.who=true) (hml:b.m.length=b.conf.masters.length) (hbl:b.buckets.length=b.conf.masters.length) (hr:RightP (atI b.m x.who)) (har:wrrG b.arb b.conf=true):Zae b x=some (Yj b x):=by
 obtain⟨ok,hbk⟩:=Z4o hr
 unfold Zae Yj
 rw[Ww hml hw,Option.bind_some,hbk,Option.bind_some,Qi,Option.bind_some,Z2d hbl hw,Option.bind_some,Zye hw,Option.bind_some,Zxc _ (Zbb hc hw),Option.bind_some,Qi,Option.bind_some,Z36 _ _ _ har,Option.bind_some]
 by_cases h1:x.by_=1
 ·simp[h1]
 ·by_cases h2:x.by_=2<;>simp[h1,h2]
theorem Z5i {m:GMst} {k:Int} (h:RightP m) (hq:m.queue≠[]) (h0:0≤k) (h1:k < Ze m):Zg3 m k=some (Znn m k):=by
 have hl:0 < m.queue.length:=List.length_pos_iff.2 hq
 unfold Zg3 Znn
 rw[Xj (xs:=m.queue) (by omega) (by omega),Option.bind_some]
 by_cases hw:(atI m.queue 0).write=true
 ·have:=Ycd h h0 h1 hw
  rw[if_pos hw,if_pos hw,Xj this.1 this.2];rfl
 ·rw[if_neg hw,if_neg hw]
theorem Zrb {m:GMst} {k:Int} (h0:0≤k) (h1:k < Ze m):m.queue≠[]:=by
 intro hq
 unfold Ze at h1
 rw[if_pos hq] at h1
 omega
theorem Z08 {m:GMst} (hq:m.queue≠[]):idx m.queue 0=some (atI m.queue 0):=by
 have hl:0 < m.queue.length:=List.length_pos_iff.2 hq
 exact Xj (by omega) (by omega)
theorem Z7j (x:GBeat) (hw:Za b.conf x.who=true) (hml:b.m.length=b.conf.masters.length) (hr:RightP (atI b.m x.who)) (hm:ModelP b.model) (h0:0≤x.beat) (h1:x.beat < Ze (atI b.m x.who)):Zjv b x=some (doG b x):=by
 have hq:=Zrb h0 h1
 unfold Zjv doG
 rw[Ww hml hw,Option.bind_some,Z08 hq,Option.bind_some,Zat _ hr,Option.bind_some,Z5i hr hq h0 h1,Option.bind_some,Z4i _ _ _ _ hm]
 rfl
theorem Zv0 {m:GMst} (h:RightP m) (hp:m.beat - m.done≥1):((endG m).queue.length:Int) < (m.queue.length:Int)↔m.done+1=Ze m:=by
 have hq:=Zd9 h (by omega)
 have hl:0 < m.queue.length:=List.length_pos_iff.2 hq
 have hf:=Z0t h hp
 by_cases e:m.done+1=Ze m
 ·rw[(hf.1 e).2.1];simp[e];omega
 ·rw[(hf.2 e).1];simp[e]
theorem Z1t (x:GBeat) (h1:Za b.conf x.who=true) (hml:b.m.length=b.conf.masters.length) (hr:RightP (atI b.m x.who)) (hm:ModelP b.model) (hp:(atI b.m x.who).beat - (atI b.m x.who).done≥1) (h2:0≤x.beat) (h3:x.beat < Ze (atI b.m x.who)) (hl:b.log.length < 1048577):Zeg b x=some (Zb1 b x):=by
 have hq:=Zrb h2 h3
 obtain⟨ok,he⟩:=Z6x hr
 unfold Zeg
 rw[Ww hml h1,Option.bind_some,Z08 hq,Option.bind_some,Zat _ hr,Option.bind_some,Z7j x h1 hml hr hm h2 h3,Option.bind_some]
 have hJ:∀(mo:GModel) (d:GDone),Ka b x {b with model:=mo} (atI b.m x.who) d=some {b with model:=mo,log:=b.log++[d],m:=b.m.set x.who.toNat (endG (atI b.m x.who)),holder:=if b.holder=x.who∧(atI b.m x.who).done+1=Ze (atI b.m x.who) then -1 else b.holder,held:=if b.holder=x.who∧(atI b.m x.who).done+1=Ze (atI b.m x.who) then 0 else b.held}:=by
  intro mo d
  unfold Ka Jz J2 Zf8
  simp only
  rw[Wl (by simp only[List.length_cons,List.length_nil];omega) (by simp only[List.length_cons,List.length_nil];omega),Option.bind_some,he,Option.bind_some]
  simp only[Option.bind_some,Ww hml h1,Qi]
  have hi:idx b.m x.who=some (atI b.m x.who):=Ww hml h1
  by_cases e1:b.holder=x.who
  ·by_cases e2:(atI b.m x.who).done+1=Ze (atI b.m x.who)
   ·have e3:=(Zv0 hr hp).2 e2
    simp only[decide_eq_true e1,decide_eq_true e3,if_true,if_pos (And.intro e1 e2)]
   ·have e3:=mt (Zv0 hr hp).1 e2
    simp only[decide_eq_true e1,decide_eq_false e3,if_true,if_false,Bool.false_eq_true,if_neg (fun hx:b.holder=x.who∧_=>e2 hx.2)]
  ·simp only[decide_eq_false e1,if_false,Bool.false_eq_true,if_neg (fun hx:b.holder=x.who∧_=>e1 hx.1)]
 unfold Zb1 Zlh
 by_cases e:x.resp=0
 ·rw[if_pos (decide_eq_true e),hJ]
  simp only[if_pos e]
 ·rw[if_neg (by simpa using e)]
  have:=hJ b.model (GDone.mk b.now x.who (atI (atI b.m x.who).queue 0).write (Ya (atI b.m x.who) x.beat) (atI (atI b.m x.who).queue 0).size 0 x.resp)
  refine Eq.trans (b:=_) ?_ (this.trans ?_)
  ·rfl
  ·simp only[if_neg e]
theorem Z64 (w:GWave) (h:BusI b.now b) (hs:s.sm) (hn:b.now≤4000):Zg2 b s w=some ((Zb b s).2.1,(Zb b s).1,if b.data_.live=true∧¬b.data_.left > 0 then {w with resp:=b.data_.resp} else w):=by
 unfold Zg2 Zb
 by_cases hd:b.data_.live=true
 ·have hdf:¬b.data_.live=false:=by simp[hd]
  rw[if_neg (by simp[hd]),if_neg hdf]
  have hdat:=h.data
  unfold X9 at hdat
  rw[if_pos hd] at hdat
  have hw:=Xd h hd
  have hmw:=(h.mst _ hw).right
  have hp:=Zkp h hd
  have hbt:=Z06 h hd
  have hlim:=(Xe h.conf).2.1
  by_cases hl:b.data_.left > 0
  ·rw[if_pos (decide_eq_true hl),if_pos hl,if_neg (fun hx:_∧¬b.data_.left > 0=>hx.2 hl),Yx (by omega) (by omega)]
  ·rw[if_neg (by simpa using hl),if_neg hl,if_pos (And.intro hd hl)]
   have hJf:¬(b.data_.resp≠0∧b.data_.second=false)→Qw b s w false=some ((if b.data_.resp=2 then (Yj {b with data_:=GBeat.z0,m:=b.m.set b.data_.who.toNat {atI b.m b.data_.who with tries:=(atI b.m b.data_.who).tries+1}} b.data_,true,b.data_.resp)
 else if b.data_.resp=3 then (Yj {b with data_:=GBeat.z0,m:=b.m.set b.data_.who.toNat {atI b.m b.data_.who with parted:=true},splits:=b.splits.set b.data_.who.toNat (Jr b.conf s b.picks)} b.data_,true,b.data_.resp)
 else (Zb1 {b with data_:=GBeat.z0} b.data_,true,b.data_.resp):GBus×Bool×Int).2.1,(if b.data_.resp=2 then (Yj {b with data_:=GBeat.z0,m:=b.m.set b.data_.who.toNat {atI b.m b.data_.who with tries:=(atI b.m b.data_.who).tries+1}} b.data_,true,b.data_.resp)
 else if b.data_.resp=3 then (Yj {b with data_:=GBeat.z0,m:=b.m.set b.data_.who.toNat {atI b.m b.data_.who with parted:=true},splits:=b.splits.set b.data_.who.toNat (Jr b.conf s b.picks)} b.data_,true,b.data_.resp)
 else (Zb1 {b with data_:=GBeat.z0} b.data_,true,b.data_.resp):GBus×Bool×Int).1,{w with resp:=b.data_.resp}):=by
    intro hns
    have hmb:=Z3 hw
    have hml:=h.ml
    have hrset:∀x:GMst,RightP x→RightP (atI (b.m.set b.data_.who.toNat x) b.data_.who):=fun x hx=>by rw[Zex x hmb.1 (by omega)];exact hx
    have hlen:∀x:GMst,(b.m.set b.data_.who.toNat x).length=b.conf.masters.length:=fun x=>by rw[List.length_set];exact hml
    unfold Qw
    rw[if_neg (by simp)]
    by_cases h2:b.data_.resp=2
    ·have ht:=hdat.2.1 h2
     have hmx:=(Xe h.conf).1
     have htr:=hmw.tries
     have hr2:RightP {atI b.m b.data_.who with tries:=(atI b.m b.data_.who).tries+1}:=⟨hmw.len,by show 0≤(atI b.m b.data_.who).tries+1;omega,hmw.reqs,fun hq=>absurd (show (atI b.m b.data_.who).queue=[] from hq) (Zrb hbt.1 hbt.2),hmw.some⟩
     simp only[decide_eq_true h2,if_true,if_pos h2,Ww hml hw,Option.bind_some,Qi,Zm (a:=(atI b.m b.data_.who).tries) (b:=1) (by omega) (by omega)]
     rw[Zql (b:={b with data_:=GBeat.z0,m:=b.m.set b.data_.who.toNat {atI b.m b.data_.who with tries:=(atI b.m b.data_.who).tries+1}}) b.data_ h.conf hw (hlen _) h.bl (hrset _ hr2) h.arb]
     rfl
    ·by_cases h3:b.data_.resp=3
     ·have hr3:RightP {atI b.m b.data_.who with parted:=true}:=⟨hmw.len,hmw.tries,hmw.reqs,fun hq=>absurd (show (atI b.m b.data_.who).queue=[] from hq) (Zrb hbt.1 hbt.2),hmw.some⟩
      simp only[decide_eq_false h2,decide_eq_true h3,if_true,if_false,Bool.false_eq_true,if_neg h2,if_pos h3,Ww hml hw,Zli h.sl hw,Option.bind_some,Qi,Z29 _ _ hs]
      rw[Zql (b:={b with data_:=GBeat.z0,m:=b.m.set b.data_.who.toNat {atI b.m b.data_.who with parted:=true},splits:=b.splits.set b.data_.who.toNat (Jr b.conf s b.picks)}) b.data_ h.conf hw (hlen _) h.bl (hrset _ hr3) h.arb]
      rfl
     ·simp only[decide_eq_false h2,decide_eq_false h3,if_false,Bool.false_eq_true,if_neg h2,if_neg h3]
      have hlog:=Z7o (by omega) h.log
      rw[Z1t (b:={b with data_:=GBeat.z0}) b.data_ hw hml hmw h.model hp hbt.1 hbt.2 (by show b.log.length < _;omega)]
      rfl
   by_cases h2:b.data_.resp≠0
   ·rw[if_pos (decide_eq_true h2)]
    by_cases h3:b.data_.second=false
    ·rw[if_pos (And.intro h2 h3),h3]
     unfold Qw Zbl
     rw[if_pos (by rfl)]
     by_cases ha:b.addr.live=true
     ·rw[if_pos ha,if_pos ha]
      have hwa:=Qg h ha
      rw[Zql (b:={b with data_:={b.data_ with second:=true}}) b.addr h.conf hwa h.ml h.bl (h.mst _ hwa).right h.arb]
      rfl
     ·rw[if_neg ha,if_neg ha]
    ·have h4:b.data_.second=true:=by simpa using h3
     rw[if_neg (fun hx:_∧b.data_.second=false=>h3 hx.2),h4,Bool.not_true,hJf (fun hx=>h3 hx.2)]
   ·rw[if_neg (by simpa using h2),if_neg (fun hx:b.data_.resp≠0∧_=>h2 hx.1),hJf (fun hx=>h2 hx.1)]
 ·rw[if_pos (by simpa using hd),if_pos (by simpa using hd),if_neg (fun hx:b.data_.live=true∧_=>hd hx.1)]
end
section
variable {n:Int} {b:GBus} {s:GScript}
theorem Z5m (h:BusI n b) (hs:s.sm) (hl:b.addr.live=true):Zhd b s b.addr=some (Yu b s b.addr):=by
 have hw:=Qg h hl
 have hmw:=(h.mst _ hw).right
 have hbt:=Ziv h hl
 have hwt:=Zz5 h.conf s b.picks
 have hlm:=(Xe h.conf).2.1
 unfold Zhd
 rw[Ww h.ml hw,Option.bind_some,Zat _ hmw,Option.bind_some,Zuh,Option.bind_some]
 have hJ1:W5 b s b.addr (atI b.m b.addr.who) (Ye (Ya (atI b.m b.addr.who) b.addr.beat)) false=some (if Zg4 s b.picks=2∧Ye (Ya (atI b.m b.addr.who) b.addr.beat)≠3∧(atI b.m b.addr.who).tries < b.conf.maxRetry then 2
  else if Zg4 s b.picks=3∧Ye (Ya (atI b.m b.addr.who) b.addr.beat)=2∧(atI b.m b.addr.who).parted=false∧b.addr.who≠b.holder then 3 else (doG b b.addr).2.2,if Ye (Ya (atI b.m b.addr.who) b.addr.beat)=3 then Zkz b.conf s b.picks+2 else Zkz b.conf s b.picks):=by
  unfold W5
  rw[if_neg (by simp),Z7j _ hw h.ml hmw h.model hbt.1 hbt.2,Option.bind_some,Z51 _ _ hs,Option.bind_some,Zm (by omega) (by omega)]
  have hJ2:∀(r t:Int),K9 b s b.addr (atI b.m b.addr.who) (Ye (Ya (atI b.m b.addr.who) b.addr.beat)) r t=some (if Zg4 s b.picks=2∧Ye (Ya (atI b.m b.addr.who) b.addr.beat)≠3∧(atI b.m b.addr.who).tries < b.conf.maxRetry then 2
  else if Zg4 s b.picks=3∧Ye (Ya (atI b.m b.addr.who) b.addr.beat)=2∧(atI b.m b.addr.who).parted=false∧b.addr.who≠b.holder then 3 else r,t):=by
   intro r t
   unfold K9
   rw[Z5k _ hs,Option.bind_some]
   generalize Ye (Ya (atI b.m b.addr.who) b.addr.beat)=sl
   have hJ3:Wi b s b.addr (atI b.m b.addr.who) sl r t (Zg4 s b.picks) false=some (if Zg4 s b.picks=3∧sl=2∧(atI b.m b.addr.who).parted=false∧b.addr.who≠b.holder then 3 else r,t):=by
    unfold Wi
    rw[if_neg (by simp)]
    by_cases e1:Zg4 s b.picks=3
    ·by_cases e2:sl=2
     ·by_cases e3:(atI b.m b.addr.who).parted=true
      ·simp[e1,e2,e3]
      ·by_cases e4:b.addr.who=b.holder<;>simp[e1,e2,e3,e4]
     ·simp[e1,e2]
    ·simp[e1]
   have hJ3t:Wi b s b.addr (atI b.m b.addr.who) sl r t (Zg4 s b.picks) true=some (2,t):=by
    unfold Wi
    rw[if_pos rfl]
   by_cases e1:Zg4 s b.picks=2
   ·by_cases e2:sl=3
    ·rw[if_pos (decide_eq_true e1),if_neg (by simpa using e2),hJ3,if_neg (fun hx:_∧sl≠3∧_=>hx.2.1 e2)]
    ·by_cases e3:(atI b.m b.addr.who).tries < b.conf.maxRetry
     ·rw[if_pos (decide_eq_true e1),if_pos (by simpa using e2),decide_eq_true e3,hJ3t,if_pos ⟨e1,e2,e3⟩]
     ·rw[if_pos (decide_eq_true e1),if_pos (by simpa using e2),decide_eq_false e3,hJ3,if_neg (fun hx:_∧_∧_=>e3 hx.2.2)]
   ·rw[if_neg (by simpa using e1),hJ3,if_neg (fun hx:_∧_∧_=>e1 hx.1)]
  by_cases e:Ye (Ya (atI b.m b.addr.who) b.addr.beat)=3
  ·rw[if_pos (decide_eq_true e),hJ2,if_pos e]
  ·rw[if_neg (by simpa using e),hJ2,if_neg e]
 have hJ1t:W5 b s b.addr (atI b.m b.addr.who) (Ye (Ya (atI b.m b.addr.who) b.addr.beat)) true=some (1,0):=by
  unfold W5
  rw[if_pos rfl]
 unfold Yu
 by_cases e1:(atI b.m b.addr.who).broken=true
 ·rw[if_pos e1,hJ1t,if_pos (.inl e1)]
 ·by_cases e2:Ye (Ya (atI b.m b.addr.who) b.addr.beat)=0
  ·rw[if_neg e1,decide_eq_true e2,hJ1t,if_pos (.inr e2)]
  ·rw[if_neg e1,decide_eq_false e2,hJ1,if_neg (show ¬((atI b.m b.addr.who).broken=true∨Ye (Ya (atI b.m b.addr.who) b.addr.beat)=0) from fun hx=>hx.elim e1 e2)]
theorem Z91 (b:GBus) (k:Nat):((List.range (k+1)).map fun j:Nat=>W4 b (j:Int))=((List.range k).map fun j:Nat=>W4 b (j:Int))++[W4 b (k:Int)]:=by
 rw[List.range_succ,List.map_append];rfl
theorem Ycl (h:BusI n b):Zi9 b=some ((Zu b).1,(Zu b).2.1,(Zu b).2.2):=by
 have hlen:=Xo h.conf
 have hml:=h.ml
 have hL2:Zaw b FU (We b) ((We b).length:Int) 0=some (match (List.range b.m.length).find? (Zc1 b) with
  | some k=>((k:Int),1,{b with buckets:=b.buckets.set k (Zeb (atI b.buckets (k:Int)) (atI b.conf.masters (k:Int))).1})
  | none=>if b.holder≠-1 then (-1,0,b) else ((X6 b.arb b.conf (We b)).2,2,{b with arb:=(X6 b.arb b.conf (We b)).1})):=by
  rw[Kz]
  have key:∀(r m k:Nat),r < m→k+r=b.m.length→(∀j,j < k→Zc1 b j=false)→Zaw b m (We b) (b.m.length:Int) (k:Int)=some (match (List.range' k r).find? (Zc1 b) with
  | some k=>((k:Int),1,{b with buckets:=b.buckets.set k (Zeb (atI b.buckets (k:Int)) (atI b.conf.masters (k:Int))).1})
  | none=>if b.holder≠-1 then (-1,0,b) else ((X6 b.arb b.conf (We b)).2,2,{b with arb:=(X6 b.arb b.conf (We b)).1})):=by
   intro r
   induction r with
   | zero=>
    intro m k hm hk _
    obtain⟨m,rfl⟩:∃m',m=m'+1:=⟨m - 1,by omega⟩
    show Ju b _ (We b) (b.m.length:Int) (k:Int)=_
    unfold Ju
    rw[if_neg (by simp;omega),Z3w _ _ _ h.arb (by rw[Kz,hml]),Option.bind_some]
    by_cases e:b.holder=-1
    ·simp[e]
    ·simp[e]
   | succ r ih=>
    intro m k hm hk hj
    obtain⟨m,rfl⟩:∃m',m=m'+1:=⟨m - 1,by omega⟩
    show Ju b _ (We b) (b.m.length:Int) (k:Int)=_
    have hmk:=mas (c:=b.conf) (k:=k) (by omega)
    unfold Ju
    have hix:idx (We b) (k:Int)=some (W4 b (k:Int)):=by
     rw[Xj (by omega) (by rw[Kz];omega),Zmc h hmk]
    rw[if_pos (by simp;omega),hix,Option.bind_some,Z2d h.bl hmk,Option.bind_some,Zye hmk,Option.bind_some,Zxi _ (Zbb h.conf hmk),Option.bind_some,Qi,Option.bind_some,List.range'_succ,List.find?_cons]
    by_cases e1:W4 b (k:Int)=true
    ·by_cases e2:(Zeb (atI b.buckets (k:Int)) (atI b.conf.masters (k:Int))).2=true
     ·have e3:Zc1 b k=true:=by simp[Zc1,e1,e2]
      rw[e1,if_neg (by simp),if_pos e2,e3]
      rfl
     ·have e3:Zc1 b k=false:=by simp[Zc1,e1,e2]
      rw[e1,if_neg (by simp),if_neg e2,e3,Y5 (by omega)]
      exact ih m (k+1) (by omega) (by omega) (fun j hj2=>by
       by_cases hjk:j=k
       ·subst hjk;exact e3
       ·exact hj j (by omega))
    ·have e3:Zc1 b k=false:=by simp[Zc1,e1]
     have e4:W4 b (k:Int)=false:=by simpa using e1
     rw[e4,if_pos (by simp),e3,Y5 (by omega)]
     exact ih m (k+1) (by omega) (by omega) (fun j hj2=>by
       by_cases hjk:j=k
       ·subst hjk;exact e3
       ·exact hj j (by omega))
  have:=key b.m.length FU 0 (by have:=Wj;omega) (by omega) (fun j hj=>by omega)
  rw[List.range_eq_range']
  simpa using this
 unfold Zi9
 refine Jl (σ:=List Bool) (n:=b.m.length) (by omega) (fun k=>(List.range k).map fun j:Nat=>W4 b (j:Int)) (B:=Zcm b) (L:=Zd0 b) (fun m s i=>rfl) (fun k hk κ=>?_) fun κ=>?_
 ·have hmk:=mas (c:=b.conf) (k:=k) (by omega)
  unfold Zcm
  have happ:∀x:Bool,appI 1 ((List.range k).map fun j:Nat=>W4 b (j:Int)) [x]=some (((List.range k).map fun j:Nat=>W4 b (j:Int))++[x]):=fun x=>Wl (by simp;omega) (by simp;omega)
  rw[if_pos (by simpa using hk),Ww hml hmk,Option.bind_some,Zsx (h.mst _ hmk).right,Option.bind_some,Zli h.sl hmk,Option.bind_some,Z91]
  simp only[happ,Option.bind_some]
  unfold W4
  by_cases e1:Zoc (atI b.m (k:Int))=true
  ·by_cases e2:atI b.splits (k:Int)=0
   ·by_cases e3:b.holder=-1
    ·simp[e1,e2,e3]
    ·simp[e1,e2,e3]
   ·simp[e1,e2]
  ·simp[e1]
 ·unfold Zcm Zd1
  rw[if_neg (by simp)]
  show (if decide (b.holder≠-1)=true then (idx (We b) b.holder).bind _ else _)=_
  unfold Zu
  by_cases e:b.holder=-1
  ·rw[if_neg (by simpa using e),if_neg (by simp),if_neg (fun hx:b.holder≠-1∧_=>hx.1 e)]
   exact hL2
  ·have hw:=(Zb8 h e).1
   have hmb:=Z3 hw
   rw[if_pos (by simpa using e),Xj hmb.1 (by rw[Kz];omega),Option.bind_some,Zmc h hw]
   by_cases e2:W4 b b.holder=true
   ·rw[if_pos e2,if_pos ⟨e,e2⟩]
   ·rw[if_neg e2,if_neg (fun hx:_∧W4 b b.holder=true=>e2 hx.2)]
    exact hL2
theorem Yb9 (x0:GBus) (h:BusI n b) {who by_:Int} (hw:Za b.conf who=true):((idx b.m who).bind fun a405=>
  if decide (a405.beat=0)=true then Qf x0 {b with addr:=(GBeat.mk true who a405.beat true by_ 0 0 false)} a405 who
  else Qf x0 {b with addr:=(GBeat.mk true who a405.beat (decide (b.last≠who)) by_ 0 0 false)} a405 who)=some (who,Kk b who by_):=by
 obtain⟨ok,hi⟩:=Z1o (h.mst _ hw).right
 rw[Ww h.ml hw,Option.bind_some]
 have hJ:∀f:Bool,Qf x0 {b with addr:=(GBeat.mk true who (atI b.m who).beat f by_ 0 0 false)} (atI b.m who) who=some (who,{b with addr:=GBeat.mk true who (atI b.m who).beat f by_ 0 0 false,holder:=if Zy (atI b.m who)=true∧b.holder=-1 then who else b.holder,held:=if Zy (atI b.m who)=true∧b.holder=-1 then 0 else b.held,m:=b.m.set who.toNat (Y6 (atI b.m who)),last:=who}):=by
  intro f
  unfold Qf Zcl Zcp
  simp only[Zr1,Option.bind_some,hi,Ww h.ml hw,Qi]
  by_cases e1:Zy (atI b.m who)=true
  ·by_cases e2:b.holder=-1
   ·simp only[e1,if_true,decide_eq_true e2,true_and,if_pos e2]
   ·simp only[e1,if_true,decide_eq_false e2,Bool.false_eq_true,if_false,true_and,if_neg e2]
  ·simp only[e1,if_false,Bool.false_eq_true,false_and]
 unfold Kk
 by_cases e:(atI b.m who).beat=0
 ·rw[if_pos (decide_eq_true e),hJ,decide_eq_true e];rfl
 ·rw[if_neg (by simpa using e),hJ,decide_eq_false e,Bool.false_or]
end
section
variable {n:Int} {b:GBus} {s:GScript}
theorem Z77 (h:BusI n b):Zic b=some ((Zh b).1,(Zh b).2):=by
 have hp:=Zdh h
 unfold Zic Zh
 rw[Ycl h,Option.bind_some]
 by_cases e:(Zu b).1 < 0
 ·rw[if_pos (decide_eq_true e),if_pos e]
 ·rw[if_neg (by simpa using e),if_neg e]
  rcases hp.who with h1|h1
  ·exact absurd (show (Zu b).1 < 0 by rw[h1];decide) e
  ·exact Yb9 b hp.ok (by rw[hp.conf];exact h1.1)
theorem Z73 {α:Type} {X Y:List α} (hl:X.length=Y.length) {k:Nat} (hk:k < Y.length):idx (X.take k++Y.drop k) (k:Int)=some Y[k]∧(X.take k++Y.drop k).set k (X[k]'(by omega))=X.take (k+1)++Y.drop (k+1):=by
 have h1:(X.take k).length=k:=by rw[List.length_take];omega
 constructor
 ·rw[Yi (by simp;omega)]
  simp[List.getElem_append_right,h1]
 ·rw[List.set_append_right _ _ (by omega),h1,Nat.sub_self,List.drop_eq_getElem_cons hk,List.set_cons_zero,List.take_succ_eq_append_getElem (show k < X.length by omega),List.append_assoc]
  rfl
def Zih (c:GBus) (k:Nat):GBus:={c with splits:=(Z7 c).splits.take k++c.splits.drop k,buckets:=(Z7 c).buckets.take k++c.buckets.drop k}
theorem Yge (c:GBus):Zih c 0=c:=by simp[Zih]
theorem Ybq (h:BusI n b):Zih b b.conf.masters.length=Z7 b:=by
 have h1:=h.sl
 have h2:=h.bl
 unfold Zih Z7
 simp only
 rw[List.take_of_length_le (by simp;omega),List.drop_of_length_le (by omega),List.take_of_length_le (by simp;omega),List.drop_of_length_le (by omega),List.append_nil,List.append_nil]
theorem Z94 (h:BusI n b) {k:Nat} (hk:k < b.conf.masters.length):idx (Zih b k).splits (k:Int)=some (atI b.splits (k:Int))∧(Zih b k).splits.set k (max (atI b.splits (k:Int) - 1) 0)=(Zih b (k+1)).splits∧
  idx (Zih b k).buckets (k:Int)=some (atI b.buckets (k:Int))∧(Zih b k).buckets.set k (Zgt (atI b.buckets (k:Int)) (atI b.conf.masters (k:Int)))=(Zih b (k+1)).buckets:=by
 have h1:=h.sl
 have h2:=h.bl
 have m1:=Z73 (X:=(Z7 b).splits) (Y:=b.splits) (by simp[Z7]) (k:=k) (by omega)
 have m2:=Z73 (X:=(Z7 b).buckets) (Y:=b.buckets) (by simp[Z7];omega) (k:=k) (by omega)
 rw[Yh (by omega),Yh (by omega),Yh hk]
 refine⟨m1.1,?_,m2.1,?_⟩
 ·have:=m1.2
  simp only[Z7,List.getElem_map] at this
  exact this
 ·have:=m2.2
  simp only[Z7,List.getElem_zipWith] at this
  exact this
end
section
variable {n:Int} {b:GBus} {s:GScript}
theorem Zqa (h:BusI n b) (s:GScript) (hd:b.data_=GBeat.z0):BusI n (Zr b)∧BusI n (Z1 (Zr b) s):=⟨Zsr h,(Zsq (Zsr h) s (by rw[(Zdv b).1];exact hd)).1⟩
theorem Z3s (x0:GBus) (w:GWave) (h:BusI n b) (hs:s.sm) (hd:b.data_=GBeat.z0) (hp:0≤b.picks∧b.picks≤4000) (hn:0≤b.now∧b.now≤4000):(if decide (b.holder≠(-1))=true then W6 x0 s b w (decide (b.held=b.conf.lockMost)) else W6 x0 s b w false)=some ({w with got:=(Wu b s).1},{(Wu b s).2 with now:=b.now+1}):=by
 obtain⟨h1,h2⟩:=Zqa h s hd
 have e1:=Zdv b
 have hJ9:∀(c:GBus) (w:GWave),BusI n c→c.now=b.now→Zaq x0 s c w=some ({w with got:=(Zh c).1},{(Zh c).2 with now:=b.now+1}):=by
  intro c w hc hcn
  unfold Zaq Zam
  rw[Z77 hc,Option.bind_some]
  simp only
  rw[(Zgv hc).1,hcn,Zm (by omega) (by omega)]
 have hJ8:∀w:GWave,Ks x0 s (Zr b) w=some ({w with got:=(Wu b s).1},{(Wu b s).2 with now:=b.now+1}):=by
  intro w
  unfold Ks Wu
  have e2:=J3 (Zr b) s
  by_cases hl:(Zr b).addr.live=true
  ·rw[if_pos hl,Z5m h1 hs hl,Option.bind_some,Zm (by rw[e1.2.2.1];omega) (by rw[e1.2.2.1];omega)]
   have hb:Z1 (Zr b) s={Zr b with addr:=GBeat.z0,data_:={(Zr b).addr with left:=(Yu (Zr b) s (Zr b).addr).2,resp:=(Yu (Zr b) s (Zr b).addr).1},picks:=(Zr b).picks+1}:=by
    unfold Z1;rw[if_pos hl]
   rw[←hb]
   exact hJ9 _ _ h2 (by rw[e2.1,e1.2.2.2.1])
  ·rw[if_neg hl]
   have hb:Z1 (Zr b) s=Zr b:=by
    unfold Z1;rw[if_neg hl]
   rw[hb]
   exact hJ9 _ _ h1 e1.2.2.2.1
 have hJ6:W6 x0 s b w false=Ks x0 s b w:=by unfold W6;rw[if_neg (by simp)]
 by_cases e:b.holder=-1
 ·have hb:Zr b=b:=by unfold Zr;rw[if_neg (fun hx:b.holder≠-1∧b.held=b.conf.lockMost=>hx.1 e)]
  rw[if_neg (by simpa using e),hJ6]
  have:=hJ8 w
  rwa [hb] at this
 ·rw[if_pos (by simpa using e)]
  by_cases e2:b.held=b.conf.lockMost
  ·have hb:Zr b=freeG {b with m:=b.m.set b.holder.toNat {atI b.m b.holder with broken:=true}}:=by unfold Zr;rw[if_pos ⟨e,e2⟩]
   unfold W6 Zf8
   rw[decide_eq_true e2,if_pos rfl,Ww h.ml (Zb8 h e).1,Option.bind_some,Qi,Option.bind_some,Option.bind_some]
   have:=hJ8 w
   rw[hb] at this
   exact this
  ·have hb:Zr b=b:=by unfold Zr;rw[if_neg (fun hx:b.holder≠-1∧b.held=b.conf.lockMost=>e2 hx.2)]
   rw[decide_eq_false e2,hJ6]
   have:=hJ8 w
   rwa [hb] at this
theorem Ygp (x0:GBus) (w:GWave) (h:BusI b.now b) (hs:s.sm) (hw:w.ready=true) (hg:w.resp=0) (hp:0≤b.picks∧b.picks≤4000) (hn:0≤b.now∧b.now < 4000):
  W7 x0 s b w=some (if (Zb b s).2.1=true then ({w with resp:=(Zb b s).2.2,got:=(Wu (Zb b s).1 s).1},{(Wu (Zb b s).1 s).2 with now:=b.now+1}) else ({w with ready:=false,resp:=(Zb b s).2.2},{(Zb b s).1 with now:=b.now+1})):=by
 have hf:=Zp8 s hn.1 h
 have hfn:=Zbs b s
 obtain⟨w1,w2,w3,w4,w5,w6,rdy,rsp,w9⟩:=w
 simp only at hw hg
 subst hw
 subst hg
 unfold W7
 rw[Z64 (GWave.mk w1 w2 w3 w4 w5 w6 true 0 w9) h hs (by omega),Option.bind_some]
 simp only
 have hresp:(if b.data_.live=true∧¬b.data_.left > 0 then GWave.mk w1 w2 w3 w4 w5 w6 true b.data_.resp w9 else GWave.mk w1 w2 w3 w4 w5 w6 true 0 w9)=GWave.mk w1 w2 w3 w4 w5 w6 true (Zb b s).2.2 w9:=by
  unfold Zb
  by_cases hd:b.data_.live=true
  ·by_cases hl:b.data_.left > 0
   ·rw[if_neg (fun hx:b.data_.live=true∧¬b.data_.left > 0=>hx.2 hl),if_neg (by simp[hd]),if_pos hl]
   ·rw[if_pos ⟨hd,hl⟩,if_neg (by simp[hd]),if_neg hl]
    congr 1
    split
    ·rfl
    ·split
     ·rfl
     ·split<;>rfl
  ·rw[if_neg (fun hx:b.data_.live=true∧¬b.data_.left > 0=>hd hx.1),if_pos (by simpa using hd)]
 rw[hresp]
 by_cases hr:(Zb b s).2.1=true
 ·rw[if_pos hr,if_pos hr]
  simp only[hr]
  have:=Z3s x0 (GWave.mk w1 w2 w3 w4 w5 w6 true (Zb b s).2.2 w9) hf.1 hs (hf.2 hr) (by rw[hfn.2.1];exact hp) (by rw[hfn.1];omega)
  rw[hfn.1] at this
  exact this
 ·rw[if_neg hr,if_neg hr]
  unfold Zam
  have hr2:(Zb b s).2.1=false:=by simpa using hr
  rw[hr2,hfn.1,Zm (by omega) (by omega)]
theorem Yfs (x0:GBus) (w:GWave) (h:BusI b.now b) (hs:s.sm) (hw:w.ready=true) (hg:w.resp=0) (hp:0≤b.picks∧b.picks≤4000) (hn:0≤b.now∧b.now < 4000):
  Qu x0 s FU b w (b.splits.length:Int) 0=W7 x0 s (Qd (Z7 b)) w:=by
 have hlen:=Xo h.conf
 have hsl:=h.sl
 rw[hsl]
 have:=Jl (σ:=GBus×GWave×Int) (n:=b.conf.masters.length) (by omega) (fun k=>(Zih b k,w,(b.conf.masters.length:Int))) (B:=fun κ st i=>Zcq x0 s (fun a b c i=>κ (a,b,c) i) st.1 st.2.1 st.2.2 i) (L:=fun m st i=>Qu x0 s m st.1 st.2.1 st.2.2 i) (fun m s i=>rfl) (r:=W7 x0 s (Qd (Z7 b)) w) (fun k hk κ=>?_) fun κ=>?_
 ·simp only[Yge] at this
  exact this
 ·have hmk:=mas (c:=b.conf) hk
  obtain⟨t1,t2,t3,t4⟩:=Z94 h hk
  have hsp:=(h.mst _ hmk).split
  have hlm:=(Xe h.conf).2.2.2
  unfold Zcq
  simp only
  rw[if_pos (by simpa using hk),t1,Option.bind_some,Qi,Option.bind_some,t3,Option.bind_some,show (Zih b k).conf=b.conf from rfl,Zye hmk,Option.bind_some,Zx4 _ (Zbb h.conf hmk),Option.bind_some,Qi,Option.bind_some,Yx (by omega) (by omega),Znt,Int.toNat_natCast,t2,t4]
  rfl
 ·have hto:=Zy4 h
  unfold Zcq
  simp only[Ybq h]
  rw[if_neg (by simp)]
  unfold Qd
  by_cases e:b.holder=-1
  ·rw[if_neg (by simp[Z7,e]),if_pos (show (Z7 b).holder=-1 from e)]
  ·have hh:=(Zb8 hto (show (Z7 b).holder≠-1 from e)).2.2.2
   have hl:=(Xe h.conf).2.2.1
   have h3:(Z7 b).conf.lockMost=b.conf.lockMost:=rfl
   rw[if_pos (by simp[Z7,e]),if_neg (show ¬(Z7 b).holder=-1 from e),Zm (by omega) (by omega),Zi1]
theorem Z50 (h:BusI n b):Zgd b s=Zay b s (Zk7 b):=by
 unfold Zgd Zaz Zk7
 by_cases ha:b.addr.live=true
 ·have hwa:=Qg h ha
  by_cases hd:b.data_.live=true
  ·have hwd:=Xd h hd
   simp only[ha,hd,if_true,Ww h.ml hwa,Ww h.ml hwd,Option.bind_some,Zat _ (h.mst _ hwa).right,Zat _ (h.mst _ hwd).right]
   by_cases hf:b.addr.first=true<;>simp[hf]
  ·have hd2:b.data_.live=false:=by simpa using hd
   simp only[ha,hd2,if_true,Bool.false_eq_true,if_false,Ww h.ml hwa,Option.bind_some,Zat _ (h.mst _ hwa).right]
   by_cases hf:b.addr.first=true<;>simp[hf]
 ·have ha2:b.addr.live=false:=by simpa using ha
  by_cases hd:b.data_.live=true
  ·have hwd:=Xd h hd
   simp only[ha2,hd,if_true,Bool.false_eq_true,if_false,Ww h.ml hwd,Option.bind_some,Zat _ (h.mst _ hwd).right]
  ·have hd2:b.data_.live=false:=by simpa using hd
   simp only[ha2,hd2,if_true,Bool.false_eq_true,if_false]
theorem Yfr (x0:GBus) (w:GWave) (h:BusI n b) (ps:List GPost) (hps:ps.length < 1048577∧∀p∈ps,p.req.sm):Zak x0 s FU b w ps (ps.length:Int) 0=Qu x0 s FU (Z2 b ps) w ((Z2 b ps).splits.length:Int) 0:=by
 have hlt:=Ke h.conf
 have:=Jl (σ:=GBus×GWave×List GPost×Int) (n:=ps.length) (by omega) (fun k=>(Z2 b (ps.take k),w,ps,(ps.length:Int))) (B:=fun κ st i=>Zck x0 s (fun a b c d i=>κ (a,b,c,d) i) st.1 st.2.1 st.2.2.1 st.2.2.2 i) (L:=fun m st i=>Zak x0 s m st.1 st.2.1 st.2.2.1 st.2.2.2 i) (fun m s i=>rfl) (r:=Qu x0 s FU (Z2 b ps) w ((Z2 b ps).splits.length:Int) 0) (fun k hk κ=>?_) fun κ=>?_
 ·exact this
 ·have hI:=Zj2 h (ps.take k)
  have hc:=(Zar b (ps.take k)).1
  rw[Z4v b ps k hk]
  generalize Z2 b (ps.take k)=c at hI hc ⊢
  unfold Zck Xk
  simp only
  rw[if_pos (by simpa using hk),Yi hk,Option.bind_some,Wv _ _ (by rw[hc];exact hlt),Option.bind_some]
  by_cases e:Za c.conf ps[k].who=true
  ·obtain⟨ok,hp⟩:=Z2z (r:=ps[k].req) (hI.mst _ e).right (hps.2 _ (List.getElem_mem hk))
   rw[if_pos e,if_pos e,Ww hI.ml e,Option.bind_some,hp,Option.bind_some,Qi,Option.bind_some]
  ·rw[if_neg e,if_neg e]
 ·unfold Zck
  simp only
  rw[if_neg (by simp),List.take_length]
end
theorem Ybd {b:GBus} {s:GScript} (h:BusP b) (hs:s.sm) (hn:b.now < 4000):Zgd b s=some ((Zq b s).2,(Zq b s).1):=by
 have hP:=Zj2 h.i (Xq s b.now)
 have hc:=Zar b (Xq s b.now)
 have hp:=h.picks
 have hn2:=h.now
 have hO:=Zzi h s
 have eO:=Xs b s
 rw[Z50 h.i]
 unfold Zay
 rw[Z41 _ _ hs,Option.bind_some,Yfr b (Zk7 b) h.i _ (Yek hs _)]
 have hP2:BusI (Z2 b (Xq s b.now)).now (Z2 b (Xq s b.now)):=by rw[hc.2.1];exact hP
 rw[Yfs b (Zk7 b) hP2 hs rfl rfl (by rw[hc.2.2.1];omega) (by rw[hc.2.1];omega)]
 have hO2:BusI (Zc b s).now (Zc b s):=by rw[eO.1];exact hO
 show W7 b s (Zc b s) (Zk7 b)=_
 rw[Ygp b (Zk7 b) hO2 hs rfl rfl (by rw[eO.2.2.1];omega) (by rw[eO.1];omega),eO.1]
 unfold Zq
 split<;>rfl
def okB (b:GBus):Bool:=(Zpz b).getD false
theorem Z71 {b:GBus} (hs:b.sm):okB b=true↔BusP b:=by
 obtain⟨r,-,h2,h3⟩:=Z2k b hs
 unfold okB
 rw[h2]
 exact h3
theorem i_okB {b:GBus} (hs:b.sm):Zi2 b=some (okB b):=by
 obtain⟨r,h1,h2,h3⟩:=Z2k b hs
 unfold okB
 rw[h1,h2];rfl
theorem BusP.ok {b:GBus} (h:BusP b):okB b=true:=(Z71 h.sm).2 h
def runN (b:GBus) (s:GScript):Nat→GBus×List GWave
 | 0=>(b,[])
 | n+1=>((Zq (runN b s n).1 s).1,(runN b s n).2++[(Zq (runN b s n).1 s).2])
theorem Zda {b:GBus} (h:BusP b) (s:GScript):∀(n:Nat),b.now+n≤4000→BusP (runN b s n).1∧(runN b s n).1.now=b.now+n∧(runN b s n).1.conf=b.conf∧(runN b s n).2.length=n:=by
 intro n
 induction n with
 | zero=>intro _;exact⟨h,by simp[runN],rfl,rfl⟩
 | succ n ih=>
  intro hn
  obtain⟨h1,h2,h3,h4⟩:=ih (by omega)
  have:=Zu7 h1 s (by omega)
  exact⟨this.1,by show (Zq (runN b s n).1 s).1.now=_;rw[this.2.1,h2];omega,by show (Zq (runN b s n).1 s).1.conf=_;rw[this.2.2,h3],by show ((runN b s n).2++_).length=_;rw[List.length_append,h4];rfl⟩
theorem Yev (b:GBus) (s:GScript) (m:Nat):∀(n:Nat),runN b s (m+n)=((runN (runN b s m).1 s n).1,(runN b s m).2++(runN (runN b s m).1 s n).2):=by
 intro n
 induction n with
 | zero=>simp[runN]
 | succ n ih=>
  show ((Zq (runN b s (m+n)).1 s).1,(runN b s (m+n)).2++[(Zq (runN b s (m+n)).1 s).2])=_
  rw[ih]
  simp[runN]
def runG (b:GBus) (s:GScript) (n:Int):GBus×List GWave:=if okB b=true∧0≤n∧n≤4000 - b.now then runN b s n.toNat else (b,[])
theorem Z6h {b:GBus} {s:GScript} (n:Int) (hb:b.sm) (hs:s.sm):Znh b s n=some (runG b s n):=by
 unfold Znh runG
 rw[Zvj b hb,Option.bind_some,i_okB hb,Option.bind_some]
 unfold Zgs
 by_cases h:okB b=true
 ·have hP:=(Z71 hb).1 h
  have hN:=hP.now
  rw[h,if_neg (by simp),Yx (by omega) (by omega),Ym,Option.bind_some]
  by_cases hn:0≤n∧n≤4000 - b.now
  ·rw[decide_eq_true hn,if_neg (by simp),if_pos ⟨rfl,hn⟩]
   obtain⟨k,rfl⟩:∃k:Nat,n=k:=⟨n.toNat,by omega⟩
   rw[Int.toNat_natCast]
   refine Jl (σ:=GBus×List GWave) (n:=k) (by omega) (runN b s) (B:=fun κ st i=>Zfn b s k (fun x y i=>κ (x,y) i) st.1 st.2 i) (L:=fun m st i=>Zhi b s k m st.1 st.2 i) (fun m s i=>rfl) (fun j hj κ=>?_) fun κ=>?_
   ·have hr:=Zda hP s j (by omega)
    unfold Zfn
    rw[if_pos (by simpa using hj),Ybd hr.1 hs (by omega),Option.bind_some,Wl (by simp only[List.length_cons,List.length_nil];omega) (by simp only[List.length_cons,List.length_nil];omega)]
    rfl
   ·have hr:=Zda hP s k (by omega)
    unfold Zfn
    rw[if_neg (by simp),Zvj _ hr.1.sm]
    rfl
  ·rw[decide_eq_false hn,if_pos (by simp),if_neg (fun hx=>hn hx.2)]
 ·have h2:okB b=false:=by simpa using h
  simp[h2]
def newG (c:GConf):GBus:={GBus.z0 with conf:=c,m:=List.replicate c.masters.length GMst.z0,buckets:=c.masters.map Zpd,splits:=List.replicate c.masters.length 0,holder:=-1,last:=-1,model:=GModel.mk (List.replicate 192 0) (GDev.mk (List.replicate 4 0) 0 [])}
def Z8p (c:GConf):GBus×Bool:=if Z8 c=true then (newG c,true) else (GBus.z0,false)
theorem Z1x:Zkg=some (GModel.mk (List.replicate 192 0) (GDev.mk (List.replicate 4 0) 0 [])):=by
 unfold Zkg
 first
 | rfl
 | (rw[show (192:Int)=((192:Nat):Int) from rfl,Yb0 (by decide) (by decide),Option.bind_some];rfl)
def newK (c:GConf) (k:Nat):GBus:={newG c with m:=List.replicate k GMst.z0,buckets:=(c.masters.take k).map Zpd,splits:=List.replicate k 0}
theorem Ycm (c:GConf) {k:Nat} (hk:k < c.masters.length):newK c (k+1)={newK c k with m:=(newK c k).m++[GMst.z0],buckets:=(newK c k).buckets++[Zpd c.masters[k]],splits:=(newK c k).splits++[0]}:=by
 unfold newK
 simp only[List.replicate_succ']
 rw[List.take_succ_eq_append_getElem hk,List.map_append]
 rfl
theorem Yfe (c:GConf):newK c c.masters.length=newG c:=by
 unfold newK
 rw[List.take_length]
 rfl
theorem Z6i (c:GConf) (hl:c.masters.length < 1048577):Zna c=some (Z8p c):=by
 unfold Zna Z8p
 rw[Zac c hl,Option.bind_some]
 by_cases h:Z8 c=true
 ·rw[h,if_neg (by simp),(Z0r c hl).1,Option.bind_some,Z1x,Option.bind_some,if_pos rfl]
  rw[←Yfe c]
  refine Jl (σ:=GBus) (n:=c.masters.length) (by omega) (newK c) (B:=Zfa c) (L:=Zgq c) (fun m s i=>rfl) (fun k hk κ=>?_) fun κ=>?_
  ·unfold Zfa
   have e1:(newK c k).m.length=k:=by simp[newK]
   have e2:(newK c k).buckets.length=k:=by simp[newK];omega
   have e3:(newK c k).splits.length=k:=by simp[newK]
   rw[if_pos (by simpa using hk),Yi hk,Option.bind_some,Wl (by simp only[List.length_cons,List.length_nil];omega) (by simp only[List.length_cons,List.length_nil];omega),Option.bind_some,Zzq,Option.bind_some,Wl (by simp only[List.length_cons,List.length_nil];omega) (by simp only[List.length_cons,List.length_nil];omega),Option.bind_some,Wl (by simp only[List.length_cons,List.length_nil];omega) (by simp only[List.length_cons,List.length_nil];omega),Option.bind_some,Ycm c hk]
  ·unfold Zfa
   rw[if_neg (by simp)]
 ·simp[h]
theorem Yc9 (c:GConf) (i:Int):flyG (newG c) i=0:=rfl
theorem Zx8 (c:GConf) {i:Int} (h:Za c i=true):atI (newG c).m i=GMst.z0:=by
 obtain⟨k,rfl,hk⟩:=Zkl h
 have hk2:k < (newG c).m.length:=by simpa [newG] using hk
 rw[Yh hk2]
 simp[newG]
theorem Yef:RightP GMst.z0:=⟨by decide,by decide,fun r hr=>absurd hr (by simp[GMst.z0]),fun _=>⟨rfl,rfl,rfl,rfl,rfl⟩,fun h=>absurd rfl h⟩
theorem Yb3:ModelP (GModel.mk (List.replicate 192 0) (GDev.mk (List.replicate 4 0) 0 [])):=⟨List.length_replicate,by show (List.replicate 192 (0:Int)).all K7=true;rw[List.all_replicate];rfl,⟨rfl,by show ∀v∈List.replicate 4 (0:Int),numG v 2=true;decide,by show numG 0 2=true;decide,by show 0≤4;decide,fun v hv=>absurd hv (by show ¬v∈([]:List Int);simp)⟩⟩
theorem Zxg {c:GConf} (h:Z8 c=true):BusP (newG c):=by
 have hl:=Xo h
 have hm0:Za c 0=true:=by simp only[Za,decide_eq_true_eq];omega
 have hsl:0 < Zz c:=by
  have:=Q5 c
  simp only[Z8,Bool.and_eq_true,decide_eq_true_eq] at h
  omega
 have hlim:=Xe h
 have e0:(0:Int)≤0:=Int.le_refl 0
 refine⟨h,⟨e0,by show (0:Int)≤4000;omega⟩,by simp[newG],by simp[newG],by simp[newG],fun i hi=>⟨by rw[Zx8 c hi];exact Yef,?_,?_,?_⟩,?_,.inl rfl,?_,⟨e0,e0⟩,fun hx=>absurd hx (by simp[newG,GBus.z0,GBeat.z0]),fun hx=>absurd hx (by simp[newG,GBus.z0,GBeat.z0]),fun i hi=>?_,?_,?_,⟨fun i hi hb=>?_,?_⟩,fun d hd=>absurd hd (by simp[newG,GBus.z0]),?_⟩
 ·rw[Zx8 c hi]
  show (0:Int)≤c.maxRetry
  exact hlim.1.1
 ·obtain⟨k,rfl,hk⟩:=Zkl hi
  have hk2:k < (newG c).buckets.length:=by simpa [newG] using hk
  have hk:k < c.masters.length:=hk
  have hm:=Zbb h hi
  show Z5 (atI (newG c).buckets k) (atI c.masters k)=true
  rw[Yh hk] at hm ⊢
  rw[Yh hk2]
  have:(newG c).buckets[k]=Zpd c.masters[k]:=by simp[newG]
  rw[this]
  exact Ygd hm ⟨hsl,fun hp=>List.countP_pos_iff.2 ⟨_,List.getElem_mem hk,hp⟩⟩
 ·obtain⟨k,rfl,hk⟩:=Zkl hi
  have hk2:k < (newG c).splits.length:=by simpa [newG] using hk
  rw[Yh hk2]
  have:(newG c).splits[k]=0:=by simp[newG]
  rw[this]
  exact⟨e0,by show (0:Int)≤c.maxSplit;omega⟩
 ·show wrrG GWrr.z0 c=true
  unfold wrrG
  have:=Zrn c 0
  simp[h,hm0,GWrr.z0,this.1]
 ·exact Yb3
 ·rw[Zx8 c hi,Yc9];rfl
 ·unfold Wt
  rw[if_neg (by simp[newG,GBus.z0,GBeat.z0])]
  rfl
 ·unfold X9
  rw[if_neg (by simp[newG,GBus.z0,GBeat.z0])]
  rfl
 ·rw[Zx8 c hi] at hb
  exact absurd hb (by decide)
 ·show if (-1:Int)=-1 then (0:Int)=0 else _
  rw[if_pos rfl]
 ·exact List.Pairwise.nil
def So {β:Type} (e:Option β) (R:β→Prop):Prop:=∃b,e=some b∧R b
theorem So.bind {α β:Type} {e:Option α} {Q:α→Prop} {f:α→Option β} {R:β→Prop} (h:So e Q) (k:∀a,Q a→So (f a) R):So (e.bind f) R:=by
 obtain⟨a,rfl,q⟩:=h
 exact k a q
theorem So.ret {β:Type} {b:β} {R:β→Prop} (h:R b):So (some b) R:=⟨b,rfl,h⟩
theorem So.ite {β:Type} {c:Prop} [Decidable c] {x y:Option β} {R:β→Prop} (h1:c→So x R) (h2:¬c→So y R):So (if c then x else y) R:=by
 split
 ·exact h1 ‹_›
 ·exact h2 ‹_›
def Yc (c:GL1Cur):Prop:=0≤c.i∧c.i≤(c.b.length:Int)∧c.b.length < 4611686018427387904
theorem Ybv (a:Int):0≤andW a 255∧andW a 255≤255:=by
 have h:((BitVec.ofInt IntKind.i64.bits a &&& BitVec.ofInt IntKind.i64.bits 255).toNat)≤255:=by
  rw[BitVec.toNat_and]
  have:(BitVec.ofInt IntKind.i64.bits 255).toNat=255:=by decide
  rw[this]
  exact Nat.and_le_right
 unfold andW
 generalize (BitVec.ofInt IntKind.i64.bits a &&& BitVec.ofInt IntKind.i64.bits 255).toNat=n at*
 rw[Zmf (by omega) (by omega)]
 omega
theorem Zl5 {c:GL1Cur} (h:Yc c):∃r c',Zbi c=some (r,c')∧Yc c'∧0≤r∧r≤255:=by
 obtain⟨h1,h2,h3⟩:=h
 unfold Zbi
 by_cases hc:c.i < (c.b.length:Int)
 ·obtain⟨k,hk⟩:∃k:Nat,c.i=k:=⟨c.i.toNat,by omega⟩
  have hk2:k < c.b.length:=by omega
  rw[if_pos (by simpa using hc),hk,Yi hk2,Option.bind_some]
  refine⟨_,_,rfl,⟨?_,?_,h3⟩,Ybv _⟩
  ·show 0≤addW (k:Int) 1
   rw[Y5 (by omega)];omega
  ·show addW (k:Int) 1≤_
   rw[Y5 (by omega)];show ((k+1:Nat):Int)≤(c.b.length:Int);omega
 ·rw[if_neg (by simpa using hc)]
  exact⟨_,_,rfl,⟨h1,h2,h3⟩,Ybv _⟩
theorem Z7f {a n:Int} (h0:0≤a) (hn:0 < n):0≤remW a n∧remW a n < n:=by
 unfold remW
 rw[Int.tmod_eq_emod_of_nonneg h0]
 exact⟨Int.emod_nonneg _ (by omega),Int.emod_lt_of_pos _ hn⟩
theorem Zrp {c:GL1Cur} (n:Int) (h:Yc c):∃r c',Zl c n=some (r,c')∧Yc c'∧0≤r∧(0 < n→r < n)∧(n≤0→r=0):=by
 unfold Zl
 by_cases h0:n≤0
 ·rw[if_pos (by simpa using h0)]
  exact⟨_,_,rfl,h,by omega,fun _=>by omega,fun _=>rfl⟩
 ·rw[if_neg (by simpa using h0)]
  by_cases h1:n≤256
  ·rw[if_pos (by simpa using h1)]
   obtain⟨r,c',hr,hc,h2,h3⟩:=Zl5 h
   rw[hr,Option.bind_some,Zgc (by omega),Option.bind_some]
   have:=Z7f h2 (by omega:0 < n)
   exact⟨_,_,rfl,hc,this.1,fun _=>this.2,fun _=>by omega⟩
  ·rw[if_neg (by simpa using h1)]
   obtain⟨r,c',hr,hc,h2,h3⟩:=Zl5 h
   obtain⟨r2,c2,hr2,hc2,h22,h32⟩:=Zl5 hc
   obtain⟨r3,c3,hr3,hc3,h23,h33⟩:=Zl5 hc2
   obtain⟨r4,c4,hr4,hc4,h24,h34⟩:=Zl5 hc3
   rw[hr,Option.bind_some,hr2,Option.bind_some,hr3,Option.bind_some,hr4,Option.bind_some,Zgc (by omega),Option.bind_some]
   have e:addW (addW (addW (mulW r 16777216) (mulW r2 65536)) (mulW r3 256)) r4=r*16777216+r2*65536+r3*256+r4:=by
    rw[Yy (by omega) (by omega),Yy (by omega) (by omega),Yy (by omega) (by omega),Zm (a:=r*16777216) (by omega) (by omega),Zm (a:=r*16777216+r2*65536) (by omega) (by omega),Zm (by omega) (by omega)]
   have:=Z7f (by rw[e];omega:0≤addW (addW (addW (mulW r 16777216) (mulW r2 65536)) (mulW r3 256)) r4) (by omega:0 < n)
   exact⟨_,_,rfl,hc4,this.1,fun _=>this.2,fun _=>by omega⟩
theorem Ydh (x:List Int) (hl:x.length < 1048577):∃c,Zmk x=some c∧Yc c:=by
 unfold Zmk
 have key:∀(m k:Nat) (v:Int),k≤x.length→x.length - k < m→∃c,Zbc x m v k=some c∧Yc c:=by
  intro m
  induction m with
  | zero=>intro k _ _ h;omega
  | succ m ih=>
   intro k v hk hm
   have e:Zbc x (m+1) v k=Zko x (Zbc x m) v k:=rfl
   rw[e]
   unfold Zko Zh3
   by_cases hc:k < x.length
   ·rw[if_pos (by simpa using hc)]
    by_cases h4:(k:Int) < 4000
    ·rw[if_pos (by simpa using h4),Yi hc,Option.bind_some,Y5 (by omega)]
     exact ih (k+1) _ (by omega) (by omega)
    ·rw[if_neg (by simpa using h4)]
     exact⟨_,rfl,by simp[Yc];omega⟩
   ·rw[if_neg (by simpa using hc)]
    exact⟨_,rfl,by simp[Yc];omega⟩
 exact key FU 0 _ (Nat.zero_le _) (by have:=Wj;omega)
theorem Ya5 {c:GL1Cur} (n:Int) (h:Yc c):∃r c',Zbf c n=some (r,c')∧Yc c':=by
 unfold Zbf
 obtain⟨r,c',hr,hc,_⟩:=Zrp n h
 rw[hr]
 exact⟨_,_,rfl,hc⟩
theorem Ycn {α:Type} {xs:List α} {i:Int} (h0:0≤i) (h1:i < (xs.length:Int)):∃a,idx xs i=some a∧a∈xs:=by
 obtain⟨k,rfl⟩:∃k:Nat,i=k:=⟨i.toNat,by omega⟩
 have hk:k < xs.length:=by omega
 exact⟨_,Yi hk,List.getElem_mem hk⟩
theorem Z42 {c:GL1Cur} (xs:List Int) (hx:xs≠[]) (h:Yc c):∃r c',Yn c xs=some (r,c')∧Yc c'∧r∈xs:=by
 unfold Yn
 obtain⟨r,c',hr,hc,h0,h1,_⟩:=Zrp (xs.length:Int) h
 have hl:0 < xs.length:=List.length_pos_iff.2 hx
 obtain⟨a,ha,hm⟩:=Ycn h0 (h1 (by omega))
 rw[hr,Option.bind_some,ha]
 exact⟨_,_,rfl,hc,hm⟩
theorem Y4 {c:GL1Cur} (n:Int) (h:Yc c):So (Zl c n) fun r=>Yc r.2∧0≤r.1∧(0 < n→r.1 < n)∧(n≤0→r.1=0):=by
 obtain⟨r,c',e,h1,h2,h3,h4⟩:=Zrp n h
 exact⟨_,e,h1,h2,h3,h4⟩
theorem Zu2 {c:GL1Cur} (n:Int) (h:Yc c):So (Zbf c n) fun r=>Yc r.2:=by
 obtain⟨r,c',e,h1⟩:=Ya5 n h
 exact⟨_,e,h1⟩
theorem Zbd {c:GL1Cur} (xs:List Int) (hx:xs≠[]) (h:Yc c):So (Yn c xs) fun r=>Yc r.2∧r.1∈xs:=by
 obtain⟨r,c',e,h1,h2⟩:=Z42 xs hx h
 exact⟨_,e,h1,h2⟩
theorem Zua {α:Type} {xs:List α} {i:Int} (h0:0≤i) (h1:i < (xs.length:Int)):So (idx xs i) fun a=>a∈xs:=Ycn h0 h1
theorem Zu1 {α:Type} (xs:List α) (i:Int) (a:α):So (setO xs i a) fun r=>r=xs.set i.toNat a:=⟨_,rfl,rfl⟩
theorem Ztt {α:Type} (sz:Nat) (hz:sz≤1024) (xs ys:List α) (h:xs.length+ys.length≤1048600):So (appI sz xs ys) fun r=>r=xs++ys:=by
 have hb:(xs.length+ys.length)*sz≤140737488355328:=Nat.le_trans (Nat.mul_le_mul h hz) (by decide)
 exact⟨_,Wl hb (by omega),rfl⟩
theorem Z04 {x0:GL1Cur} (h:Yc x0):So (Zjl x0) fun r=>Yc r.2∧Z8 r.1=true:=by
 unfold Zjl
 refine (Y4 3 h).bind fun r1 ⟨h1,a1,b1,_⟩=>?_
 refine (Y4 3 h1).bind fun r2 ⟨h2,a2,b2,_⟩=>?_
 refine (Y4 3 h2).bind fun r3 ⟨h3,a3,b3,_⟩=>?_
 refine (Y4 6 h3).bind fun r4 ⟨h4,a4,b4,_⟩=>?_
 refine (Y4 12 h4).bind fun r5 ⟨h5,a5,b5,_⟩=>?_
 refine (Y4 4 h5).bind fun r6 ⟨h6,a6,b6,_⟩=>?_
 have b1:=b1 (by omega)
 have b2:=b2 (by omega)
 have b3:=b3 (by omega)
 have b4:=b4 (by omega)
 have b5:=b5 (by omega)
 have b6:=b6 (by omega)
 rw[Zm (by omega) (by omega),Zm (by omega) (by omega),Zm (by omega) (by omega),Zm (by omega) (by omega)]
 generalize r1.1=q at*
 generalize r2.1=w at*
 generalize r3.1=e at*
 generalize r4.1=s at*
 generalize r5.1=l at*
 have hcost:∀ms,Xh (GConf.mk ms (1+q) w e (1+s) (1+l))=(e+2)*(w+6):=fun ms=>by
  unfold Xh
  rw[if_pos (by simp only;omega)]
 have hcl:12≤(e+2)*(w+6)∧(e+2)*(w+6)≤32:=by
  obtain rfl|rfl|rfl:e=0∨e=1∨e=2:=by omega
  all_goals omega
 have hslot:∀ms,Zz (GConf.mk ms (1+q) w e (1+s) (1+l))=2*((e+2)*(w+6))+(1+l):=fun ms=>by
  unfold Zz
  rw[hcost,if_neg (by omega),if_pos (by simp only;omega)]
 generalize (e+2)*(w+6)=cost at*
 have key:∀(m k:Nat) (c:GL1Cur) (ms:List GMConf),Yc c→k < m→1≤ms.length+k→ms.length+k≤4→(∀x∈ms,(1≤x.weight∧x.weight≤4)∧x.prio=false∧x.every=0∧x.cap=0)→So (Zai x0 m c (GConf.mk ms (1+q) w e (1+s) (1+l)) (k:Int)) fun r=>Yc r.2∧Z8 r.1=true:=by
  intro m
  induction m with
  | zero=>intro k _ _ _ h;omega
  | succ m ih=>
   intro k c ms hc hm hl1 hl2 hms
   have eL:Zai x0 (m+1) c (GConf.mk ms (1+q) w e (1+s) (1+l)) (k:Int)=Zkh x0 (Zai x0 m) c (GConf.mk ms (1+q) w e (1+s) (1+l)) (k:Int):=rfl
   rw[eL]
   unfold Zkh
   cases k with
   | succ k=>
    rw[if_pos (by simp)]
    refine (Y4 3 hc).bind fun r1 ⟨h1,a1,b1,_⟩=>?_
    have b1:=b1 (by omega)
    refine (Ztt 32 (by decide) _ _ (by simp only[List.length_cons,List.length_nil];omega)).bind fun z hz=>?_
    rw[Yx (by omega) (by omega),show ((k+1:Nat):Int) - 1=(k:Int) by omega]
    subst hz
    refine ih k r1.2 _ h1 (by omega) (by simp;omega) (by simp;omega) fun x hx=>?_
    rw[List.mem_append,List.mem_singleton] at hx
    rcases hx with hx|rfl
    ·exact hms x hx
    ·refine⟨?_,rfl,rfl,rfl⟩
     show 1≤addW 1 r1.1∧addW 1 r1.1≤4
     rw[Zm (by omega) (by omega)]
     omega
   | zero=>
    have hgood:∀ys:List GMConf,ys.length=ms.length→(∀x∈ys,Xv (GConf.mk ys (1+q) w e (1+s) (1+l)) x=true)→Z8 (GConf.mk ys (1+q) w e (1+s) (1+l))=true:=by
     intro ys hy h
     unfold Z8
     rw[hslot]
     simp only[Bool.and_eq_true,decide_eq_true_eq,List.all_eq_true]
     refine⟨⟨⟨⟨?_,?_⟩,?_⟩,?_⟩,h⟩<;>omega
    rw[if_neg (by simp)]
    refine (Zu2 2 hc).bind fun r1 h1=>?_
    refine So.ite (fun _=>?_) fun _=>So.ret ⟨h1,hgood ms rfl fun x hx=>?_⟩
    ·refine (Y4 (ms.length:Int) h1).bind fun r2 ⟨h2,a2,b2,_⟩=>?_
     have b2:=b2 (by omega)
     obtain⟨k,hk⟩:∃k:Nat,r2.1=(k:Int):=⟨r2.1.toNat,by omega⟩
     simp only[hk] at a2 b2 ⊢
     have hk2:k < ms.length:=by omega
     rw[Yi hk2,Option.bind_some,Qi,Option.bind_some,Ze0,Option.bind_some,hslot]
     refine (Y4 30 h2).bind fun r3 ⟨h3,a3,b3,_⟩=>?_
     have b3:=b3 (by omega)
     rw[Int.toNat_natCast,Yi (by simpa using hk2),Option.bind_some,Qi,Option.bind_some]
     refine (Y4 4 h3).bind fun r4 ⟨h4,a4,b4,_⟩=>?_
     have b4:=b4 (by omega)
     rw[Int.toNat_natCast,Yi (by simpa using hk2),Option.bind_some,Qi,Option.bind_some,Int.toNat_natCast]
     refine So.ret ⟨h4,?_⟩
     simp only[List.getElem_set_self,List.set_set]
     rw[Yy (by omega) (by omega),Zm (by omega) (by omega),Zm (by omega) (by omega)]
     have hx:=hms _ (List.getElem_mem hk2)
     have hp:List.countP (fun x:GMConf=>x.prio) (ms.set k (GMConf.mk ms[k].weight true (2*(2*cost+(1+l))+r3.1) (1+r4.1)))=1:=by
      have h0:List.countP (fun x:GMConf=>x.prio) ms=0:=List.countP_eq_zero.2 fun x hx=>by simp[(hms x hx).2.1]
      rw[List.countP_set hk2,h0]
      simp[hx.2.1]
     refine hgood _ (by simp) fun x hx2=>?_
     rcases List.mem_or_eq_of_mem_set hx2 with hx2|rfl
     ·have:=hms x hx2
      unfold Xv
      rw[this.2.1]
      simp[this.1,this.2.2]
     ·unfold Xv
      simp only[hslot]
      unfold Zo
      rw[hp]
      simp only[if_true,Bool.and_eq_true,decide_eq_true_eq]
      refine⟨hx.1,⟨?_,?_⟩,?_⟩<;>omega
    ·have:=hms x hx
     unfold Xv
     rw[this.2.1]
     simp[this.1,this.2.2]
 rw[show (1:Int)+r6.1=((r6.1.toNat+1:Nat):Int) by omega]
 exact key FU (r6.1.toNat+1) r6.2 [] h6 (by have:=Wj;omega) (by simp) (by simp;omega) (by simp)
end Go.Proofs.YtciimjnpdmmfnaaGreat.Ev
