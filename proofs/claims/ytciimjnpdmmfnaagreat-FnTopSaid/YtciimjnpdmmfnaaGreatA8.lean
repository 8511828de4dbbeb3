/- A part of the proof of FnTop: see the text YtciimjnpdmmfnaaGreatLawFnTop for what is proved and its conditions. Conditions here: those in each line. -/
import Derived.Test.YtciimjnpdmmfnaaGreatA7
namespace Go.Proofs.YtciimjnpdmmfnaaGreat.Ev
open Go Go.Proofs
set_option linter.unusedVariables false
set_option linter.unusedSimpArgs false
theorem wrap64 {n:Int} (h1:-9223372036854775808≤n) (h2:n < 9223372036854775808):IntKind.i64.wrap n=n:=w64_of h1 h2
theorem addW_of {a b:Int} (h1:-9223372036854775808≤a+b) (h2:a+b < 9223372036854775808):addW a b=a+b:=wrap64 h1 h2
theorem subW_of {a b:Int} (h1:-9223372036854775808≤a - b) (h2:a - b < 9223372036854775808):subW a b=a - b:=wrap64 h1 h2
theorem mulW_of {a b:Int} (h1:-9223372036854775808≤a*b) (h2:a*b < 9223372036854775808):mulW a b=a*b:=wrap64 h1 h2
theorem addW_nat {k:Nat} (h:k < 4611686018427387904):addW (k:Int) 1=((k+1:Nat):Int):=by rw[addW_of (by omega) (by omega)];rfl
section
variable {α β σ ρ:Type}
theorem idx_get {xs:List α} {k:Nat} (h:k < xs.length):idx xs (k:Int)=some xs[k]:=by
 simp[idx,h]
theorem FU_big:4611686018427387904 < FU:=by decide
def runL (step:α→σ→Option (σ ⊕ ρ)) (fin:σ→Option ρ):List α→σ→Option ρ
 | [],s=>fin s
 | a::l,s=>(step a s).bind fun r=>match r with|.inl s'=>runL step fin l s'|.inr x=>some x
def goL (k:σ→Option ρ):σ ⊕ ρ→Option ρ
 | .inl s=>k s
 | .inr x=>some x
theorem loop_list (xs:List α) (hl:xs.length < 4611686018427387904) (step:α→σ→Option (σ ⊕ ρ)) (fin:σ→Option ρ) (L:Nat→σ→Int→Option ρ)
  (hL:∀m s i,L (m+1) s i=if decide (i < (xs.length:Int))=true then (idx xs i).bind fun a=>(step a s).bind (goL fun s'=>L m s' (addW i 1)) else fin s):
  ∀(m k:Nat) (s:σ),k≤xs.length→xs.length - k < m→L m s k=runL step fin (xs.drop k) s:=by
 intro m
 induction m with
 | zero=>intro k s _ h;omega
 | succ m ih=>
  intro k s hk hm
  rw[hL]
  by_cases hc:k < xs.length
  ·have h1:decide ((k:Int) < (xs.length:Int))=true:=by simpa using hc
   rw[if_pos h1,idx_get hc,Option.bind_some,List.drop_eq_getElem_cons hc]
   simp only[runL]
   congr 1
   funext r
   cases r with
   | inl s'=>
    simp only[goL]
    rw[addW_nat (by omega)]
    exact ih (k+1) s' (by omega) (by omega)
   | inr x=>rfl
  ·have h1:¬decide ((k:Int) < (xs.length:Int))=true:=by simpa using hc
   rw[if_neg h1,List.drop_eq_nil_of_le (by omega)]
   rfl
theorem loop_all (xs:List α) (hl:xs.length < 4611686018427387904) (step:α→σ→Option (σ ⊕ ρ)) (fin:σ→Option ρ) (L:Nat→σ→Int→Option ρ)
  (hL:∀m s i,L (m+1) s i=if decide (i < (xs.length:Int))=true then (idx xs i).bind fun a=>(step a s).bind (goL fun s'=>L m s' (addW i 1)) else fin s) (s:σ):
  L FU s 0=runL step fin xs s:=by
 have:=loop_list xs hl step fin L hL FU 0 s (Nat.zero_le _) (by have:=FU_big;omega)
 simpa using this
theorem runL_fold (step:α→σ→Option (σ ⊕ ρ)) (fin:σ→Option ρ) (f:σ→α→σ) (I:List α→σ→Prop) (h:∀a l s,I (a::l) s→step a s=some (.inl (f s a))∧I l (f s a)):∀(xs:List α) (s:σ),I xs s→runL step fin xs s=fin (xs.foldl f s):=by
 intro xs
 induction xs with
 | nil=>intro s _;rfl
 | cons a l ih=>
  intro s hi
  obtain⟨h1,h2⟩:=h a l s hi
  simp only[runL,h1,Option.bind_some,List.foldl_cons]
  exact ih _ h2
theorem mkI_of {sz n:Nat} {z:α} (h1:n*sz≤70368744177664) (h2:n≤9223372036854775807):mkI sz (n:Int) z=some (List.replicate n z):=by
 simp[mkI,h1,h2]
theorem appI_of {sz:Nat} {xs ys:List α} (h1:(xs.length+ys.length)*sz≤140737488355328) (h2:xs.length+ys.length≤9223372036854775807):appI sz xs ys=some (xs++ys):=by
 unfold appI
 rw[if_pos ⟨h1,h2⟩]
end
section
variable {α:Type}
theorem setO_of (xs:List α) (i:Int) (a:α):setO xs i a=some (xs.set i.toNat a):=rfl
def atI [Inhabited α] (xs:List α) (i:Int):α:=xs.getD i.toNat default
theorem at_nat [Inhabited α] {xs:List α} {k:Nat} (h:k < xs.length):atI xs (k:Int)=xs[k]:=by
 simp[atI,h]
theorem idx_at [Inhabited α] {xs:List α} {i:Int} (h0:0≤i) (h1:i < (xs.length:Int)):idx xs i=some (atI xs i):=by
 obtain⟨k,rfl⟩:∃k:Nat,i=k:=⟨i.toNat,by omega⟩
 have hk:k < xs.length:=by omega
 rw[idx_get hk,at_nat hk]
theorem at_mem [Inhabited α] {xs:List α} {i:Int} (h0:0≤i) (h1:i < (xs.length:Int)):atI xs i∈xs:=by
 obtain⟨k,rfl⟩:∃k:Nat,i=k:=⟨i.toNat,by omega⟩
 have hk:k < xs.length:=by omega
 rw[at_nat hk];exact List.getElem_mem hk
theorem at_set_self [Inhabited α] {xs:List α} {i:Int} (a:α) (h0:0≤i) (h1:i < (xs.length:Int)):atI (xs.set i.toNat a) i=a:=by
 obtain⟨k,rfl⟩:∃k:Nat,i=k:=⟨i.toNat,by omega⟩
 have hk:k < xs.length:=by omega
 rw[at_nat (by simpa using hk)];simp
theorem at_set_ne [Inhabited α] {xs:List α} {i j:Int} (a:α) (h0:0≤i) (h1:0≤j) (hn:i≠j):atI (xs.set i.toNat a) j=atI xs j:=by
 unfold atI
 rw[List.getD_eq_getElem?_getD,List.getD_eq_getElem?_getD,List.getElem?_set_ne (by omega)]
theorem nzI_of {n:Int} (h:n≠0):nzI n=some ():=by unfold nzI;rw[if_neg h]
theorem nnI_of {n:Int} (h:0≤n):nnI n=some ():=by unfold nnI;rw[if_pos h]
theorem remW_of {a n:Int} (h0:0≤a):remW a n=a % n:=by unfold remW;rw[Int.tmod_eq_emod_of_nonneg h0]
theorem quoW_of {a n:Int} (h0:0≤a) (h1:a < 9223372036854775808) (hn:1≤n):quoW a n=a / n:=by
 unfold quoW
 rw[Int.tdiv_eq_ediv_of_nonneg h0]
 have h2:0≤a / n:=Int.ediv_nonneg h0 (by omega)
 have h3:a / n≤a:=Int.ediv_le_self n h0
 exact wrap64 (by omega) (by omega)
theorem index_list (xs:List α) (hl:xs.length < 4611686018427387904) (f:α→Option Bool) (q:α→Bool) (hf:∀a∈xs,f a=some (!q a)) (L:Nat→Int→Option Int)
  (hL:∀m i,L (m+1) i=if decide (i < (xs.length:Int))=true then (idx xs i).bind fun a=>(f a).bind fun r=>if r=true then some i else L m (addW i 1) else some (-1)):
  (xs.all q=true∧L FU 0=some (-1))∨∃k:Nat,∃h:k < xs.length,L FU 0=some (k:Int)∧q xs[k]=false∧(xs.take k).all q=true:=by
 have key:∀(m k:Nat),k≤xs.length→xs.length - k < m→(xs.take k).all q=true→(xs.all q=true∧L m k=some (-1))∨∃j:Nat,∃h:j < xs.length,L m k=some (j:Int)∧q xs[j]=false∧(xs.take j).all q=true:=by
  intro m
  induction m with
  | zero=>intro k _ h;omega
  | succ m ih=>
   intro k hk hm ht
   rw[hL]
   by_cases hc:k < xs.length
   ·have h1:decide ((k:Int) < (xs.length:Int))=true:=by simpa using hc
    rw[if_pos h1,idx_get hc,Option.bind_some,hf _ (List.getElem_mem hc),Option.bind_some]
    by_cases hq:q xs[k]=true
    ·have h2:¬(!q xs[k])=true:=by simp[hq]
     rw[if_neg h2,addW_nat (by omega)]
     refine ih (k+1) (by omega) (by omega) ?_
     rw[List.take_succ_eq_append_getElem hc,List.all_append,ht];simp[hq]
    ·have h2:(!q xs[k])=true:=by simpa using hq
     rw[if_pos h2]
     exact .inr ⟨k,hc,rfl,by simpa using hq,ht⟩
   ·have h1:¬decide ((k:Int) < (xs.length:Int))=true:=by simpa using hc
    rw[if_neg h1]
    rw[List.take_of_length_le (by omega)] at ht
    exact .inl ⟨ht,rfl⟩
 exact key FU 0 (Nat.zero_le _) (by have:=FU_big;omega) (by simp)
theorem find_list (xs:List α) (hl:xs.length < 4611686018427387904) (f:α→Option Bool) (q:α→Bool) (hf:∀a∈xs,f a=some (!q a)) (L:Nat→Int→Option Int)
  (hL:∀m i,L (m+1) i=if decide (i < (xs.length:Int))=true then (idx xs i).bind fun a=>(f a).bind fun r=>if r=true then some i else L m (addW i 1) else some (-1)):
  ((L FU 0).bind fun r=>some (decide (r≥0)))=some (!xs.all q):=by
 rcases index_list xs hl f q hf L hL with⟨h1,h2⟩|⟨k,hk,h1,h2,h3⟩
 ·rw[h2,h1];rfl
 ·rw[h1,Option.bind_some]
  have:xs.all q=false:=by
   rw[List.all_eq_false]
   exact⟨xs[k],List.getElem_mem hk,by simp[h2]⟩
  rw[this]
  have h4:((k:Nat):Int)≥0:=by omega
  simp[h4]
theorem delete_list (xs:List α) (z:α) (hl:xs.length < 4611686018427387904) (f:α→Option Bool) (q:α→Bool) (hf:∀a∈xs,f a=some (!q a)) (I:Nat→Int→Option Int)
  (hI:∀m i,I (m+1) i=if decide (i < (xs.length:Int))=true then (idx xs i).bind fun a=>(f a).bind fun r=>if r=true then some i else I m (addW i 1) else some (-1))
  (L:Nat→List α→Int→Int→Option (List α))
  (hL:∀m v i j,L (m+1) v i j=if decide (j < (v.length:Int))=true then (idx v j).bind fun a=>(f a).bind fun r=>if (!r)=true then (idx v i).bind fun _=>(setO v i a).bind fun y=>L m y (addW i 1) (addW j 1) else L m v i (addW j 1)
   else (sliceI v i (v.length:Int)).bind fun _=>(clrI z v i (v.length:Int)).bind fun y=>(sliceI y 0 i).bind fun s=>some s):
  ((I FU 0).bind fun r=>if decide (r=(-1))=true then some xs else L FU xs r (addW r 1))=some (xs.filter q):=by
 have key:∀(m i j:Nat) (v:List α),i≤j→j≤xs.length→xs.length - j < m→v.length=xs.length→v.take i=(xs.take j).filter q→v.drop j=xs.drop j→L m v i j=some (xs.filter q):=by
  intro m
  induction m with
  | zero=>intro i j v _ _ h;omega
  | succ m ih=>
   intro i j v hij hj hm hv ht hd
   rw[hL]
   by_cases hc:j < v.length
   ·have hc2:j < xs.length:=by omega
    have h1:decide ((j:Int) < (v.length:Int))=true:=by simpa using hc
    have e:v[j]=xs[j]:=by
     have:=congrArg List.head? hd
     simpa [List.head?_drop,hc,hc2] using this
    have hd2:v.drop (j+1)=xs.drop (j+1):=by
     have:=congrArg (List.drop 1) hd
     simpa [List.drop_drop] using this
    rw[if_pos h1,idx_get hc,Option.bind_some,e,hf _ (List.getElem_mem hc2),Option.bind_some,Bool.not_not]
    by_cases hq:q xs[j]=true
    ·rw[if_pos hq,idx_get (by omega:i < v.length),Option.bind_some]
     simp only[setO,Option.bind_some]
     rw[addW_nat (by omega),addW_nat (by omega)]
     refine ih (i+1) (j+1) _ (by omega) (by omega) (by omega) (by simp[hv]) ?_ ?_
     ·rw[Int.toNat_natCast,List.take_succ_eq_append_getElem (by simpa using (by omega:i < v.length)),List.take_set_of_le (Nat.le_refl _),ht,List.take_succ_eq_append_getElem hc2,List.filter_append]
      simp[hq]
     ·rw[Int.toNat_natCast,List.drop_set_of_lt (by omega),hd2]
    ·rw[if_neg hq,addW_nat (by omega)]
     refine ih i (j+1) v (by omega) (by omega) (by omega) hv ?_ hd2
     rw[ht,List.take_succ_eq_append_getElem hc2,List.filter_append]
     simp[hq]
   ·have h1:¬decide ((j:Int) < (v.length:Int))=true:=by simpa using hc
    have hjx:j=xs.length:=by omega
    rw[if_neg h1]
    have h2:sliceI v (i:Int) (v.length:Int)=some ((v.drop i).take (v.length - i)):=by
     unfold sliceI;rw[if_pos ⟨by omega,by omega,by omega⟩];simp
    have h3:clrI z v (i:Int) (v.length:Int)=some (v.take i++List.replicate (v.length - i) z++v.drop v.length):=by
     unfold clrI
     have:(i:Int).toNat+((v.length:Int).toNat - (i:Int).toNat)=v.length:=by omega
     rw[if_pos (by omega),this];simp
    rw[h2,Option.bind_some,h3,Option.bind_some]
    have h4:sliceI (v.take i++List.replicate (v.length - i) z++v.drop v.length) 0 (i:Int)=some (v.take i):=by
     unfold sliceI
     rw[if_pos ⟨by omega,by omega,by simp;omega⟩]
     have:(v.take i).length=i:=by rw[List.length_take];omega
     simp[List.append_assoc,List.take_append,this]
    rw[h4,Option.bind_some,ht,hjx,List.take_length]
 rcases index_list xs hl f q hf I hI with⟨h1,h2⟩|⟨k,hk,h1,h2,h3⟩
 ·rw[h2,Option.bind_some,if_pos (by decide)]
  congr 1
  exact (List.filter_eq_self.2 (fun a ha=>List.all_eq_true.1 h1 a ha)).symm
 ·rw[h1,Option.bind_some,if_neg (by simp),addW_nat (by omega)]
  refine key FU k (k+1) xs (by omega) (by omega) (by have:=FU_big;omega) rfl ?_ rfl
  rw[List.take_succ_eq_append_getElem hk,List.filter_append,List.filter_eq_self.2 (fun a ha=>List.all_eq_true.1 h3 a ha)]
  simp[h2]
theorem copy_list (sz:Nat) (hz:sz≤1024) (xs:List α) (hl:xs.length < 1048577) (f:α→Option α) (hf:∀a∈xs,f a=some a) {ρ:Type} (fin:List α→Option ρ) (L:Nat→List α→Int→Option ρ)
  (hL:∀m v i,L (m+1) v i=if decide (i < (xs.length:Int))=true then (idx xs i).bind fun a=>(f a).bind fun b=>(appI sz v [b]).bind fun z=>L m z (addW i 1) else fin v):L FU [] 0=fin xs:=by
 have key:∀(m k:Nat),k≤xs.length→xs.length - k < m→L m (xs.take k) k=fin xs:=by
  intro m
  induction m with
  | zero=>intro k _ h;omega
  | succ m ih=>
   intro k hk hm
   rw[hL]
   by_cases hc:k < xs.length
   ·have h1:decide ((k:Int) < (xs.length:Int))=true:=by simpa using hc
    have hlen:(xs.take k).length=k:=by rw[List.length_take];omega
    have hb:(k+1)*sz≤140737488355328:=Nat.le_trans (Nat.mul_le_mul (by omega:k+1≤1048577) hz) (by decide)
    rw[if_pos h1,idx_get hc,Option.bind_some,hf _ (List.getElem_mem hc),Option.bind_some,appI_of (by simpa [hlen] using hb) (by simp[hlen];omega),Option.bind_some,addW_nat (by omega),←List.take_succ_eq_append_getElem hc]
    exact ih (k+1) (by omega) (by omega)
   ·have h1:¬decide ((k:Int) < (xs.length:Int))=true:=by simpa using hc
    rw[if_neg h1,List.take_of_length_le (by omega)]
 have:=key FU 0 (Nat.zero_le _) (by have:=FU_big;omega)
 simpa using this
end
theorem ba_loop (bs:ByteArray):∀(n i:Nat) (r:List UInt8),bs.size - i=n→ByteArray.toList.loop bs i r=r.reverse++bs.data.toList.drop i:=by
 intro n
 induction n with
 | zero=>
  intro i r h
  unfold ByteArray.toList.loop
  have hs:bs.data.toList.length=bs.size:=rfl
  rw[if_neg (by omega),List.drop_eq_nil_of_le (by omega)]
  simp
 | succ n ih=>
  intro i r h
  unfold ByteArray.toList.loop
  have hs:bs.data.toList.length=bs.size:=rfl
  have hi:i < bs.data.toList.length:=by omega
  rw[if_pos (by omega),ih (i+1) _ (by omega),List.drop_eq_getElem_cons hi]
  have:bs.get! i=bs.data.toList[i]:=by
   have hi2:i < bs.data.size:=hi
   simp[ByteArray.get!,getElem!_def,Array.getElem?_eq_getElem hi2]
  rw[this]
  simp
theorem ba_toList (bs:ByteArray):bs.toList=bs.data.toList:=by
 unfold ByteArray.toList
 rw[ba_loop bs _ 0 [] rfl]
 simp
theorem ite_same {β:Type} {c:Prop} [Decidable c] {x:β}:(if c then x else x)=x:=by split<;>rfl
end Go.Proofs.YtciimjnpdmmfnaaGreat.Ev
namespace Go.Proofs.YtciimjnpdmmfnaaGreat.Ev
open Go Go.Proofs
set_option linter.unusedVariables false
set_option linter.unusedSimpArgs false
theorem within_eq (x a b:Int):p_i_within x a b=some (decide (a≤x∧x≤b)):=by
 unfold p_i_within
 by_cases h:a≤x<;>simp[h]
theorem l1In_eq (x a b:Int):p_s_l1In x a b=some (decide (a≤x∧x≤b)):=by
 unfold p_s_l1In
 by_cases h:a≤x<;>simp[h]
def costG (c:GConf):Int:=if (0≤c.maxRetry∧c.maxRetry≤3)∧(0≤c.maxWait∧c.maxWait≤3) then (c.maxRetry+2)*(c.maxWait+6) else 0
def slotG (c:GConf):Int:=if costG c=0 then 0 else if 1≤c.lockMost∧c.lockMost≤40 then 2*costG c+c.lockMost else 0
def priosG (c:GConf):Nat:=c.masters.countP (·.prio)
def mconfG (c:GConf) (m:GMConf):Bool:=decide (1≤m.weight∧m.weight≤4)&&if m.prio then decide (2*slotG c*priosG c≤m.every∧m.every≤1000)&&decide (1≤m.cap∧m.cap≤8) else decide (m.every=0)&&decide (m.cap=0)
def confG (c:GConf):Bool:=decide (1≤(c.masters.length:Int)∧(c.masters.length:Int)≤4)&&decide (1≤c.quantum∧c.quantum≤4)&&decide (1≤c.maxSplit∧c.maxSplit≤12)&&decide (slotG c≠0)&&c.masters.all (mconfG c)
theorem costG_le (c:GConf):0≤costG c∧costG c≤45:=by
 unfold costG
 split
 ·rename_i h
  obtain⟨⟨h1,h2⟩,h3,h4⟩:=h
  generalize c.maxRetry=a at*
  generalize c.maxWait=b at*
  have:a=0∨a=1∨a=2∨a=3:=by omega
  rcases this with rfl|rfl|rfl|rfl<;>omega
 ·omega
theorem slotG_le (c:GConf):0≤slotG c∧slotG c≤130:=by
 have:=costG_le c
 unfold slotG
 split
 ·omega
 ·split<;>omega
theorem s_CostOf_eq (c:GConf):p_s_CostOf c=some (costG c):=by
 unfold p_s_CostOf
 rw[l1In_eq,Option.bind_some,l1In_eq,Option.bind_some]
 unfold p_s_CostOf__J1 costG
 by_cases h1:0≤c.maxRetry∧c.maxRetry≤3
 ·by_cases h2:0≤c.maxWait∧c.maxWait≤3
  ·have:=costG_le c
   unfold costG at this
   rw[if_pos ⟨h1,h2⟩] at this
   simp only[h1,h2,decide_true,Bool.not_true,Bool.false_eq_true,if_false,and_self,if_true]
   rw[addW_of (by omega) (by omega),addW_of (by omega) (by omega),mulW_of (by omega) (by omega)]
  ·simp[h1,h2]
 ·simp[h1]
theorem i_CostOf_eq (c:GConf):p_i_CostOf c=some (costG c):=by
 rw[←s_CostOf_eq]
 unfold p_i_CostOf p_s_CostOf
 simp only[l1In_eq,within_eq]
 rfl
theorem s_SlotOf_eq (c:GConf):p_s_SlotOf c=some (slotG c):=by
 have:=costG_le c
 unfold p_s_SlotOf slotG
 rw[s_CostOf_eq,Option.bind_some,l1In_eq,Option.bind_some,Option.bind_some]
 by_cases h0:costG c=0
 ·simp[h0]
 ·by_cases h1:1≤c.lockMost∧c.lockMost≤40
  ·simp only[h0,h1,decide_true,decide_false,Bool.not_true,Bool.false_eq_true,if_false,and_self,if_true]
   rw[mulW_of (by omega) (by omega),addW_of (by omega) (by omega)]
  ·simp[h0,h1]
theorem i_SlotOf_eq (c:GConf):p_i_SlotOf c=some (slotG c):=by
 rw[←s_SlotOf_eq]
 unfold p_i_SlotOf p_s_SlotOf
 simp only[l1In_eq,within_eq,s_CostOf_eq,i_CostOf_eq]
theorem s_l6Limits_eq (c:GConf):p_s_l6Limits c=some (decide (1≤c.quantum∧c.quantum≤4)&&decide (1≤c.maxSplit∧c.maxSplit≤12)&&decide (slotG c≠0)):=by
 have:=costG_le c
 unfold p_s_l6Limits slotG
 simp only[l1In_eq,s_CostOf_eq,Option.bind_some]
 by_cases h1:1≤c.quantum∧c.quantum≤4
 ·by_cases h2:costG c=0
  ·simp[h2]
  ·have h3:costG c > 0:=by omega
   by_cases h4:1≤c.maxSplit∧c.maxSplit≤12
   ·by_cases h5:1≤c.lockMost∧c.lockMost≤40
    ·have:¬(2*costG c+c.lockMost=0):=by omega
     simp[h1,h2,h3,h4,h5,this]
    ·simp[h1,h2,h3,h4,h5]
   ·simp[h1,h2,h3,h4]
 ·simp[h1]
theorem prios_fold (xs:List GMConf):∀(n:Int),0≤n→n+xs.length < 4611686018427387904→∀{ρ:Type} (fin:Int→Option ρ),runL (fun (a:GMConf) n=>some (.inl (if a.prio=true then addW n 1 else n))) fin xs n=fin (n+(xs.countP (·.prio):Nat)):=by
 induction xs with
 | nil=>intro n _ _ ρ fin;simp[runL]
 | cons a l ih=>
  intro n h0 hl ρ fin
  simp only[List.length_cons] at hl
  simp only[runL,Option.bind_some,List.countP_cons]
  by_cases h:a.prio=true
  ·rw[if_pos h,addW_of (by omega) (by omega),ih _ (by omega) (by omega),if_pos h]
   congr 1;omega
  ·rw[if_neg h,ih _ (by omega) (by omega),if_neg h]
   congr 1
theorem i_prios_eq (c:GConf) (hl:c.masters.length < 1048577):p_i_prios c=some (priosG c:Int):=by
 unfold p_i_prios
 rw[loop_all c.masters (by omega) (fun (a:GMConf) n=>some (.inl (if a.prio=true then addW n 1 else n))) some (p_i_prios__L1 c) (fun m s i=>?_) 0,prios_fold _ _ (by omega) (by omega)]
 ·simp[priosG]
 ·show p_i_prios__L1b c _ s i=_
  unfold p_i_prios__L1b
  congr 1;congr 1;funext a
  by_cases h:a.prio=true<;>simp[h,goL]
theorem priosG_le (c:GConf):priosG c≤c.masters.length:=List.countP_le_length
theorem every_le (c:GConf) (hl:c.masters.length < 1048577):0≤slotG c*(priosG c:Int)∧slotG c*(priosG c:Int)≤136314880:=by
 have h1:=slotG_le c
 have h2:=priosG_le c
 constructor
 ·exact Int.mul_nonneg h1.1 (by omega)
 ·have h3:slotG c*(priosG c:Int)≤130*(priosG c:Int):=Int.mul_le_mul_of_nonneg_right h1.2 (by omega)
  omega
theorem i_LeastEvery_eq (c:GConf) (hl:c.masters.length < 1048577):p_i_LeastEvery c=some (2*slotG c*priosG c):=by
 have h1:=slotG_le c
 have h2:=every_le c hl
 unfold p_i_LeastEvery
 rw[i_SlotOf_eq,Option.bind_some,i_prios_eq c hl,Option.bind_some]
 rw[mulW_of (a:=2) (by omega) (by omega),mulW_of (by rw[Int.mul_assoc];omega) (by rw[Int.mul_assoc];omega)]
theorem i_ConfOk_1_eq (c:GConf) (m:GMConf) (hl:c.masters.length < 1048577):p_i_ConfOk_1 m c=some (!mconfG c m):=by
 unfold p_i_ConfOk_1 mconfG
 simp only[within_eq,Option.bind_some,i_LeastEvery_eq c hl]
 by_cases h1:1≤m.weight∧m.weight≤4
 ·by_cases h2:m.prio=true
  ·by_cases h3:2*slotG c*priosG c≤m.every∧m.every≤1000
   ·simp[h1,h2,h3]
   ·simp[h1,h2,h3]
  ·by_cases h3:m.every=0
   ·simp[h1,h2,h3]
   ·simp[h1,h2,h3]
 ·simp[h1]
theorem contains_eq (c:GConf) (xs:List GMConf) (hl:c.masters.length < 1048577) (hx:xs.length < 4611686018427387904):p_slices_ContainsFunc_MConf_MConf__i_ConfOk_1 xs c=some (!xs.all (mconfG c)):=by
 unfold p_slices_ContainsFunc_MConf_MConf__i_ConfOk_1 p_slices_IndexFunc_MConf_MConf__i_ConfOk_1
 have key:∀(m k:Nat),k≤xs.length→xs.length - k < m→∃r,p_slices_IndexFunc_MConf_MConf__i_ConfOk_1__L1 xs c m k=some r∧decide (r≥0)=!(xs.drop k).all (mconfG c):=by
  intro m
  induction m with
  | zero=>intro k _ h;omega
  | succ m ih=>
   intro k hk hm
   have e:p_slices_IndexFunc_MConf_MConf__i_ConfOk_1__L1 xs c (m+1) k=p_slices_IndexFunc_MConf_MConf__i_ConfOk_1__L1b xs c (p_slices_IndexFunc_MConf_MConf__i_ConfOk_1__L1 xs c m) k:=rfl
   rw[e]
   unfold p_slices_IndexFunc_MConf_MConf__i_ConfOk_1__L1b
   by_cases hc:k < xs.length
   ·have h1:decide ((k:Int) < (xs.length:Int))=true:=by simpa using hc
    rw[if_pos h1,idx_get hc,Option.bind_some,i_ConfOk_1_eq c _ hl,Option.bind_some,List.drop_eq_getElem_cons hc,List.all_cons]
    by_cases hq:mconfG c xs[k]=true
    ·have h2:¬(!mconfG c xs[k])=true:=by simp[hq]
     rw[if_neg h2,addW_nat (by omega),hq,Bool.true_and]
     exact ih (k+1) (by omega) (by omega)
    ·have h2:(!mconfG c xs[k])=true:=by simpa using hq
     rw[if_pos h2]
     refine⟨_,rfl,?_⟩
     simp[hq]
   ·have h1:¬decide ((k:Int) < (xs.length:Int))=true:=by simpa using hc
    rw[if_neg h1,List.drop_eq_nil_of_le (by omega)]
    exact⟨_,rfl,by simp⟩
 obtain⟨r,hr,hq⟩:=key FU 0 (Nat.zero_le _) (by have:=FU_big;omega)
 rw[show ((0:Nat):Int)=0 from rfl] at hr
 rw[hr,Option.bind_some,hq,List.drop_zero]
theorem i_ConfOk_eq (c:GConf) (hl:c.masters.length < 1048577):p_i_ConfOk c=some (confG c):=by
 unfold p_i_ConfOk confG
 simp only[within_eq,Option.bind_some,i_SlotOf_eq,contains_eq c c.masters hl (by omega),Bool.not_not]
 by_cases h1:1≤(c.masters.length:Int)∧(c.masters.length:Int)≤4
 ·by_cases h2:1≤c.quantum∧c.quantum≤4
  ·by_cases h3:1≤c.maxSplit∧c.maxSplit≤12
   ·by_cases h4:slotG c=0<;>simp[h1,h2,h3,h4]
   ·simp[h1,h2,h3]
  ·simp[h1,h2]
 ·simp[h1]
theorem s_member (c:GConf) (m:GMConf) (hl:c.masters.length < 1048577) (k:Option Bool):
  ((p_s_l1In m.weight 1 4).bind fun r1102=>
  if (!r1102)=true then some false
  else if (!m.prio)=true then
    if decide (m.every≠0)=true then some false
    else if decide (m.cap≠0)=true then some false
     else if m.prio=true then
       (p_s_SlotOf c).bind fun r1128=>
       (p_s_l1In m.every (mulW (mulW 2 (priosG c:Int)) r1128) 1000).bind fun r1130=>
       if (!r1130)=true then some false
       else (p_s_l1In m.cap 1 8).bind fun r1135=>if (!r1135)=true then some false else k
      else k
   else if m.prio=true then
     (p_s_SlotOf c).bind fun r1128=>
     (p_s_l1In m.every (mulW (mulW 2 (priosG c:Int)) r1128) 1000).bind fun r1130=>
     if (!r1130)=true then some false
     else (p_s_l1In m.cap 1 8).bind fun r1135=>if (!r1135)=true then some false else k
    else k)=if mconfG c m=true then k else some false:=by
 have h1:=slotG_le c
 have h2:=every_le c hl
 have h3:=priosG_le c
 have e:mulW (mulW 2 (priosG c:Int)) (slotG c)=2*slotG c*priosG c:=by
  have e2:2*(priosG c:Int)*slotG c=2*(slotG c*(priosG c:Int)):=by rw[Int.mul_assoc,Int.mul_comm (priosG c:Int)]
  rw[mulW_of (a:=2) (by omega) (by omega),mulW_of (by rw[e2];omega) (by rw[e2];omega),e2,Int.mul_assoc]
 unfold mconfG
 simp only[l1In_eq,Option.bind_some,s_SlotOf_eq,e]
 by_cases h1:1≤m.weight∧m.weight≤4
 ·by_cases h2:m.prio=true
  ·by_cases h3:2*slotG c*priosG c≤m.every∧m.every≤1000
   ·by_cases h4:1≤m.cap∧m.cap≤8<;>simp[h1,h2,h3,h4]
   ·simp[h1,h2,h3]
  ·by_cases h3:m.every=0
   ·by_cases h4:m.cap=0<;>simp[h1,h2,h3,h4]
   ·simp[h1,h2,h3]
 ·simp[h1]
theorem s_ConfOk__L2_eq (c:GConf) (hl:c.masters.length < 1048577):p_s_ConfOk__L2 c FU (priosG c:Int) 0=some (confG c):=by
 have key:∀(m k:Nat),k≤c.masters.length→c.masters.length - k < m→p_s_ConfOk__L2 c m (priosG c:Int) k=some (decide (1≤(c.masters.length:Int)∧(c.masters.length:Int)≤4)&&decide (1≤c.quantum∧c.quantum≤4)&&decide (1≤c.maxSplit∧c.maxSplit≤12)&&decide (slotG c≠0)&&(c.masters.drop k).all (mconfG c)):=by
  intro m
  induction m with
  | zero=>intro k _ h;omega
  | succ m ih=>
   intro k hk hm
   have e:p_s_ConfOk__L2 c (m+1) (priosG c:Int) k=p_s_ConfOk__L2b c (p_s_ConfOk__L2 c m) (priosG c:Int) k:=rfl
   rw[e]
   unfold p_s_ConfOk__L2b
   by_cases hc:k < c.masters.length
   ·have h1:decide ((k:Int) < (c.masters.length:Int))=true:=by simpa using hc
    rw[if_pos h1,idx_get hc,Option.bind_some,s_member c _ hl,List.drop_eq_getElem_cons hc,List.all_cons,addW_nat (by omega),ih (k+1) (by omega) (by omega)]
    by_cases hq:mconfG c c.masters[k]=true
    ·simp[hq]
    ·simp[hq]
   ·have h1:¬decide ((k:Int) < (c.masters.length:Int))=true:=by simpa using hc
    rw[if_neg h1,List.drop_eq_nil_of_le (by omega),l1In_eq,Option.bind_some,s_l6Limits_eq]
    by_cases h2:1≤(c.masters.length:Int)∧(c.masters.length:Int)≤4
    ·simp[h2]
    ·simp[h2]
 have:=key FU 0 (Nat.zero_le _) (by have:=FU_big;omega)
 simpa [confG] using this
theorem s_ConfOk_eq (c:GConf) (hl:c.masters.length < 1048577):p_s_ConfOk c=some (confG c):=by
 unfold p_s_ConfOk
 rw[loop_all c.masters (by omega) (fun (a:GMConf) n=>some (.inl (if a.prio=true then addW n 1 else n))) (fun n=>p_s_ConfOk__L2 c FU n 0) (p_s_ConfOk__L1 c) (fun m s i=>?_) 0,prios_fold _ _ (by omega) (by omega)]
 ·rw[show (0:Int)+(c.masters.countP (·.prio):Nat)=(priosG c:Int) by simp[priosG]]
  exact s_ConfOk__L2_eq c hl
 ·show p_s_ConfOk__L1b c _ s i=_
  unfold p_s_ConfOk__L1b
  congr 1;congr 1;funext a
  by_cases h:a.prio=true<;>simp[h,goL]
def weightG (c:GConf) (i:Int):Int:=((c.masters[i.toNat]?).map (·.weight)).getD 0
def masterG (c:GConf) (i:Int):Bool:=decide (0≤i∧i < (c.masters.length:Int))
def turnG (c:GConf) (i:Int):Int:=if confG c=true∧masterG c i=true then weightG c i*c.quantum else 0
theorem idx_master {c:GConf} {i:Int} (h:masterG c i=true):∃m,idx c.masters i=some m∧m∈c.masters∧m.weight=weightG c i:=by
 simp only[masterG,decide_eq_true_eq] at h
 obtain⟨k,rfl⟩:∃k:Nat,i=k:=⟨i.toNat,by omega⟩
 have hk:k < c.masters.length:=by omega
 refine⟨c.masters[k],idx_get hk,List.getElem_mem hk,?_⟩
 simp[weightG,hk]
theorem conf_weight {c:GConf} {m:GMConf} (h:confG c=true) (hm:m∈c.masters):1≤m.weight∧m.weight≤4:=by
 simp only[confG,Bool.and_eq_true,List.all_eq_true] at h
 have:=h.2 m hm
 simp only[mconfG,Bool.and_eq_true,decide_eq_true_eq] at this
 exact this.1
theorem conf_quantum {c:GConf} (h:confG c=true):1≤c.quantum∧c.quantum≤4:=by
 simp only[confG,Bool.and_eq_true,decide_eq_true_eq] at h
 exact h.1.1.1.2
theorem conf_weightG {c:GConf} {i:Int} (h:confG c=true) (hm:masterG c i=true):1≤weightG c i∧weightG c i≤4:=by
 obtain⟨m,_,h1,h2⟩:=idx_master hm
 rw[←h2];exact conf_weight h h1
theorem mul_pos4 {a b:Int} (h1:1≤a) (h2:a≤4) (h3:1≤b) (h4:b≤4):1≤a*b∧a*b≤16:=by
 have:a=1∨a=2∨a=3∨a=4:=by omega
 rcases this with rfl|rfl|rfl|rfl<;>omega
theorem turnG_pos {c:GConf} {i:Int} (h:confG c=true) (hm:masterG c i=true):1≤turnG c i∧turnG c i≤16:=by
 unfold turnG
 rw[if_pos ⟨h,hm⟩]
 have h1:=conf_weightG h hm
 have h2:=conf_quantum h
 exact mul_pos4 h1.1 h1.2 h2.1 h2.2
theorem turnG_zero {c:GConf} {i:Int}:turnG c i=0↔¬(confG c=true∧masterG c i=true):=by
 constructor
 ·intro h hc
  have:=turnG_pos hc.1 hc.2
  omega
 ·intro h;unfold turnG;rw[if_neg h]
theorem turnG_le (c:GConf) (i:Int):0≤turnG c i∧turnG c i≤16:=by
 by_cases h:confG c=true∧masterG c i=true
 ·have:=turnG_pos h.1 h.2;omega
 ·rw[turnG_zero.2 h];omega
theorem last_eq {c:GConf} (i:Int) (hl:c.masters.length < 1048577):decide (0≤i∧i≤subW (c.masters.length:Int) 1)=masterG c i:=by
 rw[subW_of (by omega) (by omega)]
 unfold masterG
 congr 1
 apply propext
 omega
theorem s_TurnOf_eq (c:GConf) (i:Int) (hl:c.masters.length < 1048577):p_s_TurnOf c i=some (turnG c i):=by
 unfold p_s_TurnOf
 rw[s_ConfOk_eq c hl,Option.bind_some,l1In_eq,Option.bind_some,last_eq i hl]
 unfold p_s_TurnOf__J1
 by_cases h1:confG c=true
 ·by_cases h2:masterG c i=true
  ·obtain⟨m,hm1,hm2,hm3⟩:=idx_master h2
   have hw:=conf_weight h1 hm2
   have hq:=conf_quantum h1
   have:=mul_pos4 hw.1 hw.2 hq.1 hq.2
   simp only[h1,h2,hm1,Bool.not_true,Bool.false_eq_true,if_false,Option.bind_some]
   rw[mulW_of (by omega) (by omega)]
   simp[turnG,h1,h2,hm3]
  ·simp[turnG,h1,h2]
 ·simp[turnG,h1]
theorem i_isMaster_eq (c:GConf) (i:Int) (hl:c.masters.length < 1048577):p_i_isMaster c i=some (masterG c i):=by
 unfold p_i_isMaster
 rw[within_eq,Option.bind_some,last_eq i hl]
theorem i_TurnOf_eq (c:GConf) (i:Int) (hl:c.masters.length < 1048577):p_i_TurnOf c i=some (turnG c i):=by
 rw[←s_TurnOf_eq c i hl]
 unfold p_i_TurnOf p_s_TurnOf
 rw[s_ConfOk_eq c hl,i_ConfOk_eq c hl,i_isMaster_eq c i hl,l1In_eq,last_eq i hl]
 rfl
theorem minI_eq (a b:Int):minI a b=min a b:=by unfold minI;omega
theorem maxI_eq (a b:Int):maxI a b=max a b:=by unfold maxI;omega
theorem conf_len {c:GConf} (h:confG c=true):1≤(c.masters.length:Int)∧(c.masters.length:Int)≤4:=by
 simp only[confG,Bool.and_eq_true,decide_eq_true_eq] at h
 exact h.1.1.1.1
theorem conf_lt {c:GConf} (h:confG c=true):c.masters.length < 1048577:=by have:=conf_len h;omega
instance:Inhabited GMConf:=⟨GMConf.z0⟩
instance:Inhabited GBucket:=⟨GBucket.z0⟩
theorem conf_at {c:GConf} {i:Int} (h:confG c=true) (hm:masterG c i=true):mconfG c (atI c.masters i)=true:=by
 simp only[masterG,decide_eq_true_eq] at hm
 have:=at_mem hm.1 hm.2
 simp only[confG,Bool.and_eq_true,List.all_eq_true] at h
 exact h.2 _ this
theorem mconf_every {c:GConf} {m:GMConf} (h:mconfG c m=true):-1≤m.every∧m.every≤1000∧0≤m.cap∧m.cap≤8:=by
 have h1:=slotG_le c
 have h2:0≤2*slotG c*(priosG c:Int):=Int.mul_nonneg (by omega) (by omega)
 simp only[mconfG,Bool.and_eq_true,decide_eq_true_eq] at h
 obtain⟨h3,h4⟩:=h
 split at h4
 ·simp only[Bool.and_eq_true,decide_eq_true_eq] at h4;omega
 ·simp only[Bool.and_eq_true,decide_eq_true_eq] at h4;omega
def bucketG (b:GBucket) (m:GMConf):Bool:=if m.prio then decide (0≤b.tokens∧b.tokens≤m.cap)&&decide (0≤b.count∧b.count < m.every) else decide (b.tokens=0)&&decide (b.count=0)
def tickG (b:GBucket) (m:GMConf):GBucket:=if (m.prio&&bucketG b m)=true then (if b.count+1=m.every then ⟨min (b.tokens+1) m.cap,0⟩ else ⟨b.tokens,b.count+1⟩) else b
def takeG (b:GBucket) (m:GMConf):GBucket×Bool:=if (m.prio&&bucketG b m&&decide (b.tokens≠0))=true then (⟨b.tokens - 1,b.count⟩,true) else (b,false)
def bbackG (b:GBucket) (m:GMConf):GBucket:=if (m.prio&&bucketG b m)=true then ⟨min (b.tokens+1) m.cap,b.count⟩ else b
def bnewG (m:GMConf):GBucket:=if m.prio then ⟨max m.cap 0,0⟩ else ⟨0,0⟩
theorem s_BucketOk_eq (b:GBucket) {m:GMConf} (h:-1≤m.every∧m.every≤1000):p_s_BucketOk b m=some (bucketG b m):=by
 unfold p_s_BucketOk bucketG
 rw[l1In_eq,Option.bind_some,l1In_eq,Option.bind_some,subW_of (by omega) (by omega)]
 by_cases h1:m.prio=true
 ·have e:(0≤b.count∧b.count≤m.every - 1)↔(0≤b.count∧b.count < m.every):=by omega
  by_cases h2:0≤b.tokens∧b.tokens≤m.cap
  ·simp[h1,h2,e]
  ·simp[h1,h2]
 ·simp[h1]
theorem i_BucketOk_eq (b:GBucket) (m:GMConf):p_i_BucketOk b m=some (bucketG b m):=by
 unfold p_i_BucketOk bucketG
 rw[within_eq,Option.bind_some]
 by_cases h1:m.prio=true
 ·by_cases h2:0≤b.tokens∧b.tokens≤m.cap
  ·by_cases h3:0≤b.count<;>simp[h1,h2,h3]
  ·simp[h1,h2]
 ·simp[h1]
theorem bucket_bnd {b:GBucket} {c:GConf} {m:GMConf} (h:bucketG b m=true) (hm:mconfG c m=true):0≤b.tokens∧b.tokens≤8∧0≤b.count∧b.count≤1000:=by
 have:=mconf_every hm
 unfold bucketG at h
 split at h<;>simp only[Bool.and_eq_true,decide_eq_true_eq] at h<;>omega
theorem i_isKept_eq (b:GBucket) (m:GMConf):p_i_isKept b m=some (m.prio&&bucketG b m):=by
 unfold p_i_isKept
 rw[i_BucketOk_eq,Option.bind_some]
 by_cases h1:m.prio=true<;>simp[h1]
theorem i_BucketTick_eq (b:GBucket) {c:GConf} {m:GMConf} (h:mconfG c m=true):p_i_BucketTick b m=some (tickG b m):=by
 unfold p_i_BucketTick tickG
 rw[i_isKept_eq,Option.bind_some]
 by_cases h1:(m.prio&&bucketG b m)=true
 ·have h2:bucketG b m=true:=by simp only[Bool.and_eq_true] at h1;exact h1.2
  have:=bucket_bnd h2 h
  rw[if_neg (by simp[h1]),if_pos h1,addW_of (by omega) (by omega),addW_of (by omega) (by omega),minI_eq]
  by_cases h3:b.count+1=m.every<;>simp[h3]
 ·rw[if_pos (by cases hq:(m.prio&&bucketG b m)<;>simp_all),if_neg h1]
theorem i_BucketTake_eq (b:GBucket) {c:GConf} {m:GMConf} (h:mconfG c m=true):p_i_BucketTake b m=some (takeG b m):=by
 unfold p_i_BucketTake p_i_BucketTake__J1 takeG
 rw[i_isKept_eq,Option.bind_some]
 by_cases h1:(m.prio&&bucketG b m)=true
 ·have h2:bucketG b m=true:=by simp only[Bool.and_eq_true] at h1;exact h1.2
  have:=bucket_bnd h2 h
  rw[subW_of (by omega) (by omega)]
  by_cases h3:b.tokens=0<;>simp[h1,h3]
 ·simp[h1]
theorem i_BucketBack_eq (b:GBucket) {c:GConf} {m:GMConf} (h:mconfG c m=true):p_i_BucketBack b m=some (bbackG b m):=by
 unfold p_i_BucketBack bbackG
 rw[i_isKept_eq,Option.bind_some]
 by_cases h1:(m.prio&&bucketG b m)=true
 ·have h2:bucketG b m=true:=by simp only[Bool.and_eq_true] at h1;exact h1.2
  have h4:m.prio=true:=by simp only[Bool.and_eq_true] at h1;exact h1.1
  have:=bucket_bnd h2 h
  have h5:b.tokens≤m.cap:=by
   unfold bucketG at h2
   rw[if_pos h4] at h2
   simp only[Bool.and_eq_true,decide_eq_true_eq] at h2
   exact h2.1.2
  rw[if_pos h1,if_pos h1,addW_of (by omega) (by omega)]
  by_cases h3:b.tokens < m.cap
  ·rw[if_pos (by simpa using h3),Int.min_eq_left (by omega)]
  ·rw[if_neg (by simpa using h3),Int.min_eq_right (by omega)]
   have:b.tokens=m.cap:=by omega
   rw[←this]
 ·rw[if_neg h1,if_neg h1]
theorem s_BucketNew_eq (m:GMConf):p_s_BucketNew m=some (bnewG m):=by
 unfold p_s_BucketNew bnewG
 rw[maxI_eq,Int.max_comm]
 by_cases h1:m.prio=true<;>simp[h1]
theorem i_BucketNew_eq (m:GMConf):p_i_BucketNew m=some (bnewG m):=by
 unfold p_i_BucketNew bnewG
 rw[maxI_eq]
 by_cases h1:m.prio=true<;>simp[h1]
theorem bnew_ok {c:GConf} {m:GMConf} (h:mconfG c m=true) (hs:0 < slotG c∧(m.prio=true→0 < priosG c)):bucketG (bnewG m) m=true:=by
 have hm:=mconf_every h
 unfold bucketG bnewG
 by_cases h1:m.prio=true
 ·simp only[h1,if_true,Bool.and_eq_true,decide_eq_true_eq]
  simp only[mconfG,h1,if_true,Bool.and_eq_true,decide_eq_true_eq] at h
  have h2:0 < slotG c*(priosG c:Int):=Int.mul_pos hs.1 (by have:=hs.2 h1;omega)
  have h3:2*slotG c*(priosG c:Int)=2*(slotG c*(priosG c:Int)):=Int.mul_assoc ..
  omega
 ·simp[h1]
theorem tick_ok {b:GBucket} {c:GConf} {m:GMConf} (h:bucketG b m=true) (hm:mconfG c m=true):bucketG (tickG b m) m=true:=by
 have hb:=mconf_every hm
 have hn:=bucket_bnd h hm
 unfold tickG
 split
 ·rename_i h1
  simp only[Bool.and_eq_true] at h1
  unfold bucketG at h
  rw[if_pos h1.1] at h
  simp only[Bool.and_eq_true,decide_eq_true_eq] at h
  split
  ·unfold bucketG
   rw[if_pos h1.1]
   simp only[Bool.and_eq_true,decide_eq_true_eq]
   omega
  ·unfold bucketG
   rw[if_pos h1.1]
   simp only[Bool.and_eq_true,decide_eq_true_eq]
   omega
 ·exact h
theorem take_ok {b:GBucket} {c:GConf} {m:GMConf} (h:bucketG b m=true) (hm:mconfG c m=true):bucketG (takeG b m).1 m=true:=by
 unfold takeG
 split
 ·rename_i h1
  simp only[Bool.and_eq_true,decide_eq_true_eq] at h1
  unfold bucketG at h ⊢
  rw[if_pos h1.1.1] at h ⊢
  simp only[Bool.and_eq_true,decide_eq_true_eq] at h ⊢
  omega
 ·exact h
theorem bback_ok {b:GBucket} {c:GConf} {m:GMConf} (h:bucketG b m=true) (hm:mconfG c m=true):bucketG (bbackG b m) m=true:=by
 have hb:=mconf_every hm
 unfold bbackG
 split
 ·rename_i h1
  simp only[Bool.and_eq_true] at h1
  unfold bucketG at h ⊢
  rw[if_pos h1.1] at h ⊢
  simp only[Bool.and_eq_true,decide_eq_true_eq] at h ⊢
  omega
 ·exact h
def wrrG (w:GWrr) (c:GConf):Bool:=confG c&&(masterG c w.at_&&decide (0≤w.credit∧w.credit≤turnG c w.at_))
theorem s_WrrOk_eq (w:GWrr) (c:GConf) (hl:c.masters.length < 1048577):p_s_WrrOk w c=some (wrrG w c):=by
 unfold p_s_WrrOk wrrG
 rw[s_ConfOk_eq c hl,Option.bind_some,l1In_eq,Option.bind_some,last_eq _ hl,s_TurnOf_eq c _ hl,Option.bind_some,l1In_eq,Option.bind_some]
 by_cases h1:confG c=true<;>by_cases h2:masterG c w.at_=true<;>simp[h1,h2]
theorem i_WrrOk_eq (w:GWrr) (c:GConf) (hl:c.masters.length < 1048577):p_i_WrrOk w c=some (wrrG w c):=by
 unfold p_i_WrrOk wrrG
 rw[i_ConfOk_eq c hl,Option.bind_some,i_isMaster_eq c _ hl,Option.bind_some,i_TurnOf_eq c _ hl,Option.bind_some,within_eq,Option.bind_some]
 by_cases h1:confG c=true<;>by_cases h2:masterG c w.at_=true<;>simp[h1,h2]
def wseekG (w:GWrr) (c:GConf) (wants:List Bool):Nat→Int→GWrr×Int
 | 0,_=>(⟨w.at_,0⟩,-1)
 | r+1,k=>if atI wants ((w.at_+k) % (wants.length:Int))=true then (⟨(w.at_+k) % (wants.length:Int),turnG c ((w.at_+k) % (wants.length:Int)) - 1⟩,(w.at_+k) % (wants.length:Int)) else wseekG w c wants r (k+1)
def wpickG (w:GWrr) (c:GConf) (wants:List Bool):GWrr×Int:=if (decide (0 < w.credit)&&atI wants w.at_)=true then (⟨w.at_,w.credit - 1⟩,w.at_) else wseekG w c wants wants.length 1
def wbackG (w:GWrr) (c:GConf) (who:Int):GWrr:=if w.at_=who then ⟨w.at_,min (w.credit+1) (turnG c who)⟩ else w
theorem wrr_parts {w:GWrr} {c:GConf} (h:wrrG w c=true):confG c=true∧masterG c w.at_=true∧0≤w.credit∧w.credit≤turnG c w.at_:=by
 simp only[wrrG,Bool.and_eq_true,decide_eq_true_eq] at h
 exact⟨h.1,h.2.1,h.2.2.1,h.2.2.2⟩
theorem seek_eq (w:GWrr) (c:GConf) (wants:List Bool) (h:wrrG w c=true) (hn:wants.length=c.masters.length):∀(m r:Nat) (k:Int),r < m→k+r=wants.length+1→1≤k→p_i_WrrPick__L1 w c wants m k=some (wseekG w c wants r k)∧p_s_WrrPick__L1 w c wants m k=some (wseekG w c wants r k):=by
 obtain⟨hc,hm,h1,h2⟩:=wrr_parts h
 have hl:=conf_len hc
 have hl2:=conf_lt hc
 simp only[masterG,decide_eq_true_eq] at hm
 intro m
 induction m with
 | zero=>intro r k hr;omega
 | succ m ih=>
  intro r k hr hk h1k
  show p_i_WrrPick__L1b w c wants _ k=_∧p_s_WrrPick__L1b w c wants _ k=_
  unfold p_i_WrrPick__L1b p_s_WrrPick__L1b
  rw[←hn]
  cases r with
  | zero=>
   rw[if_neg (by simp;omega),if_neg (by simp;omega)]
   exact⟨rfl,rfl⟩
  | succ r=>
   have h0:0≤(w.at_+k) % (wants.length:Int):=Int.emod_nonneg _ (by omega)
   have h0':(w.at_+k) % (wants.length:Int) < (wants.length:Int):=Int.emod_lt_of_pos _ (by omega)
   have hmm:masterG c ((w.at_+k) % (wants.length:Int))=true:=by
    simp only[masterG,decide_eq_true_eq];omega
   have ht:=turnG_pos hc hmm
   rw[if_pos (by simp;omega),if_pos (by simp;omega),nzI_of (by omega),Option.bind_some,Option.bind_some,addW_of (a:=w.at_) (by omega) (by omega),remW_of (by omega),idx_at h0 h0',Option.bind_some,Option.bind_some,i_TurnOf_eq c _ hl2,s_TurnOf_eq c _ hl2,Option.bind_some,subW_of (by omega) (by omega),addW_of (a:=k) (by omega) (by omega)]
   have:=ih r (k+1) (by omega) (by omega) (by omega)
   simp only[wseekG]
   by_cases hq:atI wants ((w.at_+k) % (wants.length:Int))=true
   ·simp[hq]
   ·simp only[hq,if_false,Bool.false_eq_true]
    exact this
theorem i_WrrPick_eq (w:GWrr) (c:GConf) (wants:List Bool) (h:wrrG w c=true) (hn:wants.length=c.masters.length):p_i_WrrPick w c wants=some (wpickG w c wants):=by
 obtain⟨hc,hm,h1,h2⟩:=wrr_parts h
 have hl:=conf_len hc
 have hl2:=conf_lt hc
 simp only[masterG,decide_eq_true_eq] at hm
 have hs:=(seek_eq w c wants h hn FU wants.length 1 (by have:=FU_big;omega) (by omega) (by omega)).1
 have ht:=turnG_le c w.at_
 unfold p_i_WrrPick p_i_WrrPick__J2 p_i_WrrPick__J3 wpickG
 rw[i_WrrOk_eq w c hl2,Option.bind_some,h,idx_at hm.1 (by omega),Option.bind_some,hs,subW_of (by omega) (by omega)]
 have h3:¬((wants.length:Int)≠(c.masters.length:Int)):=by omega
 by_cases h4:0 < w.credit<;>by_cases h5:atI wants w.at_=true<;>simp[h3,h4,h5]
theorem i_WrrBack_eq (w:GWrr) (c:GConf) (who:Int) (h:wrrG w c=true):p_i_WrrBack w c who=some (wbackG w c who):=by
 obtain⟨hc,hm,h1,h2⟩:=wrr_parts h
 have hl2:=conf_lt hc
 have ht:=turnG_le c w.at_
 unfold p_i_WrrBack p_i_WrrBack__J1 wbackG
 rw[i_WrrOk_eq w c hl2,Option.bind_some,h,i_TurnOf_eq c _ hl2,Option.bind_some,addW_of (by omega) (by omega),minI_eq]
 by_cases h4:w.at_=who
 ·simp[h4]
 ·have:¬who=w.at_:=fun h=>h4 h.symm
  simp[h4,this]
theorem wback_ok {w:GWrr} {c:GConf} (who:Int) (h:wrrG w c=true):wrrG (wbackG w c who) c=true:=by
 obtain⟨hc,hm,h1,h2⟩:=wrr_parts h
 unfold wbackG
 split
 ·rename_i h4
  subst h4
  have ht:=turnG_le c w.at_
  simp only[wrrG,Bool.and_eq_true,decide_eq_true_eq]
  exact⟨hc,hm,by omega,by omega⟩
 ·exact h
theorem wseek_ok {w:GWrr} {c:GConf} {wants:List Bool} (h:wrrG w c=true) (hn:wants.length=c.masters.length):∀(r:Nat) (k:Int),1≤k→wrrG (wseekG w c wants r k).1 c=true∧((wseekG w c wants r k).2=-1∨(masterG c (wseekG w c wants r k).2=true∧atI wants (wseekG w c wants r k).2=true)):=by
 obtain⟨hc,hm,h1,h2⟩:=wrr_parts h
 have hl:=conf_len hc
 intro r
 induction r with
 | zero=>
  intro k _
  refine⟨?_,.inl rfl⟩
  simp only[wseekG]
  simp only[wrrG,Bool.and_eq_true,decide_eq_true_eq]
  exact⟨hc,hm,by omega,by omega⟩
 | succ r ih=>
  intro k hk
  simp only[wseekG]
  split
  ·rename_i hq
   have h0:0≤(w.at_+k) % (wants.length:Int):=Int.emod_nonneg _ (by omega)
   have h0':(w.at_+k) % (wants.length:Int) < (wants.length:Int):=Int.emod_lt_of_pos _ (by omega)
   have hmm:masterG c ((w.at_+k) % (wants.length:Int))=true:=by
    simp only[masterG,decide_eq_true_eq];omega
   have ht:=turnG_pos hc hmm
   refine⟨?_,.inr ⟨hmm,hq⟩⟩
   simp only[wrrG,Bool.and_eq_true,decide_eq_true_eq]
   exact⟨hc,hmm,by omega,by omega⟩
  ·exact ih (k+1) (by omega)
theorem wpick_ok {w:GWrr} {c:GConf} {wants:List Bool} (h:wrrG w c=true) (hn:wants.length=c.masters.length):wrrG (wpickG w c wants).1 c=true∧((wpickG w c wants).2=-1∨(masterG c (wpickG w c wants).2=true∧atI wants (wpickG w c wants).2=true)):=by
 obtain⟨hc,hm,h1,h2⟩:=wrr_parts h
 unfold wpickG
 split
 ·rename_i h3
  simp only[Bool.and_eq_true,decide_eq_true_eq] at h3
  refine⟨?_,.inr ⟨hm,h3.2⟩⟩
  simp only[wrrG,Bool.and_eq_true,decide_eq_true_eq]
  exact⟨hc,hm,by omega,by omega⟩
 ·exact wseek_ok h hn _ _ (by omega)
end Go.Proofs.YtciimjnpdmmfnaaGreat.Ev
namespace Go.Proofs.YtciimjnpdmmfnaaGreat.Ev
open Go Go.Proofs
set_option linter.unusedVariables false
set_option linter.unusedSimpArgs false
def bytesG (s:Int):Int:=if s=0 then 1 else if s=1 then 2 else if s=2 then 4 else 0
def limitG (s:Int):Int:=if s=0 then 256 else if s=1 then 65536 else if s=2 then 4294967296 else 0
def beatsG (b:Int):Int:=if b=0 then 1 else if b=1 then 4 else if b=2 then 4 else if b=3 then 8 else 0
theorem bytesG_le (s:Int):0≤bytesG s∧bytesG s≤4:=by unfold bytesG;repeat' split<;>omega
theorem limitG_le (s:Int):0≤limitG s∧limitG s≤4294967296:=by unfold limitG;repeat' split<;>omega
theorem beatsG_le (b:Int):0≤beatsG b∧beatsG b≤8:=by unfold beatsG;repeat' split<;>omega
theorem s_BytesOf_eq (s:Int):p_s_BytesOf s=some (bytesG s):=by
 unfold p_s_BytesOf
 rw[l1In_eq,Option.bind_some]
 by_cases h:0≤s∧s≤2
 ·have:s=0∨s=1∨s=2:=by omega
  rcases this with rfl|rfl|rfl<;>rfl
 ·have:bytesG s=0:=by unfold bytesG;repeat' split<;>omega
  simp[h,this]
theorem i_BytesOf_eq (s:Int):p_i_BytesOf s=some (bytesG s):=by
 rw[←s_BytesOf_eq]
 unfold p_i_BytesOf p_s_BytesOf
 rw[within_eq,l1In_eq]
theorem s_BeatsOf_eq (b:Int):p_s_BeatsOf b=some (beatsG b):=by
 unfold p_s_BeatsOf
 rw[l1In_eq,Option.bind_some]
 by_cases h:0≤b∧b≤3
 ·have:b=0∨b=1∨b=2∨b=3:=by omega
  rcases this with rfl|rfl|rfl|rfl<;>rfl
 ·have:beatsG b=0:=by unfold beatsG;repeat' split<;>omega
  simp[h,this]
theorem i_BeatsOf_eq (b:Int):p_i_BeatsOf b=some (beatsG b):=by
 rw[←s_BeatsOf_eq]
 unfold p_i_BeatsOf p_s_BeatsOf
 rw[within_eq,l1In_eq]
theorem s_LimitOf_eq (s:Int):p_s_LimitOf s=some (limitG s):=by
 unfold p_s_LimitOf
 rw[s_BytesOf_eq,Option.bind_some,Option.bind_some]
 by_cases h:s=0∨s=1∨s=2
 ·rcases h with rfl|rfl|rfl<;>rfl
 ·have h1:bytesG s=0:=by unfold bytesG;repeat' split<;>omega
  have h2:limitG s=0:=by unfold limitG;repeat' split<;>omega
  simp[h1,h2]
theorem i_LimitOf_eq (s:Int):p_i_LimitOf s=some (limitG s):=by
 rw[←s_LimitOf_eq]
 unfold p_i_LimitOf p_s_LimitOf
 simp only[i_BytesOf_eq,s_BytesOf_eq]
def numG (v s:Int):Bool:=decide (0≤v∧v < limitG s)
theorem i_isNum_eq (v s:Int):p_i_isNum v s=some (numG v s):=by
 have:=limitG_le s
 unfold p_i_isNum numG
 rw[i_LimitOf_eq,Option.bind_some,within_eq,Option.bind_some,subW_of (by omega) (by omega)]
 congr 2
 apply propext
 omega
theorem s_num_eq (v s:Int):p_s_l1In v 0 (subW (limitG s) 1)=some (numG v s):=by
 have:=limitG_le s
 unfold numG
 rw[l1In_eq,subW_of (by omega) (by omega)]
 congr 2
 apply propext
 omega
def alignedG (a s:Int):Bool:=decide (0 < bytesG s)&&(decide (0≤a)&&decide (a % bytesG s=0))
theorem s_Aligned_eq (a s:Int):p_s_Aligned a s=some (alignedG a s):=by
 unfold p_s_Aligned alignedG
 rw[s_BytesOf_eq,Option.bind_some,Option.bind_some]
 by_cases h1:0 < bytesG s
 ·by_cases h2:0≤a
  ·rw[nzI_of (by omega),remW_of h2];simp[h1,h2]
  ·simp[h1,h2]
 ·simp[h1]
theorem bytes_pos (s:Int):0 < bytesG s↔(0≤s∧s≤2):=by
 unfold bytesG
 repeat' split<;>omega
theorem i_Aligned_eq (a s:Int):p_i_Aligned a s=some (alignedG a s):=by
 unfold p_i_Aligned alignedG
 rw[within_eq,Option.bind_some,i_BytesOf_eq,Option.bind_some]
 by_cases h1:0 < bytesG s
 ·have h3:=(bytes_pos s).1 h1
  by_cases h2:0≤a
  ·rw[nzI_of (by omega),remW_of h2];simp[h1,h2,h3]
  ·simp[h1,h2,h3]
 ·have h3:¬(0≤s∧s≤2):=fun h=>h1 ((bytes_pos s).2 h)
  simp[h1,h3]
def nextG (a s b:Int):Int:=if (alignedG a s=true∧a < 512)∧beatsG b≠0 then (if b=2∧(a+bytesG s) % (4*bytesG s)=0 then a+bytesG s - 4*bytesG s else a+bytesG s) else -1
theorem aligned_parts {a s:Int} (h:alignedG a s=true):0 < bytesG s∧0≤a∧a % bytesG s=0:=by
 simpa [alignedG,Bool.and_eq_true,decide_eq_true_eq] using h
theorem s_NextAddr_eq (a s b:Int):p_s_NextAddr a s b=some (nextG a s b):=by
 have hb:=bytesG_le s
 unfold p_s_NextAddr p_s_NextAddr__J1 p_s_NextAddr__J2 nextG
 rw[s_BytesOf_eq,Option.bind_some,s_Aligned_eq,Option.bind_some,l1In_eq,Option.bind_some,s_BeatsOf_eq,Option.bind_some]
 by_cases h1:alignedG a s=true
 ·obtain⟨h2,h3,h4⟩:=aligned_parts h1
  by_cases h5:a < 512
  ·have h6:0≤a∧a≤511:=by omega
   rw[mulW_of (by omega) (by omega),addW_of (by omega) (by omega),subW_of (by omega) (by omega),nzI_of (by omega),remW_of (by omega)]
   by_cases h7:beatsG b=0
   ·simp[h1,h5,h6,h7]
   ·by_cases h8:b=2
    ·subst h8
     by_cases h9:(a+bytesG s) % (4*bytesG s)=0<;>simp[h1,h5,h6,h7,h9]
    ·simp[h1,h5,h6,h7,h8]
  ·have h6:¬(0≤a∧a≤511):=by omega
   simp[h1,h5,h6]
 ·simp[h1]
theorem i_NextAddr_eq (a s b:Int):p_i_NextAddr a s b=some (nextG a s b):=by
 have hb:=bytesG_le s
 unfold p_i_NextAddr p_i_NextAddr__J1 nextG
 rw[i_Aligned_eq,Option.bind_some,i_BytesOf_eq,Option.bind_some,Option.bind_some,i_BeatsOf_eq,Option.bind_some]
 by_cases h1:alignedG a s=true
 ·obtain⟨h2,h3,h4⟩:=aligned_parts h1
  by_cases h5:a < 512
  ·have h6:¬a≥512:=by omega
   rw[mulW_of (by omega) (by omega),addW_of (by omega) (by omega),subW_of (by omega) (by omega),nzI_of (by omega),remW_of (by omega)]
   by_cases h7:beatsG b=0
   ·simp[h1,h5,h6,h7]
   ·by_cases h8:b=2
    ·subst h8
     by_cases h9:(a+bytesG s) % (4*bytesG s)=0<;>simp[h1,h5,h6,h7,h9]
    ·simp[h1,h5,h6,h7,h8]
  ·have h6:a≥512:=by omega
   simp[h1,h5,h6]
 ·simp[h1]
theorem next_nonneg {a s b:Int} (h:0≤nextG a s b):alignedG a s=true∧a < 512:=by
 unfold nextG at h
 split at h
 ·rename_i h1;exact h1.1
 ·omega
def addrsL (s b:Int):Nat→Int→Option (List Int)
 | 0,_=>some []
 | n+1,a=>if nextG a s b < 0 then none else (addrsL s b n (nextG a s b)).map (a::·)
def addrsG (a s b:Int):List Int:=(addrsL s b (beatsG b).toNat a).getD []
theorem i_BurstAddrs_eq (a s b:Int):p_i_BurstAddrs a s b=some (addrsG a s b):=by
 have hb:=beatsG_le b
 unfold p_i_BurstAddrs
 rw[i_BeatsOf_eq,Option.bind_some]
 have key:∀(n m:Nat) (x:Int) (out:List Int) (k:Nat),n < m→(k:Int)+n=beatsG b→out.length=k→p_i_BurstAddrs__L1 a s b m x out (beatsG b) k=some (match addrsL s b n x with|some l=>out++l|none=>[]):=by
  intro n
  induction n with
  | zero=>
   intro m x out k hm hk ho
   obtain⟨m,rfl⟩:∃m',m=m'+1:=⟨m - 1,by omega⟩
   show p_i_BurstAddrs__L1b a s b _ x out (beatsG b) k=_
   unfold p_i_BurstAddrs__L1b
   rw[if_neg (by simp;omega)]
   simp[addrsL]
  | succ n ih=>
   intro m x out k hm hk ho
   obtain⟨m,rfl⟩:∃m',m=m'+1:=⟨m - 1,by omega⟩
   show p_i_BurstAddrs__L1b a s b _ x out (beatsG b) k=_
   unfold p_i_BurstAddrs__L1b
   rw[if_pos (by simp;omega),i_NextAddr_eq,Option.bind_some]
   simp only[addrsL]
   by_cases h1:nextG x s b < 0
   ·rw[if_pos (by simpa using h1),if_pos h1]
   ·rw[if_neg (by simpa using h1),if_neg h1,appI_of (by simp;omega) (by simp;omega),Option.bind_some,addW_nat (by omega),ih m _ _ (k+1) (by omega) (by omega) (by simp[ho])]
    cases addrsL s b n (nextG x s b)<;>simp
 have:=key (beatsG b).toNat FU a [] 0 (by have:=FU_big;omega) (by omega) rfl
 rw[show ((0:Nat):Int)=0 from rfl] at this
 rw[this]
 unfold addrsG
 cases addrsL s b (beatsG b).toNat a<;>simp
theorem s_BurstAddrs_eq (a s b:Int):p_s_BurstAddrs a s b=some (addrsG a s b):=by
 have hb:=beatsG_le b
 unfold p_s_BurstAddrs
 have key:∀(n m:Nat) (x:Int) (out:List Int),n < m→(out.length:Int)+n=beatsG b→p_s_BurstAddrs__L1 a s b m x out=some (match addrsL s b n x with|some l=>out++l|none=>[]):=by
  intro n
  induction n with
  | zero=>
   intro m x out hm hk
   obtain⟨m,rfl⟩:∃m',m=m'+1:=⟨m - 1,by omega⟩
   show p_s_BurstAddrs__L1b a s b _ x out=_
   unfold p_s_BurstAddrs__L1b p_s_BurstAddrs__J2
   have h1:¬((out.length:Int) < beatsG b):=by omega
   simp[s_BeatsOf_eq,h1,addrsL]
  | succ n ih=>
   intro m x out hm hk
   obtain⟨m,rfl⟩:∃m',m=m'+1:=⟨m - 1,by omega⟩
   show p_s_BurstAddrs__L1b a s b _ x out=_
   unfold p_s_BurstAddrs__L1b p_s_BurstAddrs__J2
   have h1:(out.length:Int) < beatsG b:=by omega
   simp only[s_BeatsOf_eq,s_NextAddr_eq,Option.bind_some,h1,decide_true,if_true,addrsL,decide_eq_true_eq]
   by_cases h2:nextG x s b < 0
   ·have h3:¬(nextG x s b≥0):=by omega
    rw[if_neg h3,if_pos h2]
   ·have h3:nextG x s b≥0:=by omega
    rw[if_pos h3,if_neg h2,appI_of (by simp;omega) (by simp;omega),Option.bind_some,ih m _ _ (by omega) (by simp;omega)]
    cases addrsL s b n (nextG x s b)<;>simp
 have:=key (beatsG b).toNat FU a [] (by have:=FU_big;omega) (by simp;omega)
 rw[this]
 unfold addrsG
 cases addrsL s b (beatsG b).toNat a<;>simp
theorem addrsL_ok {s b:Int}:∀{n:Nat} {a:Int} {l:List Int},addrsL s b n a=some l→l.length=n∧(∀x∈l,alignedG x s=true∧x < 512)∧(0 < n→l.head?=some a):=by
 intro n
 induction n with
 | zero=>intro a l h;simp only[addrsL,Option.some.injEq] at h;subst h;simp
 | succ n ih=>
  intro a l h
  simp only[addrsL] at h
  split at h
  ·cases h
  ·rename_i h1
   obtain⟨l',h2,rfl⟩:=Option.map_eq_some_iff.1 h
   obtain⟨h3,h4,_⟩:=ih h2
   refine⟨by simp[h3],fun x hx=>?_,fun _=>rfl⟩
   rcases List.mem_cons.1 hx with rfl|hx
   ·exact next_nonneg (s:=s) (b:=b) (by omega)
   ·exact h4 x hx
theorem addrsG_len (a s b:Int):addrsG a s b=[]∨((addrsG a s b).length:Int)=beatsG b:=by
 unfold addrsG
 have hb:=beatsG_le b
 cases h:addrsL s b (beatsG b).toNat a with
 | none=>exact .inl rfl
 | some l=>
  have:=(addrsL_ok h).1
  exact .inr (by simp only[Option.getD_some];omega)
theorem addrsG_mem {a s b x:Int} (h:x∈addrsG a s b):alignedG x s=true∧0≤x∧x < 512:=by
 unfold addrsG at h
 cases h2:addrsL s b (beatsG b).toNat a with
 | none=>rw[h2] at h;simp at h
 | some l=>
  rw[h2] at h
  have:=(addrsL_ok h2).2.1 x h
  exact⟨this.1,(aligned_parts this.1).2.1,this.2⟩
theorem addrsG_le (a s b:Int):(addrsG a s b).length≤8:=by
 have:=beatsG_le b
 rcases addrsG_len a s b with h|h
 ·rw[h];simp
 ·omega
def burstG (a s b:Int):Bool:=(addrsG a s b).all (fun x=>decide (x / 64=atI (addrsG a s b) 0 / 64))&&decide (addrsG a s b≠[])
theorem page_eq {x:Int} (h0:0≤x) (h1:x < 512):quoW x 64=x / 64:=quoW_of h0 (by omega) (by omega)
theorem i_BurstOk_eq (a s b:Int):p_i_BurstOk a s b=some (burstG a s b):=by
 unfold p_i_BurstOk burstG
 rw[i_BurstAddrs_eq,Option.bind_some]
 generalize hA:addrsG a s b=l
 have hm:∀x∈l,0≤x∧x < 512:=fun x hx=>by rw[←hA] at hx;exact (addrsG_mem hx).2
 have hl:l.length≤8:=by rw[←hA];exact addrsG_le a s b
 have key:∀(m k:Nat),k≤l.length→l.length - k < m→p_i_BurstOk__L1 a s b m l (l.length:Int) k=some ((l.drop k).all (fun x=>decide (x / 64=atI l 0 / 64))&&decide (l≠[])):=by
  intro m
  induction m with
  | zero=>intro k _ h;omega
  | succ m ih=>
   intro k hk hm2
   show p_i_BurstOk__L1b a s b _ l (l.length:Int) k=_
   unfold p_i_BurstOk__L1b
   by_cases hc:k < l.length
   ·have h0:=hm _ (List.getElem_mem hc)
    have h1:=hm _ (List.getElem_mem (by omega:0 < l.length))
    rw[if_pos (by simpa using hc),idx_get hc,Option.bind_some,show (0:Int)=((0:Nat):Int) from rfl,idx_get (by omega:0 < l.length),Option.bind_some,page_eq h0.1 h0.2,page_eq h1.1 h1.2,at_nat (by omega:0 < l.length),List.drop_eq_getElem_cons hc,List.all_cons]
    by_cases hq:(l[k]:Int) / (64:Int)=(l[0]:Int) / (64:Int)
    ·rw[if_neg (by simpa using hq),addW_nat (by omega),ih (k+1) (by omega) (by omega),show (0:Int)=((0:Nat):Int) from rfl,at_nat (by omega:0 < l.length),decide_eq_true hq,Bool.true_and]
    ·rw[if_pos (by simpa using hq),decide_eq_false hq,Bool.false_and,Bool.false_and]
   ·rw[if_neg (by simpa using hc),List.drop_eq_nil_of_le (by omega)]
    simp[List.length_pos_iff]
 have:=key FU 0 (Nat.zero_le _) (by have:=FU_big;omega)
 simpa using this
theorem s_BurstOk_eq (a s b:Int):p_s_BurstOk a s b=some (burstG a s b):=by
 unfold p_s_BurstOk burstG
 rw[s_BurstAddrs_eq,Option.bind_some]
 generalize hA:addrsG a s b=l
 have hm:∀x∈l,0≤x∧x < 512:=fun x hx=>by rw[←hA] at hx;exact (addrsG_mem hx).2
 have hl:l.length≤8:=by rw[←hA];exact addrsG_le a s b
 have key:∀(m k:Nat),k≤l.length→l.length - k < m→p_s_BurstOk__L1 a s b m l k=some ((l.drop k).all (fun x=>decide (x / 64=atI l 0 / 64))&&decide (l≠[])):=by
  intro m
  induction m with
  | zero=>intro k _ h;omega
  | succ m ih=>
   intro k hk hm2
   show p_s_BurstOk__L1b a s b _ l k=_
   unfold p_s_BurstOk__L1b
   by_cases hc:k < l.length
   ·have h0:=hm _ (List.getElem_mem hc)
    have h1:=hm _ (List.getElem_mem (by omega:0 < l.length))
    rw[if_pos (by simpa using hc),idx_get hc,Option.bind_some,show (0:Int)=((0:Nat):Int) from rfl,idx_get (by omega:0 < l.length),Option.bind_some,page_eq h0.1 h0.2,page_eq h1.1 h1.2,at_nat (by omega:0 < l.length),List.drop_eq_getElem_cons hc,List.all_cons]
    by_cases hq:(l[k]:Int) / (64:Int)=(l[0]:Int) / (64:Int)
    ·rw[if_neg (by simpa using hq),addW_nat (by omega),ih (k+1) (by omega) (by omega),show (0:Int)=((0:Nat):Int) from rfl,at_nat (by omega:0 < l.length),decide_eq_true hq,Bool.true_and]
    ·rw[if_pos (by simpa using hq),decide_eq_false hq,Bool.false_and,Bool.false_and]
   ·rw[if_neg (by simpa using hc),List.drop_eq_nil_of_le (by omega)]
    simp[List.length_pos_iff]
 have:=key FU 0 (Nat.zero_le _) (by have:=FU_big;omega)
 simpa using this
instance:Inhabited GReq:=⟨GReq.z0⟩
def reqG (r:GReq):Bool:=burstG r.addr r.size r.burst&&(decide ((r.data_.length:Int)=if r.write then beatsG r.burst else 0)&&r.data_.all fun v=>numG v r.size)
def GReq.sm (r:GReq):Prop:=r.data_.length < 1048577
theorem i_ReqOk_eq (r:GReq) (hs:r.sm):p_i_ReqOk r=some (reqG r):=by
 unfold GReq.sm at hs
 have hf:p_slices_ContainsFunc_int_int__i_ReqOk_1 r.data_ r=some (!r.data_.all fun v=>numG v r.size):=by
  unfold p_slices_ContainsFunc_int_int__i_ReqOk_1 p_slices_IndexFunc_int_int__i_ReqOk_1
  refine find_list r.data_ (by omega) (fun v=>p_i_ReqOk_1 v r) (fun v=>numG v r.size) (fun v _=>?_) _ (fun m i=>rfl)
  unfold p_i_ReqOk_1
  rw[i_isNum_eq];rfl
 unfold p_i_ReqOk p_i_ReqOk__J1 reqG
 rw[i_BeatsOf_eq,Option.bind_some,i_BurstOk_eq,Option.bind_some,hf,Option.bind_some,Bool.not_not]
 by_cases h1:burstG r.addr r.size r.burst=true
 ·by_cases h2:r.write=true
  ·by_cases h3:(r.data_.length:Int)=beatsG r.burst<;>simp[h1,h2,h3]
  ·by_cases h3:r.data_=[]<;>simp[h1,h2,h3]
 ·by_cases h2:r.write=true<;>simp[h1,h2]
theorem s_ReqOk_eq (r:GReq) (hs:r.sm):p_s_ReqOk r=some (reqG r):=by
 unfold GReq.sm at hs
 unfold p_s_ReqOk
 rw[s_BurstOk_eq,Option.bind_some]
 have hb:=beatsG_le r.burst
 have key:∀(m k:Nat),k≤r.data_.length→r.data_.length - k < m→p_s_ReqOk__L1 r m k=some (decide ((r.data_.length:Int)=if r.write then beatsG r.burst else 0)&&(r.data_.drop k).all fun v=>numG v r.size):=by
  intro m
  induction m with
  | zero=>intro k _ h;omega
  | succ m ih=>
   intro k hk hm
   show p_s_ReqOk__L1b r _ k=_
   unfold p_s_ReqOk__L1b
   by_cases hc:k < r.data_.length
   ·rw[if_pos (by simpa using hc),idx_get hc,Option.bind_some,s_LimitOf_eq,Option.bind_some,s_num_eq,Option.bind_some,List.drop_eq_getElem_cons hc,List.all_cons]
    by_cases hq:numG r.data_[k] r.size=true
    ·rw[if_neg (by simp[hq]),addW_nat (by omega),ih (k+1) (by omega) (by omega)]
     simp[hq]
    ·rw[if_pos (by simp[hq])]
     simp[hq]
   ·rw[if_neg (by simpa using hc),List.drop_eq_nil_of_le (by omega),s_BeatsOf_eq]
    cases h2:r.write<;>simp only[if_true,if_false,Bool.false_eq_true,Option.bind_some,List.all_nil,Bool.and_true]<;>generalize decide ((r.data_.length:Int)=0)=x<;>generalize decide ((r.data_.length:Int)=beatsG r.burst)=y<;>cases x<;>cases y<;>rfl
 have:=key FU 0 (Nat.zero_le _) (by have:=FU_big;omega)
 unfold reqG
 by_cases h1:burstG r.addr r.size r.burst=true
 ·rw[if_neg (by simp[h1]),show (0:Int)=((0:Nat):Int) from rfl,this]
  simp[h1]
 ·rw[if_pos (by simp[h1])]
  simp[h1]
theorem req_parts {r:GReq} (h:reqG r=true):burstG r.addr r.size r.burst=true∧(r.data_.length:Int)=(if r.write then beatsG r.burst else 0)∧∀v∈r.data_,numG v r.size=true:=by
 simp only[reqG,Bool.and_eq_true,decide_eq_true_eq,List.all_eq_true] at h
 exact⟨h.1,h.2.1,h.2.2⟩
theorem burst_len {a s b:Int} (h:burstG a s b=true):((addrsG a s b).length:Int)=beatsG b∧1≤beatsG b:=by
 simp only[burstG,Bool.and_eq_true,decide_eq_true_eq] at h
 rcases addrsG_len a s b with h1|h1
 ·exact absurd h1 h.2
 ·have:0 < (addrsG a s b).length:=List.length_pos_iff.2 h.2
  omega
theorem req_sm {r:GReq} (h:reqG r=true):r.sm:=by
 have:=(req_parts h).2.1
 have hb:=beatsG_le r.burst
 unfold GReq.sm
 split at this<;>omega
theorem ownReq_eq (r:GReq) (hs:r.sm):p_i_ownReq r=some r:=by
 unfold GReq.sm at hs
 unfold p_i_ownReq p_slices_Clone_int_int
 rw[appI_of (by simp;omega) (by simp;omega)]
 rfl
end Go.Proofs.YtciimjnpdmmfnaaGreat.Ev
namespace Go.Proofs.YtciimjnpdmmfnaaGreat.Ev
open Go Go.Proofs
set_option linter.unusedVariables false
set_option linter.unusedSimpArgs false
instance:Inhabited GMst:=⟨GMst.z0⟩
def mbeatsG (m:GMst):Int:=if m.queue=[] then 0 else beatsG (atI m.queue 0).burst
theorem mbeatsG_le (m:GMst):0≤mbeatsG m∧mbeatsG m≤8:=by
 unfold mbeatsG
 have:=beatsG_le (atI m.queue 0).burst
 split<;>omega
def rightG (m:GMst):Bool:=decide (m.queue.length≤4)&&(decide (0≤m.tries)&&(m.queue.all reqG&&
 (if m.queue=[] then decide (m.beat=0)&&(decide (m.done=0)&&(decide (m.tries=0)&&(!m.parted&&!m.broken))) else decide (0≤m.done∧m.done≤mbeatsG m - 1)&&decide (m.done≤m.beat∧m.beat≤min (m.done+2) (mbeatsG m)))))
def GMst.sm (m:GMst):Prop:=m.queue.length < 1048577∧∀r∈m.queue,r.sm
structure RightP (m:GMst):Prop where
 len:m.queue.length≤4
 tries:0≤m.tries
 reqs:∀r∈m.queue,reqG r=true
 none:m.queue=[]→m.beat=0∧m.done=0∧m.tries=0∧m.parted=false∧m.broken=false
 some:m.queue≠[]→0≤m.done∧m.done < mbeatsG m∧m.done≤m.beat∧m.beat≤m.done+2∧m.beat≤mbeatsG m
theorem right_iff {m:GMst}:rightG m=true↔RightP m:=by
 unfold rightG
 by_cases h:m.queue=[]
 ·constructor
  ·intro h1
   simp only[h,if_true,Bool.and_eq_true,decide_eq_true_eq,Bool.not_eq_true'] at h1
   exact⟨by simp[h],h1.2.1,by simp[h],fun _=>⟨h1.2.2.2.1,h1.2.2.2.2.1,h1.2.2.2.2.2.1,h1.2.2.2.2.2.2.1,h1.2.2.2.2.2.2.2⟩,fun h2=>absurd h h2⟩
  ·intro h1
   obtain⟨h2,h3,h4,h5,h6⟩:=h1.none h
   simp[h,h2,h3,h4,h5,h6]
 ·constructor
  ·intro h1
   rw[if_neg h] at h1
   simp only[Bool.and_eq_true,decide_eq_true_eq,List.all_eq_true] at h1
   exact⟨h1.1,h1.2.1,h1.2.2.1,fun h2=>absurd h2 h,fun _=>by omega⟩
  ·intro h1
   have h2:=h1.some h
   rw[if_neg h]
   simp only[Bool.and_eq_true,decide_eq_true_eq,List.all_eq_true]
   exact⟨h1.len,h1.tries,h1.reqs,by omega,by omega⟩
theorem RightP.sm {m:GMst} (h:RightP m):m.sm:=⟨by have:=h.len;omega,fun r hr=>req_sm (h.reqs r hr)⟩
theorem i_beats_eq (m:GMst):p_i_Mst_beats m=some (mbeatsG m):=by
 unfold p_i_Mst_beats mbeatsG
 by_cases h:m.queue=[]
 ·simp[h]
 ·have h1:0 < m.queue.length:=List.length_pos_iff.2 h
  rw[if_neg (by simpa using h),if_neg h,idx_at (by omega) (by omega),Option.bind_some,i_BeatsOf_eq]
  rfl
theorem s_beats_eq (m:GMst):p_s_l12Beats m=some (mbeatsG m):=by
 unfold p_s_l12Beats mbeatsG
 by_cases h:m.queue=[]
 ·simp[h]
 ·have h1:0 < m.queue.length:=List.length_pos_iff.2 h
  rw[if_neg (by simpa using h),if_neg h,idx_at (by omega) (by omega),Option.bind_some,s_BeatsOf_eq]
  rfl
theorem i_isConsistent_eq (m:GMst) (hs:m.sm):p_i_isConsistent m=some (rightG m):=by
 have hf:p_slices_ContainsFunc_Req_Req__i_isConsistent_1 m.queue=some (!m.queue.all reqG):=by
  unfold p_slices_ContainsFunc_Req_Req__i_isConsistent_1 p_slices_IndexFunc_Req_Req__i_isConsistent_1
  refine find_list m.queue (by have:=hs.1;omega) p_i_isConsistent_1 reqG (fun r hr=>?_) _ (fun m i=>rfl)
  unfold p_i_isConsistent_1
  rw[i_ReqOk_eq r (hs.2 r hr)];rfl
 have hb:=mbeatsG_le m
 have hJ:p_i_isConsistent__J1 m false=some (if m.queue=[] then decide (m.beat=0)&&(decide (m.done=0)&&(decide (m.tries=0)&&(!m.parted&&!m.broken))) else decide (0≤m.done∧m.done≤mbeatsG m - 1)&&decide (m.done≤m.beat∧m.beat≤min (m.done+2) (mbeatsG m))):=by
  unfold p_i_isConsistent__J1
  rw[i_beats_eq,Option.bind_some,Option.bind_some,within_eq,Option.bind_some,within_eq,Option.bind_some,subW_of (by omega) (by omega)]
  by_cases h:m.queue=[]
  ·rw[if_neg (by simp),if_pos (by simpa using h),if_pos h]
   by_cases h1:m.beat=0<;>by_cases h2:m.done=0<;>by_cases h3:m.tries=0<;>by_cases h4:m.parted=true<;>simp[h1,h2,h3,h4]
  ·rw[if_neg (by simp),if_neg (by simpa using h),if_neg h]
   by_cases h1:0≤m.done∧m.done≤mbeatsG m - 1
   ·rw[addW_of (by omega) (by omega),minI_eq]
    simp[h1]
   ·simp[h1]
 unfold p_i_isConsistent rightG
 rw[hf,Option.bind_some]
 by_cases h1:(m.queue.length:Int) > 4
 ·have h2:¬m.queue.length≤4:=by omega
  simp[h1,h2,p_i_isConsistent__J1]
 ·have h2:m.queue.length≤4:=by omega
  by_cases h3:m.tries < 0
  ·have h4:¬0≤m.tries:=by omega
   simp[h1,h2,h3,h4,p_i_isConsistent__J1]
  ·have h4:0≤m.tries:=by omega
   rw[if_neg (by simpa using h1),if_neg (by simpa using h3)]
   by_cases h5:m.queue.all reqG=true
   ·rw[h5,Bool.not_true,hJ]
    simp only[h2,h4,decide_true,Bool.true_and]
   ·have h6:m.queue.all reqG=false:=by simpa using h5
    rw[h6,Bool.not_false]
    simp[p_i_isConsistent__J1]
theorem s_l12Right_eq (m:GMst) (hs:m.sm):p_s_l12Right m=some (rightG m):=by
 have hb:=mbeatsG_le m
 have hJ:p_s_l12Right__J2 m false=some (if m.queue=[] then decide (m.beat=0)&&(decide (m.done=0)&&(decide (m.tries=0)&&(!m.parted&&!m.broken))) else decide (0≤m.done∧m.done≤mbeatsG m - 1)&&decide (m.done≤m.beat∧m.beat≤min (m.done+2) (mbeatsG m))):=by
  unfold p_s_l12Right__J2
  rw[s_beats_eq,Option.bind_some,Option.bind_some,l1In_eq,Option.bind_some,l1In_eq,Option.bind_some,subW_of (by omega) (by omega)]
  by_cases h:m.queue=[]
  ·rw[if_neg (by simp),if_pos (by simpa using h),if_pos h]
   by_cases h1:m.beat=0<;>by_cases h2:m.done=0<;>by_cases h3:m.tries=0<;>by_cases h4:m.parted=true<;>simp[h1,h2,h3,h4]
  ·rw[if_neg (by simp),if_neg (by simpa using h),if_neg h]
   by_cases h1:0≤m.done∧m.done≤mbeatsG m - 1
   ·rw[addW_of (by omega) (by omega),minI_eq]
    simp[h1]
   ·simp[h1]
 unfold p_s_l12Right
 have hl:=hs.1
 have key:∀(n k:Nat),k≤m.queue.length→m.queue.length - k < n→p_s_l12Right__L1 m n k=some (decide (m.queue.length≤4)&&(decide (0≤m.tries)&&((m.queue.drop k).all reqG&&
 (if m.queue=[] then decide (m.beat=0)&&(decide (m.done=0)&&(decide (m.tries=0)&&(!m.parted&&!m.broken))) else decide (0≤m.done∧m.done≤mbeatsG m - 1)&&decide (m.done≤m.beat∧m.beat≤min (m.done+2) (mbeatsG m)))))):=by
  intro n
  induction n with
  | zero=>intro k _ h;omega
  | succ n ih=>
   intro k hk hm
   show p_s_l12Right__L1b m _ k=_
   unfold p_s_l12Right__L1b
   by_cases hc:k < m.queue.length
   ·rw[if_pos (by simpa using hc),idx_get hc,Option.bind_some,s_ReqOk_eq _ (hs.2 _ (List.getElem_mem hc)),Option.bind_some,List.drop_eq_getElem_cons hc,List.all_cons]
    by_cases hq:reqG m.queue[k]=true
    ·rw[if_neg (by simp[hq]),addW_nat (by omega),ih (k+1) (by omega) (by omega)]
     simp[hq]
    ·rw[if_pos (by simp[hq])]
     simp[hq]
   ·rw[if_neg (by simpa using hc),List.drop_eq_nil_of_le (by omega)]
    by_cases h1:(m.queue.length:Int) > 4
    ·have h2:¬m.queue.length≤4:=by omega
     simp[h1,h2,p_s_l12Right__J2]
    ·have h2:m.queue.length≤4:=by omega
     by_cases h3:m.tries < 0
     ·have h4:¬0≤m.tries:=by omega
      simp[h1,h2,h3,h4,p_s_l12Right__J2]
     ·have h4:0≤m.tries:=by omega
      rw[if_neg (by simpa using h1),decide_eq_false h3,hJ]
      simp only[h2,h4,decide_true,Bool.true_and,List.all_nil]
 have:=key FU 0 (Nat.zero_le _) (by have:=FU_big;omega)
 simpa [rightG] using this
theorem i_ownMst_eq (m:GMst) (hs:m.sm):p_i_ownMst m=some m:=by
 unfold p_i_ownMst
 refine (copy_list 64 (by decide) m.queue hs.1 p_i_ownReq (fun r hr=>ownReq_eq r (hs.2 r hr)) (fun v=>some {m with queue:=v}) (p_i_ownMst__L1 m) (fun n v i=>rfl)).trans ?_
 rfl
def postG (m:GMst) (r:GReq):GMst:=if reqG r=true∧m.queue.length≠4 then {m with queue:=m.queue++[r]} else m
def wantsG (m:GMst):Bool:=decide (m.beat < mbeatsG m)
def maddrG (m:GMst) (b:Int):Int:=if 0≤b∧b≤mbeatsG m - 1 then atI (addrsG (atI m.queue 0).addr (atI m.queue 0).size (atI m.queue 0).burst) b else -1
def issueG (m:GMst):GMst:=if m.beat < mbeatsG m∧m.beat≠m.done+2 then {m with beat:=m.beat+1} else m
def backG (m:GMst):GMst:=if m.beat=m.done then m else {m with beat:=m.beat - 1}
def endG (m:GMst):GMst:=if m.beat=m.done then m else if m.done+1=mbeatsG m then GMst.mk m.queue.tail 0 0 0 false false else GMst.mk m.queue m.beat (m.done+1) 0 false m.broken
theorem right_bnd {m:GMst} (h:RightP m):0≤m.done∧m.done≤8∧0≤m.beat∧m.beat≤8:=by
 have hb:=mbeatsG_le m
 by_cases hq:m.queue=[]
 ·have:=h.none hq;omega
 ·have:=h.some hq;omega
theorem right_first {m:GMst} (h:RightP m) (hq:m.queue≠[]):reqG (atI m.queue 0)=true∧mbeatsG m=beatsG (atI m.queue 0).burst∧1≤mbeatsG m:=by
 have h1:0 < m.queue.length:=List.length_pos_iff.2 hq
 have h2:reqG (atI m.queue 0)=true:=h.reqs _ (at_mem (by omega) (by omega))
 have h3:mbeatsG m=beatsG (atI m.queue 0).burst:=by unfold mbeatsG;rw[if_neg hq]
 exact⟨h2,h3,by rw[h3];exact (burst_len (req_parts h2).1).2⟩
theorem maddr_ok {m:GMst} {b:Int} (h:RightP m) (h0:0≤b) (h1:b < mbeatsG m):maddrG m b∈addrsG (atI m.queue 0).addr (atI m.queue 0).size (atI m.queue 0).burst∧alignedG (maddrG m b) (atI m.queue 0).size=true∧0≤maddrG m b∧maddrG m b < 512:=by
 have hq:m.queue≠[]:=by
  intro hq
  unfold mbeatsG at h1
  rw[if_pos hq] at h1
  omega
 obtain⟨h2,h3,h4⟩:=right_first h hq
 have h5:=(burst_len (req_parts h2).1).1
 have h6:maddrG m b=atI (addrsG (atI m.queue 0).addr (atI m.queue 0).size (atI m.queue 0).burst) b:=by
  unfold maddrG;rw[if_pos (by omega)]
 have h7:=at_mem (xs:=addrsG (atI m.queue 0).addr (atI m.queue 0).size (atI m.queue 0).burst) h0 (by omega)
 rw[h6]
 have h8:=addrsG_mem h7
 exact⟨h7,h8.1,h8.2.1,h8.2.2⟩
theorem i_MstAddr_eq {m:GMst} (b:Int) (h:RightP m):p_i_MstAddr m b=some (maddrG m b):=by
 have hb:=mbeatsG_le m
 unfold p_i_MstAddr p_i_MstAddr__J1
 rw[i_isConsistent_eq m h.sm,Option.bind_some,right_iff.2 h,i_beats_eq,Option.bind_some,within_eq,Option.bind_some,subW_of (by omega) (by omega)]
 by_cases h1:0≤b∧b≤mbeatsG m - 1
 ·have hq:m.queue≠[]:=by
   intro hq
   unfold mbeatsG at h1
   rw[if_pos hq] at h1
   omega
  obtain⟨h2,h3,h4⟩:=right_first h hq
  have h5:=(burst_len (req_parts h2).1).1
  have h6:0 < m.queue.length:=List.length_pos_iff.2 hq
  rw[idx_at (by omega) (by omega),Option.bind_some,i_BurstAddrs_eq,Option.bind_some,idx_at h1.1 (by omega)]
  simp[h1,maddrG]
 ·simp[h1,maddrG]
theorem i_MstWants_eq {m:GMst} (h:RightP m):p_i_MstWants m=some (wantsG m):=by
 unfold p_i_MstWants wantsG
 rw[i_isConsistent_eq m h.sm,Option.bind_some,right_iff.2 h,i_beats_eq]
 rfl
theorem i_MstPost_eq {m:GMst} {r:GReq} (h:RightP m) (hr:r.sm):∃b,p_i_MstPost m r=some (postG m r,b):=by
 have hl:=h.len
 unfold p_i_MstPost p_i_MstPost__J1 postG
 rw[i_ownMst_eq m h.sm,Option.bind_some,i_isConsistent_eq m h.sm,Option.bind_some,right_iff.2 h,i_ReqOk_eq r hr,Option.bind_some,ownReq_eq r hr,Option.bind_some,appI_of (by simp;omega) (by simp;omega),Option.bind_some]
 by_cases h1:reqG r=true
 ·by_cases h2:m.queue.length=4
  ·simp[h1,h2]
  ·have h3:¬((m.queue.length:Int)=4):=by omega
   simp[h1,h2,h3]
 ·simp[h1]
theorem i_MstIssue_eq {m:GMst} (h:RightP m):∃b,p_i_MstIssue m=some (issueG m,b):=by
 have hb:=right_bnd h
 unfold p_i_MstIssue p_i_MstIssue__J1 issueG
 rw[i_ownMst_eq m h.sm,Option.bind_some,i_MstWants_eq h,Option.bind_some,addW_of (a:=m.done) (by omega) (by omega),addW_of (by omega) (by omega)]
 unfold wantsG
 by_cases h1:m.beat < mbeatsG m
 ·by_cases h2:m.beat=m.done+2<;>simp[h1,h2]
 ·simp[h1]
theorem i_MstBack_eq {m:GMst} (h:RightP m):∃b,p_i_MstBack m=some (backG m,b):=by
 have hb:=right_bnd h
 unfold p_i_MstBack p_i_MstBack__J1 backG
 rw[i_ownMst_eq m h.sm,Option.bind_some,i_isConsistent_eq m h.sm,Option.bind_some,right_iff.2 h,subW_of (by omega) (by omega)]
 by_cases h1:m.beat=m.done<;>simp[h1]
theorem slice_tail {α:Type} (xs:List α) (h:xs≠[]) (hl:xs.length < 1048577):sliceI xs 1 (xs.length:Int)=some xs.tail:=by
 have h1:0 < xs.length:=List.length_pos_iff.2 h
 unfold sliceI
 rw[if_pos ⟨by omega,by omega,by omega⟩]
 congr 1
 rw[List.take_of_length_le (by simp),←List.drop_one]
 rfl
theorem right_ne {m:GMst} (h:RightP m) (hb:m.beat≠m.done):m.queue≠[]:=by
 intro hq;have:=h.none hq;omega
theorem i_MstEnd_eq {m:GMst} (h:RightP m):∃b,p_i_MstEnd m=some (endG m,b):=by
 have hb:=right_bnd h
 have hl:=h.len
 unfold p_i_MstEnd p_i_MstEnd__J1 endG
 rw[i_ownMst_eq m h.sm,Option.bind_some,i_isConsistent_eq m h.sm,Option.bind_some,right_iff.2 h,addW_of (by omega) (by omega),i_beats_eq,Option.bind_some]
 have e:mbeatsG {m with done:=m.done+1}=mbeatsG m:=rfl
 rw[e]
 by_cases h1:m.beat=m.done
 ·simp[h1]
 ·rw[slice_tail _ (right_ne h h1) (by omega),Option.bind_some]
  by_cases h2:m.done+1=mbeatsG m<;>simp[h1,h2]
theorem head_append {m:GMst} {r:GReq} (h:m.queue≠[]):atI (m.queue++[r]) 0=atI m.queue 0:=by
 cases hq:m.queue with
 | nil=>exact absurd hq h
 | cons a l=>rfl
theorem post_right {m:GMst} {r:GReq} (h:RightP m):RightP (postG m r):=by
 unfold postG
 split
 ·rename_i h1
  have hl:=h.len
  have hne:m.queue++[r]≠[]:=by simp
  refine⟨by simp;omega,h.tries,fun x hx=>?_,fun hx=>absurd hx hne,fun _=>?_⟩
  ·rcases List.mem_append.1 hx with hx|hx
   ·exact h.reqs x hx
   ·rw[List.mem_singleton.1 hx];exact h1.1
  ·by_cases hq:m.queue=[]
   ·obtain⟨h2,h3,h4,h5,h6⟩:=h.none hq
    have hm:mbeatsG {m with queue:=m.queue++[r]}=beatsG r.burst:=by
     unfold mbeatsG;rw[if_neg hne];simp[hq,atI]
    have:=(burst_len (req_parts h1.1).1).2
    rw[hm]
    simp only[h2,h3]
    omega
   ·have h2:=h.some hq
    have hm:mbeatsG {m with queue:=m.queue++[r]}=mbeatsG m:=by
     unfold mbeatsG;rw[if_neg hne,if_neg hq];simp only[head_append hq]
    rw[hm]
    exact h2
 ·exact h
theorem issue_right {m:GMst} (h:RightP m):RightP (issueG m):=by
 unfold issueG
 split
 ·rename_i h1
  have hq:m.queue≠[]:=by
   intro hq
   unfold mbeatsG at h1
   rw[if_pos hq] at h1
   have:=right_bnd h
   omega
  have h2:=h.some hq
  refine⟨h.len,h.tries,h.reqs,fun hx=>absurd hx hq,fun _=>?_⟩
  have hm:mbeatsG {m with beat:=m.beat+1}=mbeatsG m:=rfl
  rw[hm]
  simp only
  omega
 ·exact h
theorem back_right {m:GMst} (h:RightP m):RightP (backG m):=by
 unfold backG
 split
 ·exact h
 ·rename_i h1
  have hq:=right_ne h h1
  have h2:=h.some hq
  refine⟨h.len,h.tries,h.reqs,fun hx=>absurd hx hq,fun _=>?_⟩
  have hm:mbeatsG {m with beat:=m.beat - 1}=mbeatsG m:=rfl
  rw[hm]
  simp only
  omega
theorem end_right {m:GMst} (h:RightP m):RightP (endG m):=by
 unfold endG
 split
 ·exact h
 ·rename_i h1
  have hq:=right_ne h h1
  have h2:=h.some hq
  split
  ·have hr:∀r∈m.queue.tail,reqG r=true:=fun r hr=>h.reqs r (List.mem_of_mem_tail hr)
   refine⟨by have:=h.len;simp;omega,by simp,hr,fun _=>by simp,fun hx=>?_⟩
   have h3:RightP (GMst.mk m.queue.tail 0 0 0 false false)→True:=fun _=>trivial
   have h4:0 < m.queue.tail.length:=List.length_pos_iff.2 hx
   have h5:reqG (atI m.queue.tail 0)=true:=hr _ (at_mem (by omega) (by omega))
   have h6:=(burst_len (req_parts h5).1).2
   have hm:mbeatsG (GMst.mk m.queue.tail 0 0 0 false false)=beatsG (atI m.queue.tail 0).burst:=by
    unfold mbeatsG;rw[if_neg hx]
   rw[hm]
   simp only
   omega
  ·rename_i h3
   refine⟨h.len,by simp,h.reqs,fun hx=>absurd hx hq,fun _=>?_⟩
   have hm:mbeatsG (GMst.mk m.queue m.beat (m.done+1) 0 false m.broken)=mbeatsG m:=rfl
   rw[hm]
   simp only
   omega
end Go.Proofs.YtciimjnpdmmfnaaGreat.Ev
namespace Go.Proofs.YtciimjnpdmmfnaaGreat.Ev
open Go Go.Proofs
set_option linter.unusedVariables false
set_option linter.unusedSimpArgs false
theorem orW_add {a b:Int} {k:Nat} (h0:0≤a) (h1:a < 2^k) (hb:0≤b) (hk:b*2^k+a < 9223372036854775808):orW a (b*2^k)=a+b*2^k:=by
 obtain⟨a,rfl⟩:=Int.eq_ofNat_of_zero_le h0
 obtain⟨b,rfl⟩:=Int.eq_ofNat_of_zero_le hb
 have e1:(b:Int)*2^k=((b*2^k:Nat):Int):=by simp
 rw[e1] at hk ⊢
 have h1':a < 2^k:=by
  have:((a:Nat):Int) < ((2^k:Nat):Int):=by simpa using h1
  exact Int.ofNat_lt.1 this
 have h2:a+b*2^k < 18446744073709551616:=by omega
 unfold orW
 show IntKind.i64.wrap (((BitVec.ofInt 64 ((a:Nat):Int) ||| BitVec.ofInt 64 ((b*2^k:Nat):Int)).toNat:Nat):Int)=_
 rw[BitVec.ofInt_natCast,BitVec.ofInt_natCast,BitVec.toNat_or,BitVec.toNat_ofNat,BitVec.toNat_ofNat,Nat.mod_eq_of_lt (by omega),Nat.mod_eq_of_lt (by omega)]
 have h3:a ||| b*2^k=a+b*2^k:=by
  rw[Nat.or_comm,←Nat.shiftLeft_eq,←Nat.shiftLeft_add_eq_or_of_lt h1',Nat.add_comm]
 rw[h3,wrap64 (by omega) (by omega)]
 simp
theorem andW_mod {a:Int} (h0:0≤a) (h1:a < 9223372036854775808):andW a 255=a % 256:=by
 obtain⟨a,rfl⟩:=Int.eq_ofNat_of_zero_le h0
 unfold andW
 show IntKind.i64.wrap (((BitVec.ofInt 64 ((a:Nat):Int) &&& BitVec.ofInt 64 ((255:Nat):Int)).toNat:Nat):Int)=_
 rw[BitVec.ofInt_natCast,BitVec.ofInt_natCast,BitVec.toNat_and,BitVec.toNat_ofNat,BitVec.toNat_ofNat,Nat.mod_eq_of_lt (by omega),Nat.mod_eq_of_lt (by omega)]
 have h3:a &&& 255=a % 256:=Nat.and_two_pow_sub_one_eq_mod a 8
 rw[h3,wrap64 (by omega) (by omega)]
 omega
theorem shlW_of {a:Int} {k:Nat} (hk:k≤64) (h0:0≤a) (h1:a*2^k < 9223372036854775808):shlW a (k:Int)=a*2^k:=by
 unfold shlW
 have:min ((k:Int).toNat) IntKind.i64.bits=k:=by
  show min ((k:Int).toNat) 64=k
  omega
 rw[this]
 have:0≤a*2^k:=Int.mul_nonneg h0 (Int.pow_nonneg (by omega))
 exact wrap64 (by omega) h1
theorem shrW_of {a:Int} {k:Nat} (hk:k≤64) (h0:0≤a):shrW a (k:Int)=a / 2^k:=by
 unfold shrW
 have:min ((k:Int).toNat) IntKind.i64.bits=k:=by
  show min ((k:Int).toNat) 64=k
  omega
 rw[this,Int.fdiv_eq_ediv_of_nonneg _ (Int.pow_nonneg (by omega))]
def byteG (n:Int):Bool:=decide (0≤n∧n≤255)
def memG (mem:List Int):Bool:=decide (mem.length≤512)&&mem.all byteG
def fitsG (mem:List Int) (a s:Int):Bool:=memG mem&&(alignedG a s&&decide (a≤(mem.length:Int) - bytesG s))
theorem i_fits_eq (mem:List Int) (a s:Int) (hl:mem.length < 1048577):p_i_fits mem a s=some (fitsG mem a s):=by
 have hb:=bytesG_le s
 have hf:p_slices_ContainsFunc_int_int__i_fits_1 mem=some (!mem.all byteG):=by
  unfold p_slices_ContainsFunc_int_int__i_fits_1 p_slices_IndexFunc_int_int__i_fits_1
  refine find_list mem (by omega) p_i_fits_1 byteG (fun r hr=>?_) _ (fun m i=>rfl)
  unfold p_i_fits_1
  rw[within_eq];rfl
 unfold p_i_fits fitsG memG
 rw[hf,Option.bind_some,i_Aligned_eq,Option.bind_some,i_BytesOf_eq,Option.bind_some,subW_of (by omega) (by omega)]
 by_cases h1:mem.length≤512
 ·have h2:(mem.length:Int)≤512:=by omega
  by_cases h3:mem.all byteG=true
  ·by_cases h4:alignedG a s=true<;>simp only[h1,h2,h3,h4,decide_true,if_true,Bool.not_true,Bool.not_false,Bool.true_and,Bool.and_self,Bool.false_and,Bool.false_eq_true,if_false]
  ·simp[h1,h2,h3]
 ·have h2:¬(mem.length:Int)≤512:=by omega
  simp[h1,h2]
theorem s_l4Bytes_eq (mem:List Int) (hl:mem.length < 1048577):p_s_l4Bytes mem=some (memG mem):=by
 unfold p_s_l4Bytes memG
 have key:∀(n k:Nat),k≤mem.length→mem.length - k < n→p_s_l4Bytes__L1 mem n k=some (decide (mem.length≤512)&&(mem.drop k).all byteG):=by
  intro n
  induction n with
  | zero=>intro k _ h;omega
  | succ n ih=>
   intro k hk hm
   show p_s_l4Bytes__L1b mem _ k=_
   unfold p_s_l4Bytes__L1b
   by_cases hc:k < mem.length
   ·rw[if_pos (by simpa using hc),idx_get hc,Option.bind_some,l1In_eq,Option.bind_some,List.drop_eq_getElem_cons hc,List.all_cons]
    by_cases hq:0≤mem[k]∧mem[k]≤255
    ·rw[if_neg (by simp[hq]),addW_nat (by omega),ih (k+1) (by omega) (by omega)]
     simp[hq,byteG]
    ·rw[if_pos (by simp[hq])]
     simp[hq,byteG]
   ·rw[if_neg (by simpa using hc),List.drop_eq_nil_of_le (by omega)]
    by_cases h1:mem.length≤512
    ·have h2:(mem.length:Int)≤512:=by omega
     simp[h1,h2]
    ·have h2:¬(mem.length:Int)≤512:=by omega
     simp[h1,h2]
 have:=key FU 0 (Nat.zero_le _) (by have:=FU_big;omega)
 simpa using this
theorem s_l4Fits_eq (mem:List Int) (a s:Int) (hl:mem.length < 1048577):p_s_l4Fits mem a s=some (fitsG mem a s):=by
 have hb:=bytesG_le s
 unfold p_s_l4Fits fitsG
 rw[s_l4Bytes_eq mem hl,Option.bind_some,s_Aligned_eq,Option.bind_some,s_BytesOf_eq,Option.bind_some,subW_of (by omega) (by omega)]
 by_cases h3:memG mem=true
 ·by_cases h4:alignedG a s=true<;>simp only[h3,h4,if_true,Bool.true_and,Bool.false_and,Bool.false_eq_true,if_false]
 ·simp[h3]
def getL (mem:List Int):Nat→Int→Int
 | 0,_=>0
 | n+1,a=>atI mem a+256*getL mem n (a+1)
def putL:Nat→List Int→Int→Int→List Int
 | 0,l,_,_=>l
 | n+1,l,a,v=>putL n (l.set a.toNat (v % 256)) (a+1) (v / 256)
theorem putL_len:∀(n:Nat) (l:List Int) (a v:Int),(putL n l a v).length=l.length:=by
 intro n
 induction n with
 | zero=>intro l a v;rfl
 | succ n ih=>intro l a v;simp only[putL,ih,List.length_set]
theorem putL_bytes:∀(n:Nat) (l:List Int) (a v:Int),l.all byteG=true→(putL n l a v).all byteG=true:=by
 intro n
 induction n with
 | zero=>intro l a v h;exact h
 | succ n ih=>
  intro l a v h
  refine ih _ _ _ ?_
  rw[List.all_eq_true] at h ⊢
  intro x hx
  rcases List.mem_or_eq_of_mem_set hx with hx|rfl
  ·exact h x hx
  ·have h1:0≤v % 256:=Int.emod_nonneg _ (by omega)
   have h2:v % 256 < 256:=Int.emod_lt_of_pos _ (by omega)
   simp[byteG];omega
theorem getL_succ (mem:List Int):∀(n:Nat) (a:Int),getL mem (n+1) a=getL mem n a+256^n*atI mem (a+n):=by
 intro n
 induction n with
 | zero=>intro a;simp[getL]
 | succ n ih=>
  intro a
  rw[getL,ih (a+1),getL]
  rw[Int.mul_add,←Int.mul_assoc,show (256:Int)*256^n=256^(n+1) by rw[Int.pow_succ,Int.mul_comm],show a+1+(n:Int)=a+((n+1:Nat):Int) by omega]
  omega
theorem getL_le {mem:List Int} (h:mem.all byteG=true):∀(n:Nat) (a:Int),0≤a→a+n≤(mem.length:Int)→0≤getL mem n a∧getL mem n a < 256^n:=by
 intro n
 induction n with
 | zero=>intro a _ _;simp[getL]
 | succ n ih=>
  intro a h0 h1
  have h2:=ih (a+1) (by omega) (by omega)
  have h3:=List.all_eq_true.1 h _ (at_mem h0 (by omega:a < (mem.length:Int)))
  simp only[byteG,decide_eq_true_eq] at h3
  simp only[getL]
  have e:(256:Int)^(n+1)=256*256^n:=by rw[Int.pow_succ,Int.mul_comm]
  rw[e]
  omega
def getG (mem:List Int) (a s:Int):Int:=getL mem (bytesG s).toNat a
def putG (mem:List Int) (a s v:Int):List Int:=putL (bytesG s).toNat mem a v
theorem fits_parts {mem:List Int} {a s:Int} (h:fitsG mem a s=true):mem.length≤512∧mem.all byteG=true∧0 < bytesG s∧0≤a∧a+bytesG s≤(mem.length:Int):=by
 simp only[fitsG,memG,Bool.and_eq_true,decide_eq_true_eq] at h
 have:=aligned_parts h.2.1
 exact⟨h.1.1,h.1.2,this.1,this.2.1,by omega⟩
theorem pow256 (k:Nat) (h:k≤4):(256:Int)^k=2^(8*k)∧(256:Int)^k≤4294967296:=by
 have:k=0∨k=1∨k=2∨k=3∨k=4:=by omega
 rcases this with rfl|rfl|rfl|rfl|rfl<;>decide
theorem i_GetNum_eq {mem:List Int} {a s:Int} (h:fitsG mem a s=true):p_i_GetNum mem a s=some (getG mem a s,true):=by
 obtain⟨h1,h2,h3,h4,h5⟩:=fits_parts h
 have hb:=bytesG_le s
 unfold p_i_GetNum getG
 rw[i_fits_eq mem a s (by omega),Option.bind_some,h,if_neg (by simp),i_BytesOf_eq,Option.bind_some]
 have key:∀(r n k:Nat),r < n→(k:Int)+r=bytesG s→p_i_GetNum__L1 mem a s n (getL mem k a) (bytesG s) k=some (getL mem (k+r) a,true):=by
  intro r
  induction r with
  | zero=>
   intro n k hn hk
   obtain⟨n,rfl⟩:∃m',n=m'+1:=⟨n - 1,by omega⟩
   show p_i_GetNum__L1b mem a s _ (getL mem k a) (bytesG s) k=_
   unfold p_i_GetNum__L1b
   rw[if_neg (by simp;omega)]
   rfl
  | succ r ih=>
   intro n k hn hk
   obtain⟨n,rfl⟩:∃m',n=m'+1:=⟨n - 1,by omega⟩
   show p_i_GetNum__L1b mem a s _ (getL mem k a) (bytesG s) k=_
   unfold p_i_GetNum__L1b
   have h6:0≤a+(k:Int):=by omega
   have h7:a+(k:Int) < (mem.length:Int):=by omega
   have h8:=List.all_eq_true.1 h2 _ (at_mem h6 h7)
   simp only[byteG,decide_eq_true_eq] at h8
   have h9:=getL_le h2 k a h4 (by omega)
   have hp:=pow256 k (by omega)
   have hp1:(0:Int) < 2^(8*k):=Int.pow_pos (by omega)
   have h10:atI mem (a+k)*2^(8*k)≤255*4294967296:=by
    rw[←hp.1]
    exact Int.mul_le_mul h8.2 hp.2 (by rw[hp.1];omega) (by omega)
   rw[if_pos (by simp;omega),addW_of (by omega) (by omega),idx_at h6 h7,Option.bind_some,mulW_of (by omega) (by omega),nnI_of (by omega),Option.bind_some,show (8:Int)*(k:Int)=((8*k:Nat):Int) by omega,shlW_of (by omega) h8.1 (by omega),orW_add h9.1 (by rw[←hp.1];exact h9.2) h8.1 (by have:=h9.2;rw[hp.1] at this;have:=hp.2;rw[hp.1] at this;omega),addW_nat (by omega)]
   have e:getL mem k a+atI mem (a+k)*2^(8*k)=getL mem (k+1) a:=by
    rw[getL_succ,hp.1,Int.mul_comm]
   rw[e,ih n (k+1) (by omega) (by omega),show k+1+r=k+(r+1) by omega]
 have:=key (bytesG s).toNat FU 0 (by have:=FU_big;omega) (by omega)
 simpa [getL] using this
theorem s_GetNum_eq {mem:List Int} {a s:Int} (h:fitsG mem a s=true):p_s_GetNum mem a s=some (getG mem a s,true):=by
 obtain⟨h1,h2,h3,h4,h5⟩:=fits_parts h
 have hb:=bytesG_le s
 unfold p_s_GetNum getG
 rw[s_l4Fits_eq mem a s (by omega),Option.bind_some,h,if_neg (by simp),s_BytesOf_eq,Option.bind_some,subW_of (by omega) (by omega)]
 have key:∀(r n j:Nat) (v:Int),r < n→(r:Int)≤bytesG s→j+r≤4→0≤v→v < 256^j→p_s_GetNum__L1 mem a s n v ((r:Int) - 1)=some (v*256^r+getL mem r a,true):=by
  intro r
  induction r with
  | zero=>
   intro n j v hn hk _ _ _
   obtain⟨n,rfl⟩:∃m',n=m'+1:=⟨n - 1,by omega⟩
   show p_s_GetNum__L1b mem a s _ v _=_
   unfold p_s_GetNum__L1b
   rw[if_neg (by simp)]
   simp[getL]
  | succ r ih=>
   intro n j v hn hk hj hv hv2
   obtain⟨n,rfl⟩:∃m',n=m'+1:=⟨n - 1,by omega⟩
   show p_s_GetNum__L1b mem a s _ v _=_
   unfold p_s_GetNum__L1b
   have h6:0≤a+(r:Int):=by omega
   have h7:a+(r:Int) < (mem.length:Int):=by omega
   have h8:=List.all_eq_true.1 h2 _ (at_mem h6 h7)
   simp only[byteG,decide_eq_true_eq] at h8
   have hp:=(pow256 j (by omega)).2
   have e1:(256:Int)^(r+1)=256^r*256:=Int.pow_succ ..
   have e3:(256:Int)^(j+1)=256^j*256:=Int.pow_succ ..
   have e2:(((r+1:Nat):Int) - 1)=(r:Int):=by omega
   rw[e2,if_pos (by simp),addW_of (by omega) (by omega),idx_at h6 h7,Option.bind_some,mulW_of (by omega) (by omega),addW_of (by omega) (by omega),subW_of (by omega) (by omega),ih n (j+1) _ (by omega) (by omega) (by omega) (by omega) (by rw[e3];omega)]
   rw[getL_succ,Int.add_mul,e1,Int.mul_comm (256^r) 256,←Int.mul_assoc,Int.mul_comm (256^r) (atI mem (a+r))]
   congr 2
   omega
 have:=key (bytesG s).toNat FU 0 0 (by have:=FU_big;omega) (by omega) (by omega) (by omega) (by simp)
 rw[show ((bytesG s).toNat:Int)=bytesG s by omega] at this
 simpa using this
theorem clone_eq (xs:List Int) (h:xs.length < 1048577):p_slices_Clone_int_int xs=some xs:=by
 unfold p_slices_Clone_int_int
 rw[appI_of (by simp;omega) (by simp;omega)]
 rfl
theorem app_nil (xs:List Int) (h:xs.length < 1048577):appI 8 [] xs=some xs:=by
 rw[appI_of (by simp;omega) (by simp;omega)]
 rfl
theorem i_PutNum_eq {mem:List Int} {a s v:Int} (h:fitsG mem a s=true) (hv:numG v s=true):p_i_PutNum mem a s v=some (putG mem a s v,true):=by
 obtain⟨h1,h2,h3,h4,h5⟩:=fits_parts h
 have hb:=bytesG_le s
 have hl:=limitG_le s
 simp only[numG,decide_eq_true_eq] at hv
 unfold p_i_PutNum p_i_PutNum__J2 putG
 rw[clone_eq mem (by omega),Option.bind_some,i_fits_eq mem a s (by omega),Option.bind_some,h,if_neg (by simp),i_isNum_eq,Option.bind_some,i_BytesOf_eq,Option.bind_some]
 have hn:numG v s=true:=by simp[numG,hv]
 rw[hn,if_neg (by simp)]
 have key:∀(r n k:Nat) (l:List Int),r < n→(k:Int)+r=bytesG s→l.length=mem.length→p_i_PutNum__L1 mem a s v n l (bytesG s) k=some (putL r l (a+k) (v / 256^k),true):=by
  intro r
  induction r with
  | zero=>
   intro n k l hn hk _
   obtain⟨n,rfl⟩:∃m',n=m'+1:=⟨n - 1,by omega⟩
   show p_i_PutNum__L1b mem a s v _ l (bytesG s) k=_
   unfold p_i_PutNum__L1b
   rw[if_neg (by simp;omega)]
   rfl
  | succ r ih=>
   intro n k l hn hk hl2
   obtain⟨n,rfl⟩:∃m',n=m'+1:=⟨n - 1,by omega⟩
   show p_i_PutNum__L1b mem a s v _ l (bytesG s) k=_
   unfold p_i_PutNum__L1b
   have h6:0≤a+(k:Int):=by omega
   have h7:a+(k:Int) < (l.length:Int):=by omega
   have hp:=pow256 k (by omega)
   have hp1:(0:Int) < 256^k:=Int.pow_pos (by omega)
   have h8:0≤v / 256^k:=Int.ediv_nonneg hv.1 (by omega)
   have h9:v / 256^k≤v:=Int.ediv_le_self _ hv.1
   rw[if_pos (by simp;omega),mulW_of (by omega) (by omega),nnI_of (by omega),Option.bind_some,addW_of (a:=a) (by omega) (by omega),idx_at h6 h7,Option.bind_some,setO_of,Option.bind_some,show (8:Int)*(k:Int)=((8*k:Nat):Int) by omega,shrW_of (by omega) hv.1,←hp.1,andW_mod h8 (by omega),addW_nat (by omega),ih n (k+1) _ (by omega) (by omega) (by simp[hl2])]
   simp only[putL]
   rw[Int.ediv_ediv_of_nonneg (by omega),←Int.pow_succ,show a+((k+1:Nat):Int)=a+k+1 by omega]
 have:=key (bytesG s).toNat FU 0 mem (by have:=FU_big;omega) (by omega) rfl
 simpa using this
theorem s_PutNum_eq {mem:List Int} {a s v:Int} (h:fitsG mem a s=true) (hv:numG v s=true):p_s_PutNum mem a s v=some (putG mem a s v,true):=by
 obtain⟨h1,h2,h3,h4,h5⟩:=fits_parts h
 have hb:=bytesG_le s
 have hl:=limitG_le s
 unfold p_s_PutNum p_s_PutNum__J2 putG
 rw[app_nil mem (by omega),Option.bind_some,s_l4Fits_eq mem a s (by omega),Option.bind_some,h,if_neg (by simp),s_LimitOf_eq,Option.bind_some,s_num_eq,Option.bind_some,hv,if_neg (by simp)]
 simp only[numG,decide_eq_true_eq] at hv
 have key:∀(r n k:Nat) (l:List Int) (x:Int),r < n→(k:Int)+r=bytesG s→l.length=mem.length→0≤x→x < 9223372036854775808→p_s_PutNum__L1 mem a s v n x l k=some (putL r l (a+k) x,true):=by
  intro r
  induction r with
  | zero=>
   intro n k l x hn hk _ _ _
   obtain⟨n,rfl⟩:∃m',n=m'+1:=⟨n - 1,by omega⟩
   show p_s_PutNum__L1b mem a s v _ x l k=_
   unfold p_s_PutNum__L1b
   rw[s_BytesOf_eq,Option.bind_some,if_neg (by simp;omega)]
   rfl
  | succ r ih=>
   intro n k l x hn hk hl2 hx hx2
   obtain⟨n,rfl⟩:∃m',n=m'+1:=⟨n - 1,by omega⟩
   show p_s_PutNum__L1b mem a s v _ x l k=_
   unfold p_s_PutNum__L1b
   have h6:0≤a+(k:Int):=by omega
   have h7:a+(k:Int) < (l.length:Int):=by omega
   rw[s_BytesOf_eq,Option.bind_some,if_pos (by simp;omega),addW_of (a:=a) (by omega) (by omega),idx_at h6 h7,Option.bind_some,setO_of,Option.bind_some,remW_of hx,quoW_of hx hx2 (by omega),addW_nat (by omega),ih n (k+1) _ _ (by omega) (by omega) (by simp[hl2]) (by omega) (by omega)]
   simp only[putL]
   rw[show a+((k+1:Nat):Int)=a+k+1 by omega]
 have:=key (bytesG s).toNat FU 0 mem v (by have:=FU_big;omega) (by omega) rfl hv.1 (by omega)
 simpa using this
def GDev.sm (d:GDev):Prop:=d.regs.length < 1048577∧d.fifo.length < 1048577
def devG (d:GDev):Bool:=decide (d.regs.length=4)&&(d.regs.all (fun v=>numG v 2)&&(numG d.timer 2&&(decide (d.fifo.length≤4)&&d.fifo.all fun v=>numG v 2)))
theorem i_DevOk_eq (d:GDev) (hs:d.sm):p_i_DevOk d=some (devG d):=by
 have hf:∀xs:List Int,xs.length < 1048577→p_slices_ContainsFunc_int_int__i_DevOk_1 xs=some (!xs.all fun v=>numG v 2):=by
  intro xs hl
  unfold p_slices_ContainsFunc_int_int__i_DevOk_1 p_slices_IndexFunc_int_int__i_DevOk_1
  refine find_list xs (by omega) p_i_DevOk_1 (fun v=>numG v 2) (fun r hr=>?_) _ (fun m i=>rfl)
  unfold p_i_DevOk_1
  rw[i_isNum_eq];rfl
 unfold p_i_DevOk devG
 rw[hf _ hs.1,Option.bind_some,hf _ hs.2,Option.bind_some,i_isNum_eq,Option.bind_some]
 by_cases h1:d.regs.length=4
 ·have h2:(d.regs.length:Int)=4:=by omega
  by_cases h3:d.fifo.length≤4
  ·have h4:(d.fifo.length:Int)≤4:=by omega
   cases h5:(d.regs.all fun v=>numG v 2)<;>cases h6:(d.fifo.all fun v=>numG v 2)<;>cases h7:numG d.timer 2<;>simp[h1,h2,h3,h4]
  ·have h4:¬(d.fifo.length:Int)≤4:=by omega
   simp[h1,h2,h3,h4]
 ·have h2:¬(d.regs.length:Int)=4:=by omega
  simp[h1,h2]
theorem s_l8Words_eq (xs:List Int) (hl:xs.length < 1048577):p_s_l8Words xs=some (xs.all fun v=>numG v 2):=by
 unfold p_s_l8Words
 have key:∀(n k:Nat),k≤xs.length→xs.length - k < n→p_s_l8Words__L1 xs n k=some ((xs.drop k).all fun v=>numG v 2):=by
  intro n
  induction n with
  | zero=>intro k _ h;omega
  | succ n ih=>
   intro k hk hm
   show p_s_l8Words__L1b xs _ k=_
   unfold p_s_l8Words__L1b
   by_cases hc:k < xs.length
   ·rw[if_pos (by simpa using hc),idx_get hc,Option.bind_some,s_LimitOf_eq,Option.bind_some,s_num_eq,Option.bind_some,List.drop_eq_getElem_cons hc,List.all_cons]
    by_cases hq:numG xs[k] 2=true
    ·rw[if_neg (by simp[hq]),addW_nat (by omega),ih (k+1) (by omega) (by omega)]
     simp[hq]
    ·rw[if_pos (by simp[hq])]
     simp[hq]
   ·rw[if_neg (by simpa using hc),List.drop_eq_nil_of_le (by omega)]
    rfl
 have:=key FU 0 (Nat.zero_le _) (by have:=FU_big;omega)
 simpa using this
theorem s_DevOk_eq (d:GDev) (hs:d.sm):p_s_DevOk d=some (devG d):=by
 unfold p_s_DevOk devG
 rw[s_l8Words_eq _ hs.1,Option.bind_some,s_l8Words_eq _ hs.2,Option.bind_some,s_LimitOf_eq,Option.bind_some,s_num_eq,Option.bind_some]
 by_cases h1:d.regs.length=4
 ·have h2:(d.regs.length:Int)=4:=by omega
  by_cases h3:d.fifo.length≤4
  ·have h4:(d.fifo.length:Int)≤4:=by omega
   cases h5:(d.regs.all fun v=>numG v 2)<;>cases h6:(d.fifo.all fun v=>numG v 2)<;>cases h7:numG d.timer 2<;>simp[h1,h2,h3,h4]
  ·have h4:¬(d.fifo.length:Int)≤4:=by omega
   cases h5:(d.regs.all fun v=>numG v 2)<;>cases h7:numG d.timer 2<;>simp[h1,h2,h3,h4]
 ·have h2:¬(d.regs.length:Int)=4:=by omega
  simp[h1,h2]
structure DevP (d:GDev):Prop where
 regs:d.regs.length=4
 nums:∀v∈d.regs,numG v 2=true
 timer:numG d.timer 2=true
 len:d.fifo.length≤4
 fifo:∀v∈d.fifo,numG v 2=true
theorem dev_iff {d:GDev}:devG d=true↔DevP d:=by
 simp only[devG,Bool.and_eq_true,decide_eq_true_eq,List.all_eq_true]
 constructor
 ·intro h;exact⟨h.1,h.2.1,h.2.2.1,h.2.2.2.1,h.2.2.2.2⟩
 ·intro h;exact⟨h.regs,h.nums,h.timer,h.len,h.fifo⟩
theorem DevP.sm {d:GDev} (h:DevP d):d.sm:=⟨by have:=h.regs;omega,by have:=h.len;omega⟩
theorem i_ownDev_eq (d:GDev) (hs:d.sm):p_i_ownDev d=some d:=by
 unfold p_i_ownDev
 rw[clone_eq _ hs.1,Option.bind_some,clone_eq _ hs.2]
 rfl
theorem s_l8Copy_eq (d:GDev) (hs:d.sm):p_s_l8Copy d=some d:=by
 unfold p_s_l8Copy
 rw[app_nil _ hs.1,Option.bind_some,app_nil _ hs.2]
 rfl
def devdoG (d:GDev) (w:Bool) (a v:Int):GDev×Int×Bool:=
 if (w&&!numG v 2)=true then (d,0,false) else
 if a=16 then (if w then ({d with timer:=v},v,true) else ({d with timer:=(d.timer+1) % 4294967296},d.timer,true)) else
 if a=20 then (if w then (if d.fifo.length < 4 then ({d with fifo:=d.fifo++[v]},v,true) else (d,0,false)) else (if d.fifo=[] then (d,0,false) else ({d with fifo:=d.fifo.tail},atI d.fifo 0,true))) else
 if (0≤a∧a < 16)∧a % 4=0 then (if w then ({d with regs:=d.regs.set (a / 4).toNat v},v,true) else (d,atI d.regs (a / 4),true)) else (d,0,false)
theorem num2 {v:Int} (h:numG v 2=true):0≤v∧v < 4294967296:=by
 simpa [numG,limitG] using h
theorem i_DevDo_eq {d:GDev} (w:Bool) (a v:Int) (h:DevP d):p_i_DevDo d w a v=some (devdoG d w a v):=by
 have ht:=num2 h.timer
 have hl:=h.len
 have hr:=h.regs
 unfold p_i_DevDo
 rw[i_ownDev_eq d h.sm,Option.bind_some,i_DevOk_eq d h.sm,Option.bind_some,dev_iff.2 h,i_isNum_eq,Option.bind_some]
 have hJ:p_i_DevDo__J1 d w a v d false=some (if a=16 then (if w then ({d with timer:=v},v,true) else ({d with timer:=(d.timer+1) % 4294967296},d.timer,true)) else
 if a=20 then (if w then (if d.fifo.length < 4 then ({d with fifo:=d.fifo++[v]},v,true) else (d,0,false)) else (if d.fifo=[] then (d,0,false) else ({d with fifo:=d.fifo.tail},atI d.fifo 0,true))) else
 if (0≤a∧a < 16)∧a % 4=0 then (if w then ({d with regs:=d.regs.set (a / 4).toNat v},v,true) else (d,atI d.regs (a / 4),true)) else (d,0,false)):=by
  unfold p_i_DevDo__J1 p_i_DevDo__J2 p_i_DevDo__J3 p_i_DevDo__J4 p_i_DevDo__J5
  by_cases h16:a=16
  ·subst h16
   rw[i_LimitOf_eq,Option.bind_some,show limitG 2=4294967296 from rfl,nzI_of (by omega),addW_of (by omega) (by omega),remW_of (by omega)]
   cases w<;>simp
  ·by_cases h20:a=20
   ·subst h20
    cases w with
    | true=>
     by_cases h3:d.fifo.length < 4
     ·have h4:(d.fifo.length:Int) < 4:=by omega
      rw[appI_of (by simp;omega) (by simp;omega)]
      simp[h3,h4]
     ·have h4:¬(d.fifo.length:Int) < 4:=by omega
      simp[h3,h4]
    | false=>
     by_cases h3:d.fifo=[]
     ·simp[h3]
     ·have h4:0 < d.fifo.length:=List.length_pos_iff.2 h3
      have h5:(d.fifo.length:Int) > 0:=by omega
      rw[idx_at (by omega) (by omega),Option.bind_some,slice_tail _ h3 (by omega),Option.bind_some,clone_eq _ (by simp;omega)]
      simp[h3,h5]
   ·by_cases h3:(0≤a∧a < 16)∧a % 4=0
    ·obtain⟨⟨h4,h5⟩,h6⟩:=h3
     have h7:¬a≥16:=by omega
     have h8:¬a < 0:=by omega
     rw[quoW_of h4 (by omega) (by omega),idx_at (xs:=d.regs) (by omega) (by omega),Option.bind_some,Option.bind_some,setO_of,remW_of h4]
     cases w<;>simp[h16,h20,h4,h5,h6,h7,h8]
    ·by_cases h4:a≥16
     ·have h5:¬a < 16:=by omega
      cases w<;>simp[h16,h20,h4,h5]
     ·by_cases h5:a < 0
      ·have h6:¬0≤a:=by omega
       cases w<;>simp[h16,h20,h4,h5,h6]
      ·have h6:a % 4≠0:=fun h=>h3 ⟨by omega,h⟩
       rw[remW_of (by omega)]
       cases w<;>simp[h16,h20,h4,h5,h6]
 unfold devdoG
 cases w with
 | false=>simp only[Bool.not_true,Bool.false_eq_true,if_false,Bool.false_and];exact hJ
 | true=>
  by_cases hv:numG v 2=true
  ·simp only[hv,Bool.not_true,Bool.false_eq_true,if_false,if_true,Bool.and_false]
   exact hJ
  ·simp[hv,p_i_DevDo__J1]
theorem s_DevDo_eq {d:GDev} (w:Bool) (a v:Int) (h:DevP d):p_s_DevDo d w a v=some (devdoG d w a v):=by
 have ht:=num2 h.timer
 have hl:=h.len
 have hr:=h.regs
 unfold p_s_DevDo
 rw[s_l8Copy_eq d h.sm,Option.bind_some,s_DevOk_eq d h.sm,Option.bind_some,dev_iff.2 h,s_LimitOf_eq,Option.bind_some,s_num_eq,Option.bind_some]
 have hJ:∀_:remW a 4=0,p_s_DevDo__J1 d w a v d false=some (if a=16 then (if w then ({d with timer:=v},v,true) else ({d with timer:=(d.timer+1) % 4294967296},d.timer,true)) else
 if a=20 then (if w then (if d.fifo.length < 4 then ({d with fifo:=d.fifo++[v]},v,true) else (d,0,false)) else (if d.fifo=[] then (d,0,false) else ({d with fifo:=d.fifo.tail},atI d.fifo 0,true))) else
 if (0≤a∧a < 16)∧a % 4=0 then (if w then ({d with regs:=d.regs.set (a / 4).toNat v},v,true) else (d,atI d.regs (a / 4),true)) else (d,0,false)):=by
  intro hrem
  unfold p_s_DevDo__J1 p_s_DevDo__J2 p_s_DevDo__J3 p_s_DevDo__J4 p_s_DevDo__J5
  rw[l1In_eq,Option.bind_some,Option.bind_some]
  by_cases h16:a=16
  ·subst h16
   rw[s_LimitOf_eq,Option.bind_some,show limitG 2=4294967296 from rfl,nzI_of (by omega),addW_of (by omega) (by omega),remW_of (by omega)]
   cases w<;>simp
  ·by_cases h20:a=20
   ·subst h20
    cases w with
    | true=>
     by_cases h3:d.fifo.length < 4
     ·have h4:(d.fifo.length:Int) < 4:=by omega
      rw[appI_of (by simp;omega) (by simp;omega)]
      simp[h3,h4]
     ·have h4:¬(d.fifo.length:Int) < 4:=by omega
      simp[h3,h4]
    | false=>
     by_cases h3:d.fifo=[]
     ·simp[h3]
     ·have h4:0 < d.fifo.length:=List.length_pos_iff.2 h3
      have h5:(d.fifo.length:Int) > 0:=by omega
      rw[idx_at (xs:=d.fifo) (by omega) (by omega),Option.bind_some,slice_tail _ h3 (by omega),Option.bind_some]
      simp[h3,h5]
   ·by_cases h3:0≤a∧a < 16
    ·rw[remW_of h3.1] at hrem
     have h4:0≤a∧a≤12:=by omega
     rw[quoW_of h3.1 (by omega) (by omega),idx_at (xs:=d.regs) (by omega) (by omega),Option.bind_some,Option.bind_some,setO_of]
     cases w<;>simp[h16,h20,h3,h4,hrem]
    ·have h4:¬(0≤a∧a≤12):=by omega
     cases w<;>simp[h16,h20,h3,h4]
 unfold devdoG
 by_cases hrem:remW a 4=0
 ·rw[if_neg (by simp),if_neg (by simp[hrem])]
  cases w with
  | false=>simp only[Bool.false_eq_true,if_false,Bool.false_and];exact hJ hrem
  | true=>
   by_cases hv:numG v 2=true
   ·simp only[hv,Bool.not_true,Bool.false_eq_true,if_false,if_true,Bool.and_false]
    exact hJ hrem
   ·simp[hv,p_s_DevDo__J1]
 ·have h16:a≠16:=fun h=>hrem (by subst h;rfl)
  have h20:a≠20:=fun h=>hrem (by subst h;rfl)
  have h3:¬((0≤a∧a < 16)∧a % 4=0):=fun h=>hrem (by rw[remW_of h.1.1];exact h.2)
  rw[if_neg (by simp),if_pos (by simp[hrem])]
  simp only[h16,h20,h3,if_false,p_s_DevDo__J1,if_true]
  split<;>rfl
theorem all_set {xs:List Int} {p:Int→Prop} (h:∀x∈xs,p x) {k:Nat} {v:Int} (hv:p v):∀x∈xs.set k v,p x:=by
 intro x hx
 rcases List.mem_or_eq_of_mem_set hx with hx|rfl
 ·exact h x hx
 ·exact hv
theorem devdo_ok {d:GDev} {w:Bool} {a v:Int} (h:DevP d):DevP (devdoG d w a v).1∧((devdoG d w a v).2.2=true→numG (devdoG d w a v).2.1 2=true):=by
 have ht:=num2 h.timer
 have hl:=h.len
 unfold devdoG
 split
 ·exact⟨h,by simp⟩
 ·rename_i hw
  have hv:w=true→numG v 2=true:=by
   intro h1
   rw[h1] at hw
   simpa using hw
  split
  ·split
   ·rename_i h1
    exact⟨⟨h.regs,h.nums,hv h1,h.len,h.fifo⟩,fun _=>hv h1⟩
   ·refine⟨⟨h.regs,h.nums,?_,h.len,h.fifo⟩,fun _=>h.timer⟩
    have:limitG 2=4294967296:=rfl
    simp only[numG,this,decide_eq_true_eq]
    omega
  ·split
   ·split
    ·rename_i h1
     split
     ·rename_i h2
      refine⟨⟨h.regs,h.nums,h.timer,by simp;omega,fun x hx=>?_⟩,fun _=>hv h1⟩
      rcases List.mem_append.1 hx with hx|hx
      ·exact h.fifo x hx
      ·rw[List.mem_singleton.1 hx];exact hv h1
     ·exact⟨h,by simp⟩
    ·split
     ·exact⟨h,by simp⟩
     ·rename_i h2
      have h4:0 < d.fifo.length:=List.length_pos_iff.2 h2
      refine⟨⟨h.regs,h.nums,h.timer,by simp;omega,fun x hx=>h.fifo x (List.mem_of_mem_tail hx)⟩,fun _=>h.fifo _ (at_mem (by omega) (by omega))⟩
   ·split
    ·rename_i h3
     split
     ·rename_i h1
      exact⟨⟨by simp[h.regs],all_set h.nums (hv h1),h.timer,h.len,h.fifo⟩,fun _=>hv h1⟩
     ·refine⟨h,fun _=>h.nums _ (at_mem (by omega) (by have:=h.regs;omega))⟩
    ·exact⟨h,by simp⟩
def slaveG (a:Int):Int:=if a < 0∨224≤a then 0 else if a < 128 then 1 else if a < 192 then 2 else 3
theorem i_SlaveOf_eq (a:Int):p_i_SlaveOf a=some (slaveG a):=by
 unfold p_i_SlaveOf p_i_SlaveOf__J1 slaveG
 by_cases h1:a < 0
 ·simp[h1]
 ·by_cases h2:a≥224
  ·simp[h1,h2]
  ·by_cases h3:a < 128
   ·simp[h1,h2,h3]
   ·by_cases h4:a < 192<;>simp[h1,h2,h3,h4]
theorem s_SlaveOf_eq (a:Int):p_s_SlaveOf a=some (slaveG a):=by
 rw[←i_SlaveOf_eq]
 rfl
def GModel.sm (m:GModel):Prop:=m.mem.length < 1048577∧m.dev.sm
def modelG (m:GModel):Bool:=decide (m.mem.length=192)&&(m.mem.all byteG&&devG m.dev)
structure ModelP (m:GModel):Prop where
 len:m.mem.length=192
 bytes:m.mem.all byteG=true
 dev:DevP m.dev
theorem model_iff {m:GModel}:modelG m=true↔ModelP m:=by
 simp only[modelG,Bool.and_eq_true,decide_eq_true_eq,dev_iff]
 constructor
 ·intro h;exact⟨h.1,h.2.1,h.2.2⟩
 ·intro h;exact⟨h.len,h.bytes,h.dev⟩
theorem ModelP.sm {m:GModel} (h:ModelP m):m.sm:=⟨by have:=h.len;omega,h.dev.sm⟩
theorem i_ModelOk_eq (m:GModel) (hs:m.sm):p_i_ModelOk m=some (modelG m):=by
 unfold p_i_ModelOk modelG
 rw[i_fits_eq m.mem 0 0 hs.1,Option.bind_some,i_DevOk_eq m.dev hs.2,Option.bind_some]
 by_cases h1:m.mem.length=192
 ·have h2:(m.mem.length:Int)=192:=by omega
  have h3:fitsG m.mem 0 0=m.mem.all byteG:=by
   simp[fitsG,memG,h1,alignedG,bytesG]
  rw[h3]
  cases h4:m.mem.all byteG<;>simp[h1,h2]
 ·have h2:¬(m.mem.length:Int)=192:=by omega
  simp[h1,h2]
theorem s_ModelOk_eq (m:GModel) (hs:m.sm):p_s_ModelOk m=some (modelG m):=by
 unfold p_s_ModelOk modelG
 rw[s_l4Bytes_eq m.mem hs.1,Option.bind_some,s_DevOk_eq m.dev hs.2,Option.bind_some]
 by_cases h1:m.mem.length=192
 ·have h2:(m.mem.length:Int)=192:=by omega
  have h3:memG m.mem=m.mem.all byteG:=by
   simp[memG,h1]
  rw[h3]
  cases h4:m.mem.all byteG<;>simp[h1,h2]
 ·have h2:¬(m.mem.length:Int)=192:=by omega
  simp[h1,h2]
theorem i_ownModel_eq (m:GModel) (hs:m.sm):p_i_ownModel m=some m:=by
 unfold p_i_ownModel
 rw[clone_eq _ hs.1,Option.bind_some,i_ownDev_eq _ hs.2]
 rfl
theorem s_l9Copy_eq (m:GModel) (hs:m.sm):p_s_l9Copy m=some m:=by
 unfold p_s_l9Copy
 rw[app_nil _ hs.1,Option.bind_some,s_l8Copy_eq _ hs.2]
 rfl
def modeldoG (m:GModel) (w:Bool) (a s v:Int):GModel×Int×Int:=
 if (alignedG a s&&!(w&&!numG v s))=true then
  (if slaveG a=1∨slaveG a=2 then (if w then ({m with mem:=putG m.mem a s v},v,0) else (m,getG m.mem a s,0))
  else if slaveG a=3∧s=2 then (if (devdoG m.dev w (a - 192) v).2.2=true then ({m with dev:=(devdoG m.dev w (a - 192) v).1},(devdoG m.dev w (a - 192) v).2.1,0) else (m,0,1))
  else (m,0,1))
 else (m,0,1)
theorem slave_mem {a:Int} (h:slaveG a=1∨slaveG a=2):0≤a∧a < 192:=by
 unfold slaveG at h
 repeat' split at h
 all_goals omega
theorem slave_dev {a:Int} (h:slaveG a=3):192≤a∧a < 224:=by
 unfold slaveG at h
 repeat' split at h
 all_goals omega
theorem fits_mem {m:GModel} {a s:Int} (h:ModelP m) (ha:alignedG a s=true) (hs:slaveG a=1∨slaveG a=2):fitsG m.mem a s=true:=by
 have h1:=slave_mem hs
 have h2:=h.len
 have h3:=aligned_parts ha
 have h4:a+bytesG s≤192:=by
  have h5:=(bytes_pos s).1 h3.1
  have h6:s=0∨s=1∨s=2:=by omega
  have h7:=h3.2.2
  rcases h6 with rfl|rfl|rfl<;>simp[bytesG] at h7 ⊢<;>omega
 simp only[fitsG,memG,Bool.and_eq_true,decide_eq_true_eq]
 exact⟨⟨by omega,h.bytes⟩,ha,by omega⟩
theorem i_ModelDo_eq {m:GModel} (w:Bool) (a s v:Int) (h:ModelP m):p_i_ModelDo m w a s v=some (modeldoG m w a s v):=by
 unfold p_i_ModelDo modeldoG
 rw[i_ownModel_eq m h.sm,Option.bind_some,i_ModelOk_eq m h.sm,Option.bind_some,model_iff.2 h,i_Aligned_eq,Option.bind_some,i_isNum_eq,Option.bind_some,if_neg (by simp)]
 by_cases ha:alignedG a s=true
 ·rw[ha,if_neg (by simp)]
  have hJ:(w=true→numG v s=true)→p_i_ModelDo__J1 m w a s v m false=some (if slaveG a=1∨slaveG a=2 then (if w then ({m with mem:=putG m.mem a s v},v,0) else (m,getG m.mem a s,0))
  else if slaveG a=3∧s=2 then (if (devdoG m.dev w (a - 192) v).2.2=true then ({m with dev:=(devdoG m.dev w (a - 192) v).1},(devdoG m.dev w (a - 192) v).2.1,0) else (m,0,1))
  else (m,0,1)):=by
   intro hw
   unfold p_i_ModelDo__J1
   rw[if_neg (by simp),i_SlaveOf_eq,Option.bind_some]
   unfold p_i_ModelDo__J2 p_i_ModelDo__J4 p_i_ModelDo__J3
   rw[i_ownModel_eq m h.sm,Option.bind_some]
   by_cases h1:slaveG a=1∨slaveG a=2
   ·have h3:¬slaveG a=3:=by omega
    have hf:=fits_mem h ha h1
    cases w with
    | true=>
     rw[i_PutNum_eq hf (hw rfl),Option.bind_some]
     rcases h1 with h1|h1<;>simp[h1,h3]
    | false=>
     rw[i_GetNum_eq hf,Option.bind_some]
     rcases h1 with h1|h1<;>simp[h1,h3]
   ·have h2:¬slaveG a=1:=fun h=>h1 (.inl h)
    have h4:¬slaveG a=2:=fun h=>h1 (.inr h)
    by_cases h3:slaveG a=3
    ·have h5:=slave_dev h3
     rw[subW_of (by omega) (by omega),i_DevDo_eq w _ v h.dev,Option.bind_some]
     by_cases h6:s=2
     ·by_cases h7:(devdoG m.dev w (a - 192) v).2.2=true<;>simp[h3,h6,h7]
     ·simp[h3,h6]
    ·simp[h2,h3,h4]
  cases w with
  | false=>
   simp only[Bool.false_eq_true,if_false,Bool.false_and,Bool.not_false,Bool.and_true,if_true]
   exact hJ (by simp)
  | true=>
   by_cases hv:numG v s=true
   ·simp only[hv,Bool.not_true,if_true,Bool.and_false,Bool.not_false,Bool.and_true]
    exact hJ (fun _=>hv)
   ·simp[hv,p_i_ModelDo__J1]
 ·simp[ha,p_i_ModelDo__J1]
theorem s_ModelDo_eq {m:GModel} (w:Bool) (a s v:Int) (h:ModelP m):p_s_ModelDo m w a s v=some (modeldoG m w a s v):=by
 unfold p_s_ModelDo modeldoG
 rw[s_l9Copy_eq m h.sm,Option.bind_some,s_ModelOk_eq m h.sm,Option.bind_some,model_iff.2 h,s_Aligned_eq,Option.bind_some,s_LimitOf_eq,Option.bind_some,s_num_eq,Option.bind_some,if_neg (by simp)]
 by_cases ha:alignedG a s=true
 ·rw[ha,if_neg (by simp)]
  have hJ:(w=true→numG v s=true)→p_s_ModelDo__J1 m w a s v m false=some (if slaveG a=1∨slaveG a=2 then (if w then ({m with mem:=putG m.mem a s v},v,0) else (m,getG m.mem a s,0))
  else if slaveG a=3∧s=2 then (if (devdoG m.dev w (a - 192) v).2.2=true then ({m with dev:=(devdoG m.dev w (a - 192) v).1},(devdoG m.dev w (a - 192) v).2.1,0) else (m,0,1))
  else (m,0,1)):=by
   intro hw
   unfold p_s_ModelDo__J1
   rw[if_neg (by simp),s_SlaveOf_eq,Option.bind_some]
   unfold p_s_ModelDo__J2 p_s_ModelDo__J3
   by_cases h1:slaveG a=1∨slaveG a=2
   ·have h3:¬slaveG a=3:=by omega
    have hf:=fits_mem h ha h1
    cases w with
    | true=>
     rw[s_PutNum_eq hf (hw rfl),Option.bind_some]
     rcases h1 with h1|h1<;>simp[h1,h3]
    | false=>
     rw[s_GetNum_eq hf,Option.bind_some]
     rcases h1 with h1|h1<;>simp[h1,h3]
   ·have h2:¬slaveG a=1:=fun h=>h1 (.inl h)
    have h4:¬slaveG a=2:=fun h=>h1 (.inr h)
    by_cases h3:slaveG a=3
    ·have h5:=slave_dev h3
     rw[subW_of (by omega) (by omega),s_DevDo_eq w _ v h.dev,Option.bind_some]
     by_cases h6:s=2
     ·by_cases h7:(devdoG m.dev w (a - 192) v).2.2=true<;>simp[h3,h6,h7]
     ·simp[h3,h6]
    ·simp[h2,h3,h4]
  cases w with
  | false=>
   simp only[Bool.false_eq_true,if_false,Bool.false_and,Bool.not_false,Bool.and_true,if_true]
   exact hJ (by simp)
  | true=>
   by_cases hv:numG v s=true
   ·simp only[hv,Bool.not_true,if_true,Bool.and_false,Bool.not_false,Bool.and_true]
    exact hJ (fun _=>hv)
   ·simp[hv,p_s_ModelDo__J1]
 ·simp[ha,p_s_ModelDo__J1]
theorem limit_pow (s:Int) (h:0 < bytesG s):(256:Int)^(bytesG s).toNat=limitG s:=by
 have h1:=(bytes_pos s).1 h
 have:s=0∨s=1∨s=2:=by omega
 rcases this with rfl|rfl|rfl<;>decide
theorem modeldo_ok {m:GModel} {w:Bool} {a s v:Int} (h:ModelP m) (hs:alignedG a s=true):ModelP (modeldoG m w a s v).1∧numG (modeldoG m w a s v).2.1 s=true∧((modeldoG m w a s v).2.2=0∨(modeldoG m w a s v).2.2=1):=by
 have hp:=aligned_parts hs
 have hz:numG 0 s=true:=by
  have h1:=(bytes_pos s).1 hp.1
  have:s=0∨s=1∨s=2:=by omega
  rcases this with rfl|rfl|rfl<;>decide
 unfold modeldoG
 split
 ·rename_i h1
  split
  ·rename_i h2
   have hf:=fits_mem h hs h2
   split
   ·rename_i hw
    have hv:numG v s=true:=by
     rw[hw] at h1
     simpa [hs] using h1
    exact⟨⟨by simp only[putG,putL_len,h.len],putL_bytes _ _ _ _ h.bytes,h.dev⟩,hv,.inl rfl⟩
   ·obtain⟨h3,h4,h5,h6,h7⟩:=fits_parts hf
    have h8:=getL_le h4 (bytesG s).toNat a h6 (by omega)
    rw[limit_pow s h5] at h8
    exact⟨h,by simp only[numG,getG];exact decide_eq_true h8,.inl rfl⟩
  ·split
   ·rename_i h3
    split
    ·rename_i h4
     have h5:=devdo_ok (w:=w) (a:=a - 192) (v:=v) h.dev
     have h6:=h5.2 h4
     rw[h3.2]
     exact⟨⟨h.len,h.bytes,h5.1⟩,h6,.inl rfl⟩
    ·exact⟨h,hz,.inr rfl⟩
   ·exact⟨h,hz,.inr rfl⟩
 ·exact⟨h,hz,.inr rfl⟩
end Go.Proofs.YtciimjnpdmmfnaaGreat.Ev
namespace Go.Proofs.YtciimjnpdmmfnaaGreat.Ev
open Go Go.Proofs
set_option linter.unusedVariables false
set_option linter.unusedSimpArgs false
def Tells (p:Option Bool) (P:Prop):Prop:=∃r,p=some r∧(r=true↔P)
theorem Tells.of {b:Bool} {P:Prop} (h:b=true↔P):Tells (some b) P:=⟨b,rfl,h⟩
theorem Tells.iff {p:Option Bool} {P Q:Prop} (h:Tells p P) (e:P↔Q):Tells p Q:=by
 obtain⟨r,h1,h2⟩:=h;exact⟨r,h1,h2.trans e⟩
theorem Tells.yes {P:Prop} (h:P):Tells (some true) P:=⟨true,rfl,by simp[h]⟩
theorem Tells.no {P:Prop} (h:¬P):Tells (some false) P:=⟨false,rfl,by simp[h]⟩
theorem Tells.eq {p q:Option Bool} {P:Prop} (h:Tells p P) (h':Tells q P):∃r,p=some r∧q=some r∧(r=true↔P):=by
 obtain⟨r,h1,h2⟩:=h
 obtain⟨r',h3,h4⟩:=h'
 have:r=r':=by
  cases r<;>cases r'<;>simp_all
 subst this
 exact⟨r,h1,h3,h2⟩
theorem Tells.bnd {x:Option Bool} {P Q:Prop} {f:Bool→Option Bool} (h:Tells x P) (h1:P→Tells (f true) Q) (h2:¬P→Tells (f false) Q):Tells (x.bind f) Q:=by
 obtain⟨r,rfl,hr⟩:=h
 rw[Option.bind_some]
 cases r with
 | true=>exact h1 (hr.1 rfl)
 | false=>exact h2 (fun hp=>by simpa using hr.2 hp)
theorem Tells.and {x y:Option Bool} {P Q:Prop} (h:Tells x P) (h1:P→Tells y Q):Tells (x.bind fun r=>if r=true then y else some false) (P∧Q):=by
 refine h.bnd (fun hp=>?_) (fun hp=>?_)
 ·rw[if_pos rfl];exact (h1 hp).iff ⟨fun q=>⟨hp,q⟩,fun q=>q.2⟩
 ·rw[if_neg (by simp)];exact .no fun q=>hp q.1
section
variable {σ:Type}
theorem loop_tells {n:Nat} (hn:n < 4611686018427387904) {P:Nat→Prop} {Q:Prop} (st:Nat→σ) {B:(σ→Int→Option Bool)→σ→Int→Option Bool} {L:Nat→σ→Int→Option Bool} (hL:∀m s i,L (m+1) s i=B (L m) s i)
  (hs:∀k,k < n→(P k∧∀κ,B κ (st k) (k:Int)=κ (st (k+1)) (addW (k:Int) 1))∨(¬P k∧∀κ,B κ (st k) (k:Int)=some false))
  (hf:(∀k,k < n→P k)→∃r,(∀κ,B κ (st n) (n:Int)=some r)∧(r=true↔Q)):Tells (L FU (st 0) 0) ((∀k,k < n→P k)∧Q):=by
 have key:∀(m k:Nat),k≤n→n - k < m→(∀j,j < k→P j)→Tells (L m (st k) (k:Int)) ((∀j,j < n→P j)∧Q):=by
  intro m
  induction m with
  | zero=>intro k _ h;omega
  | succ m ih=>
   intro k hk hm hp
   rw[hL]
   by_cases hc:k < n
   ·rcases hs k hc with⟨h1,h2⟩|⟨h1,h2⟩
    ·rw[h2,addW_nat (by omega)]
     refine ih (k+1) (by omega) (by omega) fun j hj=>?_
     by_cases hjk:j=k
     ·subst hjk;exact h1
     ·exact hp j (by omega)
    ·rw[h2];exact .no fun q=>h1 (q.1 k hc)
   ·have:k=n:=by omega
    subst this
    obtain⟨r,hr,hq⟩:=hf hp
    rw[hr]
    exact .of ⟨fun h=>⟨hp,hq.1 h⟩,fun h=>hq.2 h.2⟩
 have:=key FU 0 (Nat.zero_le _) (by have:=FU_big;omega) (fun j hj=>by omega)
 simpa using this
theorem loop_tells1 {n:Nat} (hn:n < 4611686018427387904) {P:Nat→Prop} {Q:Prop} {B:(Int→Option Bool)→Int→Option Bool} {L:Nat→Int→Option Bool} (hL:∀m i,L (m+1) i=B (L m) i)
  (hs:∀k,k < n→(P k∧∀κ,B κ (k:Int)=κ (addW (k:Int) 1))∨(¬P k∧∀κ,B κ (k:Int)=some false))
  (hf:(∀k,k < n→P k)→∃r,(∀κ,B κ (n:Int)=some r)∧(r=true↔Q)):Tells (L FU 0) ((∀k,k < n→P k)∧Q):=
 loop_tells (σ:=Unit) hn (fun _=>()) (B:=fun κ _ i=>B (κ ()) i) (L:=fun m _ i=>L m i) (fun m _ i=>hL m i) (fun k hk=>(hs k hk).imp (fun h=>⟨h.1,fun κ=>h.2 _⟩) fun h=>⟨h.1,fun κ=>h.2 _⟩)
  (fun h=>by obtain⟨r,h1,h2⟩:=hf h;exact⟨r,fun κ=>h1 _,h2⟩)
end
instance:Inhabited GDone:=⟨GDone.z0⟩
instance:Inhabited GBeat:=⟨GBeat.z0⟩
def locksG (m:GMst):Bool:=decide (m.queue≠[])&&((atI m.queue 0).lock&&!m.broken)
def flyG (b:GBus) (i:Int):Int:=(if b.addr.live=true∧b.addr.who=i then 1 else 0)+(if b.data_.live=true∧b.data_.who=i then 1 else 0)
structure MstP (c:GConf) (b:GBus) (i:Int):Prop where
 right:RightP (atI b.m i)
 tries:(atI b.m i).tries≤c.maxRetry
 bucket:bucketG (atI b.buckets i) (atI c.masters i)=true
 split:0≤atI b.splits i∧atI b.splits i≤c.maxSplit
def liveP (b:GBus) (x:GBeat):Prop:=masterG b.conf x.who=true∧(1≤x.by_∧x.by_≤3)∧atI b.splits x.who=0
def addrP (b:GBus):Prop:=if b.addr.live=true then b.addr.beat=(atI b.m b.addr.who).beat - 1∧b.addr.left=0∧b.addr.resp=0∧b.addr.second=false else b.addr=GBeat.z0
def dataP (b:GBus):Prop:=if b.data_.live=true then
  (b.data_.beat=(atI b.m b.data_.who).done∧(0≤b.data_.left∧b.data_.left≤b.conf.maxWait+2)∧(0≤b.data_.resp∧b.data_.resp≤3))∧
  (b.data_.resp=2→(atI b.m b.data_.who).tries < b.conf.maxRetry)∧(b.data_.resp=3→(atI b.m b.data_.who).parted=false∧b.data_.who≠b.holder)∧
  (b.data_.second=true→b.data_.left=0∧b.data_.resp≠0∧b.addr.live=false)
 else b.data_=GBeat.z0
def heldP (b:GBus):Prop:=(∀i,masterG b.conf i=true→(atI b.m i).beat > 0→locksG (atI b.m i)=true→b.holder=i)∧
 (if b.holder=-1 then b.held=0 else masterG b.conf b.holder=true∧locksG (atI b.m b.holder)=true∧atI b.splits b.holder=0∧(0≤b.held∧b.held≤b.conf.lockMost))
def doneP (c:GConf) (now:Int) (d:GDone):Prop:=(0≤d.cycle∧d.cycle < now)∧masterG c d.who=true∧alignedG d.addr d.size=true∧d.addr < 512∧numG d.value d.size=true∧(d.resp=0∨d.resp=1)
def logP (b:GBus):Prop:=(∀d∈b.log,doneP b.conf b.now d)∧b.log.Pairwise fun x y=>x.cycle < y.cycle
structure BusP (b:GBus):Prop where
 conf:confG b.conf=true
 now:0≤b.now∧b.now≤4000
 ml:b.m.length=b.conf.masters.length
 bl:b.buckets.length=b.conf.masters.length
 sl:b.splits.length=b.conf.masters.length
 mst:∀i,masterG b.conf i=true→MstP b.conf b i
 arb:wrrG b.arb b.conf=true
 last:b.last=-1∨masterG b.conf b.last=true
 model:ModelP b.model
 picks:0≤b.picks∧b.picks≤b.now
 alive:b.addr.live=true→liveP b b.addr
 dlive:b.data_.live=true→liveP b b.data_
 fly:∀i,masterG b.conf i=true→(atI b.m i).beat - (atI b.m i).done=flyG b i
 addr:addrP b
 data:dataP b
 held:heldP b
 log:logP b
structure GBus.sm (b:GBus):Prop where
 conf:b.conf.masters.length < 1048577
 ml:b.m.length < 1048577
 mst:∀x∈b.m,x.sm
 bl:b.buckets.length < 1048577
 sl:b.splits.length < 1048577
 model:b.model.sm
 log:b.log.length < 1048577
theorem mas {c:GConf} {k:Nat} (h:k < c.masters.length):masterG c (k:Int)=true:=by simp[masterG,h]
theorem mas_nat {c:GConf} {i:Int} (h:masterG c i=true):∃k:Nat,i=(k:Int)∧k < c.masters.length:=by
 simp only[masterG,decide_eq_true_eq] at h
 exact⟨i.toNat,by omega,by omega⟩
theorem all_mas {c:GConf} {P:Int→Prop}:(∀i,masterG c i=true→P i)↔∀k:Nat,k < c.masters.length→P (k:Int):=by
 constructor
 ·intro h k hk;exact h _ (mas hk)
 ·intro h i hi
  obtain⟨k,rfl,hk⟩:=mas_nat hi
  exact h k hk
theorem idx_m {b:GBus} (hl:b.m.length=b.conf.masters.length) {i:Int} (h:masterG b.conf i=true):idx b.m i=some (atI b.m i):=by
 simp only[masterG,decide_eq_true_eq] at h;exact idx_at h.1 (by omega)
theorem idx_b {b:GBus} (hl:b.buckets.length=b.conf.masters.length) {i:Int} (h:masterG b.conf i=true):idx b.buckets i=some (atI b.buckets i):=by
 simp only[masterG,decide_eq_true_eq] at h;exact idx_at h.1 (by omega)
theorem idx_s {b:GBus} (hl:b.splits.length=b.conf.masters.length) {i:Int} (h:masterG b.conf i=true):idx b.splits i=some (atI b.splits i):=by
 simp only[masterG,decide_eq_true_eq] at h;exact idx_at h.1 (by omega)
theorem idx_c {c:GConf} {i:Int} (h:masterG c i=true):idx c.masters i=some (atI c.masters i):=by
 simp only[masterG,decide_eq_true_eq] at h;exact idx_at h.1 h.2
theorem mem_m {b:GBus} (hl:b.m.length=b.conf.masters.length) {i:Int} (h:masterG b.conf i=true):atI b.m i∈b.m:=by
 simp only[masterG,decide_eq_true_eq] at h;exact at_mem h.1 (by omega)
theorem z0_eq (x:GBeat):((x.live == false)&&(decide (x.who=0)&&(decide (x.beat=0)&&((x.first == false)&&(decide (x.by_=0)&&(decide (x.left=0)&&(decide (x.resp=0)&&((x.second == false)&&true))))))))=true↔x=GBeat.z0:=by
 obtain⟨a1,a2,a3,a4,a5,a6,a7,a8⟩:=x
 simp only[Bool.and_eq_true,beq_iff_eq,decide_eq_true_eq,GBeat.mk.injEq,and_true]
theorem i_locks_eq (m:GMst):p_i_locks m=some (locksG m):=by
 unfold p_i_locks locksG
 by_cases h:m.queue=[]
 ·simp[h]
 ·have h1:0 < m.queue.length:=List.length_pos_iff.2 h
  rw[idx_at (by omega) (by omega),Option.bind_some,if_pos (by simp;omega)]
  cases h2:(atI m.queue 0).lock<;>simp[h]
theorem i_areMasters_tells (b:GBus) (hs:b.sm) (hc:confG b.conf=true):Tells (p_i_Bus_areMasters b) (b.m.length=b.conf.masters.length∧b.buckets.length=b.conf.masters.length∧b.splits.length=b.conf.masters.length∧∀i,masterG b.conf i=true→MstP b.conf b i):=by
 unfold p_i_Bus_areMasters
 by_cases h1:b.m.length=b.conf.masters.length
 ·rw[if_neg (by simp;omega)]
  by_cases h2:b.buckets.length=b.conf.masters.length
  ·rw[if_neg (by simp;omega)]
   unfold p_i_Bus_areMasters__J2
   by_cases h3:b.splits.length=b.conf.masters.length
   ·rw[if_neg (by simp;omega)]
    have:=conf_len hc
    refine (loop_tells1 (n:=b.m.length) (P:=fun k=>MstP b.conf b (k:Int)) (Q:=True) (by omega) (B:=p_i_Bus_areMasters__L1b b) (fun m i=>rfl) (fun k hk=>?_) fun _=>⟨true,fun κ=>?_,by simp⟩).iff ?_
    ·have hm:=mas (c:=b.conf) (k:=k) (by omega)
     have hms:=hs.mst _ (mem_m h1 hm)
     unfold p_i_Bus_areMasters__L1b
     simp only[if_pos (show decide ((k:Int) < (b.m.length:Int))=true by simpa using hk),idx_m h1 hm,idx_b h2 hm,idx_s h3 hm,idx_c hm,Option.bind_some,i_isConsistent_eq _ hms,i_BucketOk_eq,within_eq]
     by_cases e1:rightG (atI b.m (k:Int))=true
     ·by_cases e2:(atI b.m (k:Int)).tries≤b.conf.maxRetry
      ·by_cases e3:bucketG (atI b.buckets (k:Int)) (atI b.conf.masters (k:Int))=true
       ·by_cases e4:0≤atI b.splits (k:Int)∧atI b.splits (k:Int)≤b.conf.maxSplit
        ·refine .inl ⟨⟨right_iff.1 e1,e2,e3,e4⟩,fun κ=>?_⟩
         have e5:¬(atI b.m (k:Int)).tries > b.conf.maxRetry:=by omega
         simp[e1,e3,e4,e5]
        ·refine .inr ⟨fun h=>e4 h.split,fun κ=>?_⟩
         simp[e1,e3,e4]
       ·refine .inr ⟨fun h=>e3 h.bucket,fun κ=>?_⟩
        simp[e1,e3]
      ·refine .inr ⟨fun h=>e2 h.tries,fun κ=>?_⟩
       have e5:(atI b.m (k:Int)).tries > b.conf.maxRetry:=by omega
       simp[e1,e5]
     ·refine .inr ⟨fun h=>e1 (right_iff.2 h.right),fun κ=>?_⟩
      simp[e1]
    ·unfold p_i_Bus_areMasters__L1b
     rw[if_neg (by simp)]
    ·rw[and_true,h1,←all_mas]
     exact⟨fun h=>⟨rfl,h2,h3,h⟩,fun h=>h.2.2.2⟩
   ·rw[if_pos (by simp;omega)]
    exact .no fun h=>h3 h.2.2.1
  ·rw[if_pos (by simp;omega)]
   unfold p_i_Bus_areMasters__J2
   rw[if_pos rfl]
   exact .no fun h=>h2 h.2.1
 ·rw[if_pos (by simp;omega)]
  unfold p_i_Bus_areMasters__J2
  rw[if_pos rfl]
  exact .no fun h=>h1 h.1
theorem i_live_eq (b:GBus):p_i_Bus_live b=some ([b.addr,b.data_].filter (·.live)):=by
 unfold p_i_Bus_live
 have:p_slices_DeleteFunc_Beat_Beat__i_Bus_live_1 [b.addr,b.data_]=some ([b.addr,b.data_].filter (·.live)):=by
  unfold p_slices_DeleteFunc_Beat_Beat__i_Bus_live_1 p_slices_IndexFunc_Beat_Beat__i_Bus_live_1
  exact delete_list [b.addr,b.data_] GBeat.z0 (by simp) p_i_Bus_live_1 (·.live) (fun a _=>rfl) _ (fun m i=>rfl) _ (fun m v i j=>rfl)
 rw[this]
 rfl
def flyL:List GBeat→List Int→List Int
 | [],l=>l
 | x::xs,l=>flyL xs (l.set x.who.toNat (atI l x.who+1))
theorem flyL_snoc:∀(xs:List GBeat) (x:GBeat) (l:List Int),flyL (xs++[x]) l=(flyL xs l).set x.who.toNat (atI (flyL xs l) x.who+1):=by
 intro xs
 induction xs with
 | nil=>intro x l;rfl
 | cons y xs ih=>intro x l;exact ih x _
theorem flyL_len:∀(xs:List GBeat) (l:List Int),(flyL xs l).length=l.length:=by
 intro xs
 induction xs with
 | nil=>intro l;rfl
 | cons y xs ih=>intro l;rw[flyL,ih,List.length_set]
theorem flyL_at:∀(xs:List GBeat) (l:List Int) (i:Int),0≤i→i < (l.length:Int)→(∀x∈xs,0≤x.who∧x.who < (l.length:Int))→atI (flyL xs l) i=atI l i+(xs.countP fun x=>decide (x.who=i):Nat):=by
 intro xs
 induction xs with
 | nil=>intro l i _ _ _;simp[flyL]
 | cons y xs ih=>
  intro l i h0 h1 hx
  have hy:=hx y (List.mem_cons_self ..)
  rw[flyL,ih _ i h0 (by simpa using h1) (fun x hxm=>by simpa using hx x (List.mem_cons_of_mem _ hxm)),List.countP_cons]
  by_cases h:y.who=i
  ·subst h
   rw[at_set_self _ hy.1 hy.2]
   simp;omega
  ·rw[at_set_ne _ hy.1 h0 h]
   simp[h]
theorem fly_count (b:GBus) (i:Int):(([b.addr,b.data_].filter (·.live)).countP fun x=>decide (x.who=i):Nat)=flyG b i:=by
 unfold flyG
 by_cases h1:b.addr.live=true<;>by_cases h2:b.data_.live=true<;>by_cases h3:b.addr.who=i<;>by_cases h4:b.data_.who=i<;>simp[h1,h2,h3,h4]
theorem live_all {b:GBus} {P:GBeat→Prop}:(∀k (h:k < ([b.addr,b.data_].filter (·.live)).length),P (([b.addr,b.data_].filter (·.live))[k]))↔(b.addr.live=true→P b.addr)∧(b.data_.live=true→P b.data_):=by
 have:(∀k (h:k < ([b.addr,b.data_].filter (·.live)).length),P (([b.addr,b.data_].filter (·.live))[k]))↔∀x∈[b.addr,b.data_].filter (·.live),P x:=by
  constructor
  ·intro h x hx
   obtain⟨k,hk,rfl⟩:=List.getElem_of_mem hx
   exact h k hk
  ·intro h k hk;exact h _ (List.getElem_mem hk)
 rw[this]
 constructor
 ·intro h;exact⟨fun h1=>h _ (by simp[h1]),fun h1=>h _ (by simp[h1])⟩
 ·intro h x hx
  simp only[List.mem_filter,List.mem_cons,List.not_mem_nil,or_false] at hx
  rcases hx with⟨rfl|rfl,hx⟩
  ·exact h.1 hx
  ·exact h.2 hx
theorem i_J7_tells (b:GBus):Tells (p_i_Bus_areBeats__J7 b false) (b.data_.second=true→b.data_.left=0∧b.data_.resp≠0∧b.addr.live=false):=by
 unfold p_i_Bus_areBeats__J7
 rw[if_neg (by simp)]
 by_cases h1:b.data_.second=true
 ·rw[if_neg (by simp[h1])]
  by_cases h2:b.data_.left=0
  ·rw[if_pos (by simpa using h2)]
   by_cases h3:b.data_.resp=0
   ·rw[if_neg (by simpa using h3)];exact .no fun h=>(h h1).2.1 h3
   ·rw[if_pos (by simpa using h3)]
    exact .of (by simp[h1,h2,h3])
  ·rw[if_neg (by simpa using h2)];exact .no fun h=>h2 (h h1).1
 ·rw[if_pos (by simpa using h1)];exact .yes fun h=>absurd h h1
theorem conf_lims {c:GConf} (hc:confG c=true):(0≤c.maxRetry∧c.maxRetry≤3)∧(0≤c.maxWait∧c.maxWait≤3)∧(1≤c.lockMost∧c.lockMost≤40)∧(1≤c.maxSplit∧c.maxSplit≤12):=by
 simp only[confG,Bool.and_eq_true,decide_eq_true_eq] at hc
 have h3:=hc.1.2
 have h4:costG c≠0:=fun h=>h3 (by unfold slotG;rw[if_pos h])
 have h5:1≤c.lockMost∧c.lockMost≤40:=by
  unfold slotG at h3
  rw[if_neg h4] at h3
  by_cases h6:1≤c.lockMost∧c.lockMost≤40
  ·exact h6
  ·rw[if_neg h6] at h3;exact absurd rfl h3
 have h6:(0≤c.maxRetry∧c.maxRetry≤3)∧(0≤c.maxWait∧c.maxWait≤3):=by
  unfold costG at h4
  by_cases h7:(0≤c.maxRetry∧c.maxRetry≤3)∧(0≤c.maxWait∧c.maxWait≤3)
  ·exact h7
  ·rw[if_neg h7] at h4;exact absurd rfl h4
 exact⟨h6.1,h6.2,h5,hc.1.1.2⟩
theorem i_J4_tells (b:GBus) (hc:confG b.conf=true) (h1:b.m.length=b.conf.masters.length) (hl:b.data_.live=true→liveP b b.data_):Tells (p_i_Bus_areBeats__J4 b false) (dataP b):=by
 have hw:=(conf_lims hc).2.1
 unfold p_i_Bus_areBeats__J4 dataP
 rw[if_neg (by simp)]
 by_cases hd:b.data_.live=true
 ·obtain⟨hm,hby,hsp⟩:=hl hd
  rw[if_neg (by simp[hd]),idx_m h1 hm,Option.bind_some,if_pos hd,within_eq,Option.bind_some,within_eq,Option.bind_some,addW_of (by omega) (by omega)]
  have hJ6:∀v,Tells (p_i_Bus_areBeats__J6 b (atI b.m b.data_.who) v) (v=false∧(b.data_.resp=3→(atI b.m b.data_.who).parted=false∧b.data_.who≠b.holder)∧(b.data_.second=true→b.data_.left=0∧b.data_.resp≠0∧b.addr.live=false)):=by
   intro v
   unfold p_i_Bus_areBeats__J6
   cases v with
   | true=>rw[if_pos rfl];exact .no fun h=>by simp at h
   | false=>
    rw[if_neg (by simp)]
    by_cases h3:b.data_.resp=3
    ·rw[if_pos (by simpa using h3)]
     by_cases h4:(atI b.m b.data_.who).parted=true
     ·rw[if_pos h4]
      unfold p_i_Bus_areBeats__J7
      rw[if_pos rfl]
      exact .no fun h=>by have:=(h.2.1 h3).1;rw[h4] at this;cases this
     ·rw[if_neg h4]
      by_cases h5:b.data_.who=b.holder
      ·rw[decide_eq_true h5]
       unfold p_i_Bus_areBeats__J7
       rw[if_pos rfl]
       exact .no fun h=>(h.2.1 h3).2 h5
      ·rw[decide_eq_false h5]
       exact (i_J7_tells b).iff ⟨fun h=>⟨rfl,fun _=>⟨by simpa using h4,h5⟩,h⟩,fun h=>h.2.2⟩
    ·rw[if_neg (by simpa using h3)]
     exact (i_J7_tells b).iff ⟨fun h=>⟨rfl,fun h6=>absurd h6 h3,h⟩,fun h=>h.2.2⟩
  have hJ5:∀v,Tells (p_i_Bus_areBeats__J5 b (atI b.m b.data_.who) v) (v=false∧(b.data_.resp=2→(atI b.m b.data_.who).tries < b.conf.maxRetry)∧(b.data_.resp=3→(atI b.m b.data_.who).parted=false∧b.data_.who≠b.holder)∧(b.data_.second=true→b.data_.left=0∧b.data_.resp≠0∧b.addr.live=false)):=by
   intro v
   unfold p_i_Bus_areBeats__J5
   cases v with
   | true=>rw[if_pos rfl];exact .no fun h=>by simp at h
   | false=>
    rw[if_neg (by simp)]
    by_cases h3:b.data_.resp=2
    ·rw[if_pos (by simpa using h3)]
     refine (hJ6 _).iff ?_
     simp[h3]
    ·rw[if_neg (by simpa using h3)]
     refine (hJ6 _).iff ?_
     simp[h3]
  by_cases h3:b.data_.beat=(atI b.m b.data_.who).done
  ·rw[if_neg (by simpa using h3)]
   by_cases h4:0≤b.data_.left∧b.data_.left≤b.conf.maxWait+2
   ·rw[if_neg (by simpa using h4)]
    refine (hJ5 _).iff ?_
    simp[h3,h4]
   ·rw[if_pos (by rw[decide_eq_false h4];rfl)]
    exact (hJ5 _).iff ⟨fun h=>by simp at h,fun h=>absurd h.1.2.1 h4⟩
  ·rw[if_pos (by simpa using h3)]
   exact (hJ5 _).iff ⟨fun h=>by simp at h,fun h=>absurd h.1.1 h3⟩
 ·rw[if_pos (by simpa using hd),if_neg hd]
  exact .of (z0_eq _)
theorem at_bnd {l:List Int} {N:Int} (hN:0≤N) (h:∀v∈l,0≤v∧v≤N) (i:Int):0≤atI l i∧atI l i≤N:=by
 unfold atI
 rw[List.getD_eq_getElem?_getD]
 cases hg:l[i.toNat]? with
 | none=>exact⟨Int.le_refl _,hN⟩
 | some v=>exact h v (List.mem_of_getElem? hg)
theorem flyL_bnd:∀(xs:List GBeat) (l:List Int) (N:Int),0≤N→(∀v∈l,0≤v∧v≤N)→∀v∈flyL xs l,0≤v∧v≤N+xs.length:=by
 intro xs
 induction xs with
 | nil=>intro l N _ h v hv;have:=h v hv;simpa using this
 | cons x xs ih=>
  intro l N hN h v hv
  have h2:=at_bnd hN h x.who
  have:=ih (l.set x.who.toNat (atI l x.who+1)) (N+1) (by omega) (fun y hy=>by
   rcases List.mem_or_eq_of_mem_set hy with hy|rfl
   ·have:=h y hy;omega
   ·omega) v hv
  simp only[List.length_cons]
  omega
theorem i_areBeats_tells (b:GBus) (hc:confG b.conf=true) (h1:b.m.length=b.conf.masters.length) (h3:b.splits.length=b.conf.masters.length) (hr:∀i,masterG b.conf i=true→RightP (atI b.m i)):
  Tells (p_i_Bus_areBeats b) (((b.addr.live=true→liveP b b.addr)∧(b.data_.live=true→liveP b b.data_))∧(∀i,masterG b.conf i=true→(atI b.m i).beat - (atI b.m i).done=flyG b i)∧addrP b∧dataP b):=by
 have hlen:=conf_len hc
 have hlt:=conf_lt hc
 unfold p_i_Bus_areBeats
 rw[mkI_of (by omega) (by omega),Option.bind_some,i_live_eq,Option.bind_some]
 generalize hLs:[b.addr,b.data_].filter (·.live)=ls
 have hls:ls.length≤2:=by
  rw[←hLs]
  exact Nat.le_trans (List.length_filter_le ..) (by simp)
 have hmast:∀x:GBeat,masterG b.conf x.who=true→0≤x.who∧x.who < (b.m.length:Int):=fun x h=>by
  simp only[masterG,decide_eq_true_eq] at h;omega
 have hL2:(∀x∈ls,masterG b.conf x.who=true)→((b.addr.live=true→liveP b b.addr)∧(b.data_.live=true→liveP b b.data_))→Tells (p_i_Bus_areBeats__L2 b FU (flyL ls (List.replicate b.m.length 0)) 0) ((∀i,masterG b.conf i=true→(atI b.m i).beat - (atI b.m i).done=flyG b i)∧addrP b∧dataP b):=by
  intro hml hlive
  have hfa:∀i,masterG b.conf i=true→atI (flyL ls (List.replicate b.m.length 0)) i=flyG b i:=by
   intro i hi
   simp only[masterG,decide_eq_true_eq] at hi
   rw[flyL_at _ _ i hi.1 (by simp;omega) (fun x hx=>by have:=hmast x (hml x hx);simpa using this),←fly_count,hLs]
   have:atI (List.replicate b.m.length (0:Int)) i=0:=by
    unfold atI
    rw[List.getD_eq_getElem?_getD,List.getElem?_replicate]
    split<;>rfl
   rw[this];simp
  have hQ:∃r,(∀κ,p_i_Bus_areBeats__L2b b κ (flyL ls (List.replicate b.m.length 0)) (b.m.length:Int)=some r)∧(r=true↔addrP b∧dataP b):=by
   obtain⟨r,h4,h5⟩:=i_J4_tells b hc h1 hlive.2
   have hJ4t:p_i_Bus_areBeats__J4 b true=some false:=by unfold p_i_Bus_areBeats__J4;rw[if_pos rfl]
   by_cases ha:b.addr.live=true
   ·obtain⟨hm,hby,hsp⟩:=hlive.1 ha
    have hrb:=right_bnd (hr _ hm)
    by_cases e1:b.addr.beat=(atI b.m b.addr.who).beat - 1∧b.addr.left=0∧b.addr.resp=0∧b.addr.second=false
    ·refine⟨r,fun κ=>?_,?_⟩
     ·unfold p_i_Bus_areBeats__L2b
      obtain⟨f1,f2,f3,f4⟩:=e1
      rw[if_neg (by simp),if_pos ha,idx_m h1 hm,Option.bind_some,subW_of (by omega) (by omega)]
      simp only[f1,f2,f3,f4,ha,ne_eq,not_true_eq_false,decide_false,Bool.false_eq_true,if_false,Bool.not_true,h4]
     ·rw[h5];unfold addrP;rw[if_pos ha];exact⟨fun h=>⟨e1,h⟩,fun h=>h.2⟩
    ·refine⟨false,fun κ=>?_,?_⟩
     ·unfold p_i_Bus_areBeats__L2b
      rw[if_neg (by simp),if_pos ha,idx_m h1 hm,Option.bind_some,subW_of (by omega) (by omega)]
      by_cases f1:b.addr.beat=(atI b.m b.addr.who).beat - 1
      ·by_cases f2:b.addr.left=0
       ·by_cases f3:b.addr.resp=0
        ·have f4:b.addr.second=true:=by
          cases hs:b.addr.second with
          | true=>rfl
          | false=>exact absurd ⟨f1,f2,f3,hs⟩ e1
         rw[if_neg (by simpa using f1),if_neg (by simpa using f2),if_neg (by simpa using f3),if_pos f4,hJ4t]
        ·rw[if_neg (by simpa using f1),if_neg (by simpa using f2),if_pos (by simpa using f3),hJ4t]
       ·rw[if_neg (by simpa using f1),if_pos (by simpa using f2),hJ4t]
      ·rw[if_pos (by simpa using f1),hJ4t]
     ·unfold addrP;rw[if_pos ha];simp[e1]
   ·by_cases e1:b.addr=GBeat.z0
    ·refine⟨r,fun κ=>?_,?_⟩
     ·unfold p_i_Bus_areBeats__L2b
      rw[if_neg (by simp),if_neg ha,if_pos (by simpa using ha),(z0_eq b.addr).2 e1]
      exact h4
     ·rw[h5];unfold addrP;rw[if_neg ha];exact⟨fun h=>⟨e1,h⟩,fun h=>h.2⟩
    ·refine⟨false,fun κ=>?_,?_⟩
     ·unfold p_i_Bus_areBeats__L2b
      rw[if_neg (by simp),if_neg ha,if_pos (by simpa using ha)]
      have:((b.addr.live == false)&&(decide (b.addr.who=0)&&(decide (b.addr.beat=0)&&((b.addr.first == false)&&(decide (b.addr.by_=0)&&(decide (b.addr.left=0)&&(decide (b.addr.resp=0)&&((b.addr.second == false)&&true))))))))=false:=by
       rw[←Bool.not_eq_true,z0_eq];exact e1
      rw[this,Bool.not_false,hJ4t]
     ·unfold addrP;rw[if_neg ha];simp[e1]
  obtain⟨r,hr1,hr2⟩:=hQ
  refine (loop_tells (σ:=List Int) (n:=b.m.length) (by omega) (P:=fun k=>(atI b.m (k:Int)).beat - (atI b.m (k:Int)).done=flyG b (k:Int)) (Q:=addrP b∧dataP b) (fun _=>flyL ls (List.replicate b.m.length 0)) (B:=p_i_Bus_areBeats__L2b b) (L:=p_i_Bus_areBeats__L2 b) (fun m s i=>rfl) (fun k hk=>?_) fun _=>⟨r,hr1,hr2⟩).iff ?_
  ·have hm:=mas (c:=b.conf) (k:=k) (by omega)
   have hrb:=right_bnd (hr _ hm)
   have hfl:=flyL_len ls (List.replicate b.m.length 0)
   rw[List.length_replicate] at hfl
   have hi:idx (flyL ls (List.replicate b.m.length 0)) (k:Int)=some (flyG b (k:Int)):=by
    rw[idx_at (by omega) (by omega),hfa _ hm]
   by_cases e1:(atI b.m (k:Int)).beat - (atI b.m (k:Int)).done=flyG b (k:Int)
   ·refine .inl ⟨e1,fun κ=>?_⟩
    unfold p_i_Bus_areBeats__L2b
    rw[if_pos (by simpa using hk),idx_m h1 hm,Option.bind_some,hi,Option.bind_some,subW_of (by omega) (by omega),if_neg (by simpa using e1)]
   ·refine .inr ⟨e1,fun κ=>?_⟩
    unfold p_i_Bus_areBeats__L2b
    rw[if_pos (by simpa using hk),idx_m h1 hm,Option.bind_some,hi,Option.bind_some,subW_of (by omega) (by omega),if_pos (by simpa using e1)]
  ·rw[h1,←all_mas (P:=fun i=>(atI b.m i).beat - (atI b.m i).done=flyG b i)]
 have hlv:(∀k,k < ls.length→liveP b (atI ls (k:Int)))↔((b.addr.live=true→liveP b b.addr)∧(b.data_.live=true→liveP b b.data_)):=by
  rw[←live_all (P:=liveP b),hLs]
  constructor
  ·intro h k hk;have:=h k hk;rwa [at_nat hk] at this
  ·intro h k hk;rw[at_nat hk];exact h k hk
 have hstep:∀k,k < ls.length→(liveP b (atI ls (k:Int))∧∀κ,p_i_Bus_areBeats__L1b b κ (flyL (ls.take k) (List.replicate b.m.length 0)) ls (ls.length:Int) (k:Int)=κ (flyL (ls.take (k+1)) (List.replicate b.m.length 0)) ls (ls.length:Int) (addW (k:Int) 1))∨(¬liveP b (atI ls (k:Int))∧∀κ,p_i_Bus_areBeats__L1b b κ (flyL (ls.take k) (List.replicate b.m.length 0)) ls (ls.length:Int) (k:Int)=some false):=by
  intro k hk
  have hfl:=flyL_len (ls.take k) (List.replicate b.m.length 0)
  rw[List.length_replicate] at hfl
  have hJ3:∀κ x,p_i_Bus_areBeats__J3 b κ x (flyL (ls.take k) (List.replicate b.m.length 0)) ls (ls.length:Int) (k:Int) true=some false:=fun κ x=>by unfold p_i_Bus_areBeats__J3;rw[if_pos rfl]
  by_cases e1:masterG b.conf (atI ls (k:Int)).who=true
  ·by_cases e2:1≤(atI ls (k:Int)).by_∧(atI ls (k:Int)).by_≤3
   ·by_cases e3:atI b.splits (atI ls (k:Int)).who=0
    ·refine .inl ⟨⟨e1,e2,e3⟩,fun κ=>?_⟩
     unfold p_i_Bus_areBeats__L1b
     have hw:=hmast _ e1
     rw[if_pos (by simpa using hk),idx_at (by omega) (by omega),Option.bind_some,i_isMaster_eq _ _ hlt,Option.bind_some,e1,if_neg (by simp),within_eq,Option.bind_some,if_neg (by simpa using e2),idx_s h3 e1,Option.bind_some,e3]
     unfold p_i_Bus_areBeats__J3
     have hb:=at_bnd (by omega) (flyL_bnd (ls.take k) (List.replicate b.m.length 0) 0 (by omega) (fun v hv=>by rw[List.eq_of_mem_replicate hv];omega)) (atI ls (k:Int)).who
     have hk2:(ls.take k).length≤2:=by rw[List.length_take];omega
     rw[if_neg (by simp),idx_at hw.1 (by omega),Option.bind_some,addW_of (a:=atI (flyL (ls.take k) (List.replicate b.m.length 0)) (atI ls (k:Int)).who) (by omega) (by omega),setO_of,Option.bind_some,List.take_succ_eq_append_getElem hk,flyL_snoc,at_nat hk]
    ·refine .inr ⟨fun h=>e3 h.2.2,fun κ=>?_⟩
     unfold p_i_Bus_areBeats__L1b
     rw[if_pos (by simpa using hk),idx_at (by omega) (by omega),Option.bind_some,i_isMaster_eq _ _ hlt,Option.bind_some,e1,if_neg (by simp),within_eq,Option.bind_some,if_neg (by simpa using e2),idx_s h3 e1,Option.bind_some,decide_eq_true e3,hJ3]
   ·refine .inr ⟨fun h=>e2 h.2.1,fun κ=>?_⟩
    unfold p_i_Bus_areBeats__L1b
    rw[if_pos (by simpa using hk),idx_at (by omega) (by omega),Option.bind_some,i_isMaster_eq _ _ hlt,Option.bind_some,e1,if_neg (by simp),within_eq,Option.bind_some,if_pos (by rw[decide_eq_false e2];rfl),hJ3]
  ·refine .inr ⟨fun h=>e1 h.1,fun κ=>?_⟩
   unfold p_i_Bus_areBeats__L1b
   rw[if_pos (by simpa using hk),idx_at (by omega) (by omega),Option.bind_some,i_isMaster_eq _ _ hlt,Option.bind_some,if_pos (by simpa using e1),hJ3]
 have hl1:=loop_tells (σ:=List Int×List GBeat×Int) (n:=ls.length) (by omega) (P:=fun k=>liveP b (atI ls (k:Int)))
  (Q:=(∀i,masterG b.conf i=true→(atI b.m i).beat - (atI b.m i).done=flyG b i)∧addrP b∧dataP b)
  (fun k=>(flyL (ls.take k) (List.replicate b.m.length 0),ls,(ls.length:Int))) (B:=fun κ s i=>p_i_Bus_areBeats__L1b b (fun v l n i=>κ (v,l,n) i) s.1 s.2.1 s.2.2 i) (L:=fun m s i=>p_i_Bus_areBeats__L1 b m s.1 s.2.1 s.2.2 i) (fun m s i=>rfl)
  (fun k hk=>(hstep k hk).imp (fun h=>⟨h.1,fun κ=>h.2 _⟩) fun h=>⟨h.1,fun κ=>h.2 _⟩)
 have hml:(∀k,k < ls.length→liveP b (atI ls (k:Int)))→∀x∈ls,masterG b.conf x.who=true:=by
  intro h x hx
  obtain⟨k,hk,rfl⟩:=List.getElem_of_mem hx
  have:=(h k hk).1
  rwa [at_nat hk] at this
 have hl2:=hl1 fun hall=>by
  obtain⟨r,hr1,hr2⟩:=hL2 (hml hall) (hlv.1 hall)
  refine⟨r,fun κ=>?_,hr2⟩
  unfold p_i_Bus_areBeats__L1b
  rw[if_neg (by simp),List.take_length]
  exact hr1
 simp only[List.take_zero,flyL] at hl2
 exact hl2.iff (by rw[hlv])
end Go.Proofs.YtciimjnpdmmfnaaGreat.Ev
namespace Go.Proofs.YtciimjnpdmmfnaaGreat.Ev
open Go Go.Proofs
set_option linter.unusedVariables false
set_option linter.unusedSimpArgs false
theorem i_isHeld_tells (b:GBus) (hc:confG b.conf=true) (h1:b.m.length=b.conf.masters.length) (h3:b.splits.length=b.conf.masters.length):Tells (p_i_Bus_isHeld b) (heldP b):=by
 have hlen:=conf_len hc
 have hlt:=conf_lt hc
 unfold p_i_Bus_isHeld heldP
 refine (loop_tells1 (n:=b.m.length) (by omega) (P:=fun k=>(atI b.m (k:Int)).beat > 0→locksG (atI b.m (k:Int))=true→b.holder=(k:Int))
  (Q:=if b.holder=-1 then b.held=0 else masterG b.conf b.holder=true∧locksG (atI b.m b.holder)=true∧atI b.splits b.holder=0∧(0≤b.held∧b.held≤b.conf.lockMost))
  (B:=p_i_Bus_isHeld__L1b b) (fun m i=>rfl) (fun k hk=>?_) fun _=>?_).iff ?_
 ·have hm:=mas (c:=b.conf) (k:=k) (by omega)
  unfold p_i_Bus_isHeld__L1b
  simp only[if_pos (show decide ((k:Int) < (b.m.length:Int))=true by simpa using hk),idx_m h1 hm,Option.bind_some,i_locks_eq]
  by_cases e1:(atI b.m (k:Int)).beat > 0
  ·by_cases e2:locksG (atI b.m (k:Int))=true
   ·by_cases e3:b.holder=(k:Int)
    ·exact .inl ⟨fun _ _=>e3,fun κ=>by simp[e1,e2,e3]⟩
    ·exact .inr ⟨fun h=>e3 (h e1 e2),fun κ=>by simp[e1,e2,e3]⟩
   ·exact .inl ⟨fun _ h=>absurd h e2,fun κ=>by simp[e1,e2]⟩
  ·exact .inl ⟨fun h=>absurd h e1,fun κ=>by simp[e1]⟩
 ·unfold p_i_Bus_isHeld__L1b
  simp only[Int.lt_irrefl,decide_false,Bool.false_eq_true,if_false]
  by_cases e1:b.holder=-1
  ·exact⟨decide (b.held=0),fun κ=>by simp[e1],by simp[e1]⟩
  ·simp only[e1,decide_false,Bool.false_eq_true,if_false,i_isMaster_eq _ _ hlt,Option.bind_some]
   by_cases e2:masterG b.conf b.holder=true
   ·simp only[e2,if_true,idx_m h1 e2,idx_s h3 e2,Option.bind_some,i_locks_eq,within_eq]
    by_cases e3:locksG (atI b.m b.holder)=true
    ·by_cases e4:atI b.splits b.holder=0
     ·exact⟨decide (0≤b.held∧b.held≤b.conf.lockMost),fun κ=>by simp only[e3,e4,decide_true,if_true],by simp[e3,e4]⟩
     ·exact⟨false,fun κ=>by simp[e3,e4],by simp[e4]⟩
    ·exact⟨false,fun κ=>by simp[e3],by simp[e3]⟩
   ·exact⟨false,fun κ=>by simp[e2],by simp[e2]⟩
 ·rw[h1,←all_mas (P:=fun i=>(atI b.m i).beat > 0→locksG (atI b.m i)=true→b.holder=i)]
def beforeG (l:List GDone):Nat→Int
 | 0=>-1
 | k+1=>(atI l (k:Int)).cycle
theorem pair_iff {l:List GDone}:(l.Pairwise fun x y=>x.cycle < y.cycle)↔∀k,k+1 < l.length→(atI l (k:Int)).cycle < (atI l ((k+1:Nat):Int)).cycle:=by
 constructor
 ·intro h k hk
  rw[at_nat (by omega),at_nat hk]
  exact List.pairwise_iff_getElem.1 h k (k+1) (by omega) hk (by omega)
 ·intro h
  rw[List.pairwise_iff_getElem]
  have key:∀(d i:Nat) (hj:i+d+1 < l.length),(l[i]'(by omega)).cycle < (l[i+d+1]'hj).cycle:=by
   intro d
   induction d with
   | zero=>
    intro i hj
    have:=h i hj
    rw[at_nat (by omega),at_nat hj] at this
    exact this
   | succ d ih=>
    intro i hj
    have h4:=ih i (by omega)
    have h5:=h (i+d+1) (by omega)
    rw[at_nat (by omega),at_nat (by omega)] at h5
    exact Int.lt_trans h4 h5
  intro i j hi hj hij
  have:=key (j - i - 1) i (by omega)
  have e:i+(j - i - 1)+1=j:=by omega
  simp only[e] at this
  exact this
theorem log_iff {b:GBus}:logP b↔∀k,k < b.log.length→doneP b.conf b.now (atI b.log (k:Int))∧beforeG b.log k < (atI b.log (k:Int)).cycle:=by
 unfold logP
 constructor
 ·intro h k hk
  have h1:=h.1 _ (at_mem (xs:=b.log) (i:=(k:Int)) (by omega) (by omega))
  refine⟨h1,?_⟩
  cases k with
  | zero=>have:=h1.1.1;simp only[beforeG];omega
  | succ k=>exact pair_iff.1 h.2 k hk
 ·intro h
  refine⟨fun d hd=>?_,pair_iff.2 fun k hk=>?_⟩
  ·obtain⟨k,hk,rfl⟩:=List.getElem_of_mem hd
   have:=(h k hk).1
   rwa [at_nat hk] at this
  ·exact (h (k+1) hk).2
def doneQ (c:GConf) (now:Int) (d:GDone):Prop:=d.cycle < now∧masterG c d.who=true∧alignedG d.addr d.size=true∧d.addr < 512∧numG d.value d.size=true∧(d.resp=0∨d.resp=1)
theorem log_iffQ {b:GBus}:logP b↔∀k,k < b.log.length→doneQ b.conf b.now (atI b.log (k:Int))∧beforeG b.log k < (atI b.log (k:Int)).cycle:=by
 rw[log_iff]
 constructor
 ·intro h k hk
  have:=h k hk
  exact⟨⟨this.1.1.2,this.1.2⟩,this.2⟩
 ·intro h
  have h0:∀k,k≤b.log.length→-1≤beforeG b.log k:=by
   intro k
   induction k with
   | zero=>intro _;simp[beforeG]
   | succ k ih=>
    intro hk
    have h1:=ih (by omega)
    have h2:=(h k (by omega)).2
    simp only[beforeG]
    omega
  intro k hk
  have h1:=h k hk
  have h2:=h0 k (by omega)
  exact⟨⟨⟨by omega,h1.1.1⟩,h1.1.2⟩,h1.2⟩
theorem i_isLogged_tells (b:GBus) (hc:confG b.conf=true) (hl:b.log.length < 1048577) (hn:0≤b.now∧b.now≤4000):Tells (p_i_Bus_isLogged b) (logP b):=by
 have hlt:=conf_lt hc
 unfold p_i_Bus_isLogged
 have:=loop_tells (σ:=Int) (n:=b.log.length) (by omega) (P:=fun k=>doneQ b.conf b.now (atI b.log (k:Int))∧beforeG b.log k < (atI b.log (k:Int)).cycle) (Q:=True)
  (beforeG b.log) (B:=p_i_Bus_isLogged__L1b b) (L:=p_i_Bus_isLogged__L1 b) (fun m s i=>rfl) (fun k hk=>?_) fun _=>⟨true,fun κ=>?_,by simp⟩
 ·exact this.iff (by rw[and_true,log_iffQ])
 ·have e0:beforeG b.log (k+1)=(atI b.log (k:Int)).cycle:=rfl
  rw[e0]
  unfold p_i_Bus_isLogged__L1b
  simp only[if_pos (show decide ((k:Int) < (b.log.length:Int))=true by simpa using hk),idx_at (xs:=b.log) (i:=(k:Int)) (by omega) (by omega),Option.bind_some,i_isMaster_eq _ _ hlt,i_Aligned_eq,i_isNum_eq]
  generalize atI b.log (k:Int)=d
  by_cases e1:beforeG b.log k < d.cycle
  ·have e1':¬d.cycle≤beforeG b.log k:=by omega
   by_cases e2:d.cycle < b.now
   ·have e2':¬d.cycle≥b.now:=by omega
    by_cases e3:masterG b.conf d.who=true
    ·by_cases e4:alignedG d.addr d.size=true
     ·by_cases e5:d.addr < 512
      ·have e5':¬d.addr≥512:=by omega
       by_cases e6:numG d.value d.size=true
       ·by_cases e7:d.resp=0
        ·exact .inl ⟨⟨⟨e2,e3,e4,e5,e6,.inl e7⟩,e1⟩,fun κ=>by simp[e1',e2',e3,e4,e5',e6,e7]⟩
        ·by_cases e8:d.resp=1
         ·exact .inl ⟨⟨⟨e2,e3,e4,e5,e6,.inr e8⟩,e1⟩,fun κ=>by simp[e1',e2',e3,e4,e5',e6,e8]⟩
         ·exact .inr ⟨fun h=>by have:=h.1.2.2.2.2.2;omega,fun κ=>by simp[e1',e2',e3,e4,e5',e6,e7,e8]⟩
       ·exact .inr ⟨fun h=>e6 h.1.2.2.2.2.1,fun κ=>by simp[e1',e2',e3,e4,e5',e6]⟩
      ·have e5':d.addr≥512:=by omega
       exact .inr ⟨fun h=>e5 h.1.2.2.2.1,fun κ=>by simp[e1',e2',e3,e4,e5']⟩
     ·exact .inr ⟨fun h=>e4 h.1.2.2.1,fun κ=>by simp[e1',e2',e3,e4]⟩
    ·exact .inr ⟨fun h=>e3 h.1.2.1,fun κ=>by simp[e1',e2',e3]⟩
   ·have e2':d.cycle≥b.now:=by omega
    exact .inr ⟨fun h=>e2 h.1.1,fun κ=>by simp[e1',e2']⟩
  ·have e1':d.cycle≤beforeG b.log k:=by omega
   exact .inr ⟨fun h=>e1 h.2,fun κ=>by simp[e1']⟩
 ·unfold p_i_Bus_isLogged__L1b
  rw[if_neg (by simp)]
theorem i_BusOk_tells (b:GBus) (hs:b.sm):Tells (p_i_BusOk b) (BusP b):=by
 unfold p_i_BusOk
 rw[i_ConfOk_eq _ hs.conf,Option.bind_some]
 by_cases hc:confG b.conf=true
 ·rw[if_pos hc,within_eq,Option.bind_some]
  by_cases hn:0≤b.now∧b.now≤4000
  ·rw[if_pos (decide_eq_true hn)]
   have hrest:b.m.length=b.conf.masters.length→b.buckets.length=b.conf.masters.length→b.splits.length=b.conf.masters.length→(∀i,masterG b.conf i=true→MstP b.conf b i)→
     Tells ((p_i_ModelOk b.model).bind fun r133=>if r133=true then (p_i_within b.picks 0 b.now).bind fun r140=>if r140=true then (p_i_Bus_areBeats b).bind fun r143=>if r143=true then (p_i_Bus_isHeld b).bind fun r146=>if r146=true then (p_i_Bus_isLogged b).bind fun r149=>some r149 else some false else some false else some false else some false)
      (ModelP b.model∧(0≤b.picks∧b.picks≤b.now)∧(((b.addr.live=true→liveP b b.addr)∧(b.data_.live=true→liveP b b.data_))∧(∀i,masterG b.conf i=true→(atI b.m i).beat - (atI b.m i).done=flyG b i)∧addrP b∧dataP b)∧heldP b∧logP b):=by
    intro h1 h2 h3 hm
    rw[i_ModelOk_eq _ hs.model]
    refine Tells.and (Tells.of model_iff) fun _=>?_
    rw[within_eq]
    refine Tells.and (Tells.of (decide_eq_true_iff)) fun _=>?_
    refine Tells.and (i_areBeats_tells b hc h1 h3 fun i hi=>(hm i hi).right) fun _=>?_
    refine Tells.and (i_isHeld_tells b hc h1 h3) fun _=>?_
    obtain⟨r,h4,h5⟩:=i_isLogged_tells b hc hs.log hn
    rw[h4]
    exact .of h5
   have hw:Tells (p_i_WrrOk b.arb b.conf) (wrrG b.arb b.conf=true):=by rw[i_WrrOk_eq _ _ hs.conf];exact .of Iff.rfl
   by_cases hla:b.last=-1
   ·simp only[hla,decide_true,if_true]
    refine (Tells.and (i_areMasters_tells b hs hc) fun hm=>Tells.and hw fun _=>hrest hm.1 hm.2.1 hm.2.2.1 hm.2.2.2).iff ⟨fun h=>?_,fun h=>?_⟩
    ·obtain⟨⟨h1,h2,h3,h4⟩,h5,h6,h7,⟨⟨h8,h9⟩,h10,h11,h12⟩,h13,h14⟩:=h
     exact⟨hc,hn,h1,h2,h3,h4,h5,.inl hla,h6,h7,h8,h9,h10,h11,h12,h13,h14⟩
    ·exact⟨⟨h.ml,h.bl,h.sl,h.mst⟩,h.arb,h.model,h.picks,⟨⟨h.alive,h.dlive⟩,h.fly,h.addr,h.data⟩,h.held,h.log⟩
   ·have e:decide (b.last=-1)=false:=decide_eq_false hla
    simp only[e,Bool.false_eq_true,if_false]
    have hi:Tells (p_i_isMaster b.conf b.last) (masterG b.conf b.last=true):=by rw[i_isMaster_eq _ _ hs.conf];exact .of Iff.rfl
    refine (Tells.and (i_areMasters_tells b hs hc) fun hm=>Tells.and hw fun _=>Tells.and hi fun _=>hrest hm.1 hm.2.1 hm.2.2.1 hm.2.2.2).iff ⟨fun h=>?_,fun h=>?_⟩
    ·obtain⟨⟨h1,h2,h3,h4⟩,h5,hx,h6,h7,⟨⟨h8,h9⟩,h10,h11,h12⟩,h13,h14⟩:=h
     exact⟨hc,hn,h1,h2,h3,h4,h5,.inr hx,h6,h7,h8,h9,h10,h11,h12,h13,h14⟩
    ·exact⟨⟨h.ml,h.bl,h.sl,h.mst⟩,h.arb,h.last.resolve_left hla,h.model,h.picks,⟨⟨h.alive,h.dlive⟩,h.fly,h.addr,h.data⟩,h.held,h.log⟩
  ·rw[if_neg (by simpa using hn)]
   exact .no fun h=>hn h.now
 ·rw[if_neg hc]
  exact .no fun h=>hc h.conf
theorem s_Ways_eq (b:GBus) (i:Int):p_s_l13Ways b i=some (flyG b i):=by
 unfold p_s_l13Ways p_s_l13Ways__J1 p_s_l13Ways__J2 flyG
 by_cases h1:b.addr.live=true<;>by_cases h2:b.data_.live=true<;>by_cases h3:b.addr.who=i<;>by_cases h4:b.data_.who=i<;>simp[h1,h2,h3,h4]<;>rfl
theorem s_RespWord_ne (n:Int):∃w,p_s_RespWord n=some w∧((!(w.toList == ByteArray.empty.toList))=true↔(0≤n∧n≤3)):=by
 unfold p_s_RespWord
 rw[l1In_eq,Option.bind_some]
 by_cases h:0≤n∧n≤3
 ·have:n=0∨n=1∨n=2∨n=3:=by omega
  rcases this with rfl|rfl|rfl|rfl<;>exact⟨_,rfl,by rw[ba_toList,ba_toList];decide⟩
 ·rw[if_pos (by rw[decide_eq_false h];rfl)]
  exact⟨_,rfl,by simp[h]⟩
theorem s_isMaster_eq {b:GBus} (h1:b.m.length=b.conf.masters.length) (hlt:b.conf.masters.length < 1048577) (i:Int):p_s_l1In i 0 (subW (b.m.length:Int) 1)=some (masterG b.conf i):=by
 rw[l1In_eq,h1,last_eq i hlt]
theorem s_l13Beat_addr (b:GBus) (hs:b.sm) (hc:confG b.conf=true) (h1:b.m.length=b.conf.masters.length) (h3:b.splits.length=b.conf.masters.length) (hm:∀i,masterG b.conf i=true→MstP b.conf b i):
  Tells (p_s_l13Beat b b.addr false) ((b.addr.live=true→liveP b b.addr)∧addrP b):=by
 have hlt:=conf_lt hc
 have hJ1:p_s_l13Beat__J1 b b.addr false true=some false:=by unfold p_s_l13Beat__J1;rw[if_pos rfl]
 unfold p_s_l13Beat addrP
 by_cases ha:b.addr.live=true
 ·rw[if_neg (by simp[ha]),if_pos ha,s_isMaster_eq h1 hlt,Option.bind_some,l1In_eq,Option.bind_some]
  by_cases e1:masterG b.conf b.addr.who=true
  ·rw[e1,if_neg (by simp)]
   by_cases e2:1≤b.addr.by_∧b.addr.by_≤3
   ·rw[if_neg (by simpa using e2),idx_s h3 e1,Option.bind_some]
    have hsp:=(hm _ e1).split
    by_cases e3:atI b.splits b.addr.who=0
    ·rw[decide_eq_false (by omega)]
     have hrb:=right_bnd (hm _ e1).right
     unfold p_s_l13Beat__J1
     rw[if_neg (by simp),idx_m h1 e1,Option.bind_some,if_pos (by simp),subW_of (by omega) (by omega)]
     by_cases f1:b.addr.beat=(atI b.m b.addr.who).beat - 1
     ·by_cases f2:b.addr.left=0
      ·by_cases f3:b.addr.resp=0
       ·rw[if_pos (by simpa using f1),if_pos (by simpa using f2),if_pos (by simpa using f3)]
        refine .of ⟨fun h=>⟨fun _=>⟨e1,e2,e3⟩,f1,f2,f3,by simpa using h⟩,fun h=>by simpa using h.2.2.2.2⟩
       ·rw[if_pos (by simpa using f1),if_pos (by simpa using f2),if_neg (by simpa using f3)]
        exact .no fun h=>f3 h.2.2.2.1
      ·rw[if_pos (by simpa using f1),if_neg (by simpa using f2)]
       exact .no fun h=>f2 h.2.2.1
     ·rw[if_neg (by simpa using f1)]
      exact .no fun h=>f1 h.2.1
    ·rw[decide_eq_true (by omega),hJ1]
     exact .no fun h=>e3 (h.1 ha).2.2
   ·rw[if_pos (by rw[decide_eq_false e2];rfl),hJ1]
    exact .no fun h=>e2 (h.1 ha).2.1
  ·rw[if_pos (by simpa using e1),hJ1]
   exact .no fun h=>e1 (h.1 ha).1
 ·rw[if_pos (by simpa using ha),if_neg ha]
  exact (Tells.of (z0_eq _)).iff ⟨fun h=>⟨fun h2=>absurd h2 ha,h⟩,fun h=>h.2⟩
theorem s_l13Beat_data (b:GBus) (hs:b.sm) (hc:confG b.conf=true) (h1:b.m.length=b.conf.masters.length) (h3:b.splits.length=b.conf.masters.length) (hm:∀i,masterG b.conf i=true→MstP b.conf b i):
  Tells (p_s_l13Beat b b.data_ true) ((b.data_.live=true→liveP b b.data_)∧dataP b):=by
 have hlt:=conf_lt hc
 have hw:=(conf_lims hc).2.1
 have hJ1:p_s_l13Beat__J1 b b.data_ true true=some false:=by unfold p_s_l13Beat__J1;rw[if_pos rfl]
 unfold p_s_l13Beat dataP
 by_cases ha:b.data_.live=true
 ·rw[if_neg (by simp[ha]),if_pos ha,s_isMaster_eq h1 hlt,Option.bind_some,l1In_eq,Option.bind_some]
  by_cases e1:masterG b.conf b.data_.who=true
  ·rw[e1,if_neg (by simp)]
   by_cases e2:1≤b.data_.by_∧b.data_.by_≤3
   ·rw[if_neg (by simpa using e2),idx_s h3 e1,Option.bind_some]
    have hsp:=(hm _ e1).split
    by_cases e3:atI b.splits b.data_.who=0
    ·rw[decide_eq_false (by omega)]
     have hrb:=right_bnd (hm _ e1).right
     have hJ2:Tells (p_s_l13Beat__J2 b b.data_ true (atI b.m b.data_.who) false) ((b.data_.beat=(atI b.m b.data_.who).done∧(0≤b.data_.left∧b.data_.left≤b.conf.maxWait+2)∧(0≤b.data_.resp∧b.data_.resp≤3))∧(b.data_.second=true→b.data_.left=0∧b.data_.resp≠0)):=by
      unfold p_s_l13Beat__J2
      obtain⟨w,hw1,hw2⟩:=s_RespWord_ne b.data_.resp
      rw[if_neg (by simp),l1In_eq,Option.bind_some,hw1,Option.bind_some,addW_of (by omega) (by omega)]
      by_cases f1:b.data_.beat=(atI b.m b.data_.who).done
      ·rw[if_pos (by simpa using f1)]
       by_cases f2:0≤b.data_.left∧b.data_.left≤b.conf.maxWait+2
       ·rw[if_pos (by simpa using f2)]
        by_cases f3:0≤b.data_.resp∧b.data_.resp≤3
        ·rw[if_pos (hw2.2 f3)]
         by_cases f4:b.data_.second=true
         ·rw[if_neg (by simp[f4])]
          by_cases f5:b.data_.resp=0
          ·rw[if_neg (by simpa using f5)]
           exact .no fun h=>(h.2 f4).2 f5
          ·rw[if_pos (by simpa using f5)]
           refine .of ⟨fun h=>⟨⟨f1,f2,f3⟩,fun _=>⟨by simpa using h,f5⟩⟩,fun h=>by simpa using (h.2 f4).1⟩
         ·rw[if_pos (by simpa using f4)]
          exact .yes ⟨⟨f1,f2,f3⟩,fun h=>absurd h f4⟩
        ·rw[if_neg (fun h=>f3 (hw2.1 h))]
         exact .no fun h=>f3 h.1.2.2
       ·rw[if_neg (by rw[decide_eq_false f2];simp)]
        exact .no fun h=>f2 h.1.2.1
      ·rw[if_neg (by simpa using f1)]
       exact .no fun h=>f1 h.1.1
     have hJ2t:p_s_l13Beat__J2 b b.data_ true (atI b.m b.data_.who) true=some false:=by unfold p_s_l13Beat__J2;rw[if_pos rfl]
     have hS:Tells (if b.data_.second=true then p_s_l13Beat__J2 b b.data_ true (atI b.m b.data_.who) b.addr.live else p_s_l13Beat__J2 b b.data_ true (atI b.m b.data_.who) false)
       ((b.data_.beat=(atI b.m b.data_.who).done∧(0≤b.data_.left∧b.data_.left≤b.conf.maxWait+2)∧(0≤b.data_.resp∧b.data_.resp≤3))∧(b.data_.second=true→b.data_.left=0∧b.data_.resp≠0∧b.addr.live=false)):=by
      by_cases f4:b.data_.second=true
      ·rw[if_pos f4]
       by_cases f5:b.addr.live=true
       ·rw[f5,hJ2t]
        exact .no fun h=>by have:=(h.2 f4).2.2;cases this
       ·have f6:b.addr.live=false:=by simpa using f5
        rw[f6]
        exact hJ2.iff ⟨fun h=>⟨h.1,fun h2=>⟨(h.2 h2).1,(h.2 h2).2,rfl⟩⟩,fun h=>⟨h.1,fun h2=>⟨(h.2 h2).1,(h.2 h2).2.1⟩⟩⟩
      ·rw[if_neg f4]
       exact hJ2.iff ⟨fun h=>⟨h.1,fun h2=>absurd h2 f4⟩,fun h=>⟨h.1,fun h2=>absurd h2 f4⟩⟩
     have hT:Tells (if decide (b.data_.resp=3)=true then if (atI b.m b.data_.who).parted=true then p_s_l13Beat__J2 b b.data_ true (atI b.m b.data_.who) true else if decide (b.holder=b.data_.who)=true then p_s_l13Beat__J2 b b.data_ true (atI b.m b.data_.who) true else if b.data_.second=true then p_s_l13Beat__J2 b b.data_ true (atI b.m b.data_.who) b.addr.live else p_s_l13Beat__J2 b b.data_ true (atI b.m b.data_.who) false
       else if b.data_.second=true then p_s_l13Beat__J2 b b.data_ true (atI b.m b.data_.who) b.addr.live else p_s_l13Beat__J2 b b.data_ true (atI b.m b.data_.who) false)
       ((b.data_.resp=3→(atI b.m b.data_.who).parted=false∧b.data_.who≠b.holder)∧(b.data_.beat=(atI b.m b.data_.who).done∧(0≤b.data_.left∧b.data_.left≤b.conf.maxWait+2)∧(0≤b.data_.resp∧b.data_.resp≤3))∧(b.data_.second=true→b.data_.left=0∧b.data_.resp≠0∧b.addr.live=false)):=by
      by_cases f3:b.data_.resp=3
      ·rw[if_pos (by simpa using f3)]
       by_cases f4:(atI b.m b.data_.who).parted=true
       ·rw[if_pos f4,hJ2t]
        exact .no fun h=>by have:=(h.1 f3).1;rw[f4] at this;cases this
       ·rw[if_neg f4]
        by_cases f5:b.holder=b.data_.who
        ·rw[if_pos (by simpa using f5),hJ2t]
         exact .no fun h=>(h.1 f3).2 f5.symm
        ·rw[if_neg (by simpa using f5)]
         exact hS.iff ⟨fun h=>⟨fun _=>⟨by simpa using f4,fun h2=>f5 h2.symm⟩,h⟩,fun h=>h.2⟩
      ·rw[if_neg (by simpa using f3)]
       exact hS.iff ⟨fun h=>⟨fun h2=>absurd h2 f3,h⟩,fun h=>h.2⟩
     unfold p_s_l13Beat__J1
     rw[if_neg (by simp),idx_m h1 e1,Option.bind_some,if_neg (by simp)]
     by_cases f2:b.data_.resp=2
     ·rw[if_pos (by simpa using f2)]
      by_cases f3:(atI b.m b.data_.who).tries≥b.conf.maxRetry
      ·rw[if_pos (by simpa using f3),hJ2t]
       exact .no fun h=>by have:=h.2.2.1 f2;omega
      ·rw[if_neg (by simpa using f3)]
       exact hT.iff ⟨fun h=>⟨fun _=>⟨e1,e2,e3⟩,h.2.1,fun _=>by omega,h.1,h.2.2⟩,fun h=>⟨h.2.2.2.1,h.2.1,h.2.2.2.2⟩⟩
     ·rw[if_neg (by simpa using f2)]
      exact hT.iff ⟨fun h=>⟨fun _=>⟨e1,e2,e3⟩,h.2.1,fun h2=>absurd h2 f2,h.1,h.2.2⟩,fun h=>⟨h.2.2.2.1,h.2.1,h.2.2.2.2⟩⟩
    ·rw[decide_eq_true (by omega),hJ1]
     exact .no fun h=>e3 (h.1 ha).2.2
   ·rw[if_pos (by rw[decide_eq_false e2];rfl),hJ1]
    exact .no fun h=>e2 (h.1 ha).2.1
  ·rw[if_pos (by simpa using e1),hJ1]
   exact .no fun h=>e1 (h.1 ha).1
 ·rw[if_pos (by simpa using ha),if_neg ha]
  exact (Tells.of (z0_eq _)).iff ⟨fun h=>⟨fun h2=>absurd h2 ha,h⟩,fun h=>h.2⟩
end Go.Proofs.YtciimjnpdmmfnaaGreat.Ev
namespace Go.Proofs.YtciimjnpdmmfnaaGreat.Ev
open Go Go.Proofs
set_option linter.unusedVariables false
set_option linter.unusedSimpArgs false
theorem s_l13Lock_tells (b:GBus) (hc:confG b.conf=true) (h1:b.m.length=b.conf.masters.length) (h3:b.splits.length=b.conf.masters.length) (hm:∀i,masterG b.conf i=true→MstP b.conf b i):Tells (p_s_l13Lock b) (heldP b):=by
 have hlen:=conf_len hc
 have hlt:=conf_lt hc
 unfold p_s_l13Lock heldP
 refine (loop_tells1 (n:=b.m.length) (by omega) (P:=fun k=>(atI b.m (k:Int)).beat > 0→locksG (atI b.m (k:Int))=true→b.holder=(k:Int))
  (Q:=if b.holder=-1 then b.held=0 else masterG b.conf b.holder=true∧locksG (atI b.m b.holder)=true∧atI b.splits b.holder=0∧(0≤b.held∧b.held≤b.conf.lockMost))
  (B:=p_s_l13Lock__L1b b) (fun m i=>rfl) (fun k hk=>?_) fun _=>?_).iff ?_
 ·have hmk:=mas (c:=b.conf) (k:=k) (by omega)
  have hr:=(hm _ hmk).right
  unfold p_s_l13Lock__L1b
  simp only[if_pos (show decide ((k:Int) < (b.m.length:Int))=true by simpa using hk),idx_m h1 hmk,Option.bind_some]
  by_cases e1:(atI b.m (k:Int)).beat > 0
  ·have hq:(atI b.m (k:Int)).queue≠[]:=by
    intro hq;have:=hr.none hq;omega
   have hq2:0 < (atI b.m (k:Int)).queue.length:=List.length_pos_iff.2 hq
   rw[idx_at (xs:=(atI b.m (k:Int)).queue) (by omega) (by omega)]
   simp only[Option.bind_some,e1,decide_true,if_true]
   by_cases e2:(atI (atI b.m (k:Int)).queue 0).lock=true
   ·by_cases e4:(atI b.m (k:Int)).broken=true
    ·exact .inl ⟨fun _ h=>by simp[locksG,e4] at h,fun κ=>by simp[e2,e4]⟩
    ·by_cases e3:b.holder=(k:Int)
     ·exact .inl ⟨fun _ _=>e3,fun κ=>by simp[e2,e3,e4]⟩
     ·exact .inr ⟨fun h=>e3 (h trivial (by simp[locksG,hq,e2,e4])),fun κ=>by simp[e2,e3,e4]⟩
   ·exact .inl ⟨fun _ h=>by simp[locksG,e2] at h,fun κ=>by simp[e2]⟩
  ·exact .inl ⟨fun h=>absurd h e1,fun κ=>by simp[e1]⟩
 ·unfold p_s_l13Lock__L1b
  simp only[Int.lt_irrefl,decide_false,Bool.false_eq_true,if_false]
  by_cases e1:b.holder=-1
  ·exact⟨decide (b.held=0),fun κ=>by simp[e1],by simp[e1]⟩
  ·simp only[e1,decide_false,Bool.false_eq_true,if_false,s_isMaster_eq h1 hlt,Option.bind_some,l1In_eq]
   have hJt:p_s_l13Lock__J2 b true=some false:=by unfold p_s_l13Lock__J2;rw[if_pos rfl]
   by_cases e2:masterG b.conf b.holder=true
   ·simp only[e2,Bool.not_true,Bool.false_eq_true,if_false]
    by_cases e5:0≤b.held∧b.held≤b.conf.lockMost
    ·have hJ:Tells (p_s_l13Lock__J2 b false) (locksG (atI b.m b.holder)=true∧atI b.splits b.holder=0):=by
      unfold p_s_l13Lock__J2
      rw[if_neg (by simp),idx_m h1 e2,Option.bind_some]
      by_cases hq:(atI b.m b.holder).queue=[]
      ·rw[if_neg (by simp[hq])]
       exact .no fun h=>by simp[locksG,hq] at h
      ·have hq2:0 < (atI b.m b.holder).queue.length:=List.length_pos_iff.2 hq
       rw[if_pos (by simp;omega),idx_at (xs:=(atI b.m b.holder).queue) (by omega) (by omega),Option.bind_some,idx_s h3 e2,Option.bind_some]
       by_cases e6:(atI (atI b.m b.holder).queue 0).lock=true
       ·rw[if_pos e6]
        by_cases e7:(atI b.m b.holder).broken=true
        ·rw[if_neg (by simp[e7])]
         exact .no fun h=>by simp[locksG,e7] at h
        ·rw[if_pos (by simp[e7])]
         exact .of (by simp[locksG,hq,e6,e7])
       ·rw[if_neg e6]
        exact .no fun h=>by simp[locksG,e6] at h
     obtain⟨r,hr1,hr2⟩:=hJ
     refine⟨r,fun κ=>by rw[decide_eq_true e5,Bool.not_true,hr1],?_⟩
     rw[hr2]
     exact⟨fun h=>⟨trivial,h.1,h.2,e5⟩,fun h=>⟨h.2.1,h.2.2.1⟩⟩
    ·refine⟨false,fun κ=>by rw[decide_eq_false e5,Bool.not_false,hJt],by simp[e5]⟩
   ·exact⟨false,fun κ=>by simp[e2,hJt],by simp[e2]⟩
 ·rw[h1,←all_mas (P:=fun i=>(atI b.m i).beat > 0→locksG (atI b.m i)=true→b.holder=i)]
def doneR (c:GConf) (d:GDone):Prop:=masterG c d.who=true∧alignedG d.addr d.size=true∧d.addr < 512∧numG d.value d.size=true∧(d.resp=0∨d.resp=1)
theorem s_done_rest {b:GBus} (h1:b.m.length=b.conf.masters.length) (hlt:b.conf.masters.length < 1048577) (d:GDone):(doneR b.conf d∧∀x:Option Bool,((p_s_l1In d.who 0 (subW (b.m.length:Int) 1)).bind fun r530=>if (!r530)=true then some false else (p_s_Aligned d.addr d.size).bind fun r538=>if (!r538)=true then some false else (p_s_l1In d.addr 0 511).bind fun r544=>if (!r544)=true then some false else (p_s_LimitOf d.size).bind fun r552=>(p_s_l1In d.value 0 (subW r552 1)).bind fun r554=>if (!r554)=true then some false else (p_s_l1In d.resp 0 1).bind fun r560=>if (!r560)=true then some false else x)=x)
  ∨ (¬doneR b.conf d∧∀x:Option Bool,((p_s_l1In d.who 0 (subW (b.m.length:Int) 1)).bind fun r530=>if (!r530)=true then some false else (p_s_Aligned d.addr d.size).bind fun r538=>if (!r538)=true then some false else (p_s_l1In d.addr 0 511).bind fun r544=>if (!r544)=true then some false else (p_s_LimitOf d.size).bind fun r552=>(p_s_l1In d.value 0 (subW r552 1)).bind fun r554=>if (!r554)=true then some false else (p_s_l1In d.resp 0 1).bind fun r560=>if (!r560)=true then some false else x)=some false):=by
 simp only[s_isMaster_eq h1 hlt,s_Aligned_eq,s_LimitOf_eq,s_num_eq,l1In_eq d.addr,l1In_eq d.resp,Option.bind_some]
 by_cases e3:masterG b.conf d.who=true
 ·by_cases e4:alignedG d.addr d.size=true
  ·have e0:=(aligned_parts e4).2.1
   by_cases e5:d.addr < 512
   ·have e5':0≤d.addr∧d.addr≤511:=by omega
    by_cases e6:numG d.value d.size=true
    ·by_cases e7:d.resp=0∨d.resp=1
     ·have e7':0≤d.resp∧d.resp≤1:=by omega
      exact .inl ⟨⟨e3,e4,e5,e6,e7⟩,fun x=>by simp[e3,e4,e5',e6,e7']⟩
     ·have e7':¬(0≤d.resp∧d.resp≤1):=by omega
      exact .inr ⟨fun h=>e7 h.2.2.2.2,fun x=>by simp only[e3,e4,e5',e6,decide_eq_false e7',Bool.not_true,Bool.not_false,Bool.false_eq_true,if_false,if_true,and_self,decide_true]⟩
    ·exact .inr ⟨fun h=>e6 h.2.2.2.1,fun x=>by simp[e3,e4,e5',e6]⟩
   ·have e5':¬(0≤d.addr∧d.addr≤511):=by omega
    exact .inr ⟨fun h=>e5 h.2.2.1,fun x=>by simp only[e3,e4,decide_eq_false e5',Bool.not_true,Bool.not_false,Bool.false_eq_true,if_false,if_true]⟩
  ·exact .inr ⟨fun h=>e4 h.2.1,fun x=>by simp[e3,e4]⟩
 ·exact .inr ⟨fun h=>e3 h.1,fun x=>by simp[e3]⟩
theorem s_l13Log_tells (b:GBus) (hc:confG b.conf=true) (h1:b.m.length=b.conf.masters.length) (hl:b.log.length < 1048577) (hn:0≤b.now∧b.now≤4000):Tells (p_s_l13Log b) (logP b):=by
 have hlt:=conf_lt hc
 unfold p_s_l13Log
 have:=loop_tells1 (n:=b.log.length) (by omega) (P:=fun k=>doneP b.conf b.now (atI b.log (k:Int))∧(0 < k→beforeG b.log k < (atI b.log (k:Int)).cycle)) (Q:=True)
  (B:=p_s_l13Log__L1b b) (L:=p_s_l13Log__L1 b) (fun m i=>rfl) (fun k hk=>?_) fun _=>⟨true,fun κ=>?_,by simp⟩
 ·refine this.iff ?_
  rw[and_true,log_iff]
  constructor
  ·intro h k hk
   refine⟨(h k hk).1,?_⟩
   cases k with
   | zero=>have:=(h 0 hk).1.1.1;simp only[beforeG];omega
   | succ k=>exact (h (k+1) hk).2 (by omega)
  ·intro h k hk
   exact⟨(h k hk).1,fun _=>(h k hk).2⟩
 ·unfold p_s_l13Log__L1b
  simp only[if_pos (show decide ((k:Int) < (b.log.length:Int))=true by simpa using hk),idx_at (xs:=b.log) (i:=(k:Int)) (by omega) (by omega),Option.bind_some,l1In_eq (atI b.log (k:Int)).cycle,subW_of (a:=b.now) (b:=1) (by omega) (by omega)]
  by_cases e1:0≤(atI b.log (k:Int)).cycle∧(atI b.log (k:Int)).cycle < b.now
  ·have e1':0≤(atI b.log (k:Int)).cycle∧(atI b.log (k:Int)).cycle≤b.now - 1:=by omega
   simp only[e1',and_self,decide_true,Bool.not_true,Bool.false_eq_true,if_false]
   cases k with
   | zero=>
    simp only[show ¬(((0:Nat):Int) > 0) by omega,decide_false,Bool.false_eq_true,if_false]
    rcases s_done_rest h1 hlt (atI b.log ((0:Nat):Int)) with⟨h2,h3⟩|⟨h2,h3⟩
    ·exact .inl ⟨⟨⟨e1,h2⟩,fun h=>by omega⟩,fun κ=>h3 _⟩
    ·exact .inr ⟨fun h=>h2 h.1.2,fun κ=>h3 _⟩
   | succ k=>
    have ek:((k+1:Nat):Int) - 1=(k:Int):=by omega
    simp only[show ((k+1:Nat):Int) > 0 by omega,decide_true,if_true,subW_of (a:=((k+1:Nat):Int)) (b:=1) (by omega) (by omega),ek,idx_at (xs:=b.log) (i:=(k:Int)) (by omega) (by omega),Option.bind_some]
    by_cases e2:(atI b.log (k:Int)).cycle < (atI b.log ((k+1:Nat):Int)).cycle
    ·have e2':¬(atI b.log ((k+1:Nat):Int)).cycle≤(atI b.log (k:Int)).cycle:=by omega
     simp only[e2',decide_false,Bool.false_eq_true,if_false]
     rcases s_done_rest h1 hlt (atI b.log ((k+1:Nat):Int)) with⟨h2,h3⟩|⟨h2,h3⟩
     ·exact .inl ⟨⟨⟨e1,h2⟩,fun h=>e2⟩,fun κ=>h3 _⟩
     ·exact .inr ⟨fun h=>h2 h.1.2,fun κ=>h3 _⟩
    ·have e2':(atI b.log ((k+1:Nat):Int)).cycle≤(atI b.log (k:Int)).cycle:=by omega
     exact .inr ⟨fun h=>e2 (h.2 (by omega)),fun κ=>by simp only[e2',decide_true,if_true]⟩
  ·have e1':¬(0≤(atI b.log (k:Int)).cycle∧(atI b.log (k:Int)).cycle≤b.now - 1):=by omega
   exact .inr ⟨fun h=>e1 h.1.1,fun κ=>by simp only[decide_eq_false e1',Bool.not_false,if_true]⟩
 ·unfold p_s_l13Log__L1b
  rw[if_neg (by simp)]
theorem s_BusOk_tells (b:GBus) (hs:b.sm):Tells (p_s_BusOk b) (BusP b):=by
 have hJt:p_s_BusOk__J2 b true=some false:=by unfold p_s_BusOk__J2;rw[if_pos rfl]
 unfold p_s_BusOk
 rw[s_ConfOk_eq _ hs.conf,Option.bind_some]
 by_cases hc:confG b.conf=true
 ·have hlen:=conf_len hc
  rw[hc,if_neg (by simp),l1In_eq,Option.bind_some]
  by_cases hn:0≤b.now∧b.now≤4000
  ·rw[if_neg (by simpa using hn)]
   by_cases h1:b.m.length=b.conf.masters.length
   ·rw[if_neg (by simp;omega)]
    by_cases h2:b.buckets.length=b.conf.masters.length
    ·rw[if_neg (by simp;omega)]
     by_cases h3:b.splits.length=b.conf.masters.length
     ·rw[if_neg (by simp;omega),s_WrrOk_eq _ _ hs.conf,Option.bind_some]
      by_cases h4:wrrG b.arb b.conf=true
      ·rw[h4,if_neg (by simp),l1In_eq,Option.bind_some,subW_of (by omega) (by omega)]
       by_cases h5:b.last=-1∨masterG b.conf b.last=true
       ·have h5':-1≤b.last∧b.last≤(b.conf.masters.length:Int) - 1:=by
         rcases h5 with h5|h5
         ·omega
         ·simp only[masterG,decide_eq_true_eq] at h5;omega
        rw[if_neg (by simpa using h5'),s_ModelOk_eq _ hs.model,Option.bind_some]
        by_cases h6:modelG b.model=true
        ·rw[h6,if_neg (by simp)]
         by_cases h7:0≤b.picks
         ·rw[if_neg (by simpa using h7)]
          by_cases h8:b.picks≤b.now
          ·rw[decide_eq_false (by omega)]
           unfold p_s_BusOk__J2
           rw[if_neg (by simp)]
           have hloop:=loop_tells1 (n:=b.conf.masters.length) (by omega) (P:=fun k=>MstP b.conf b (k:Int)∧(atI b.m (k:Int)).beat - (atI b.m (k:Int)).done=flyG b (k:Int))
            (Q:=((b.data_.live=true→liveP b b.data_)∧dataP b)∧((b.addr.live=true→liveP b b.addr)∧addrP b)∧heldP b∧logP b) (B:=p_s_BusOk__L1b b) (L:=p_s_BusOk__L1 b) (fun m i=>rfl) (fun k hk=>?_) fun hP=>?_
           ·refine hloop.iff ⟨fun h=>?_,fun h=>?_⟩
            ·obtain⟨h9,h10,h11,h12,h13⟩:=h
             have hm:=(all_mas (c:=b.conf) (P:=fun i=>MstP b.conf b i∧(atI b.m i).beat - (atI b.m i).done=flyG b i)).2 h9
             exact⟨hc,hn,h1,h2,h3,fun i hi=>(hm i hi).1,h4,h5,model_iff.1 h6,⟨h7,h8⟩,h11.1,h10.1,fun i hi=>(hm i hi).2,h11.2,h10.2,h12,h13⟩
            ·exact⟨fun k hk=>⟨h.mst _ (mas hk),h.fly _ (mas hk)⟩,⟨h.dlive,h.data⟩,⟨h.alive,h.addr⟩,h.held,h.log⟩
           ·have hm:=mas (c:=b.conf) (k:=k) hk
            have hms:=hs.mst _ (mem_m h1 hm)
            have hme:=mconf_every (conf_at hc hm)
            unfold p_s_BusOk__L1b
            simp only[if_pos (show decide ((k:Int) < (b.conf.masters.length:Int))=true by simpa using hk),idx_m h1 hm,idx_b h2 hm,idx_s h3 hm,idx_c hm,Option.bind_some,s_BucketOk_eq _ ⟨hme.1,hme.2.1⟩,l1In_eq,s_Ways_eq]
            unfold p_s_MstOk
            simp only[s_ConfOk_eq _ hs.conf,hc,if_true,Option.bind_some,s_l12Right_eq _ hms]
            by_cases e1:rightG (atI b.m (k:Int))=true
            ·by_cases e2:(atI b.m (k:Int)).tries≤b.conf.maxRetry
             ·by_cases e3:bucketG (atI b.buckets (k:Int)) (atI b.conf.masters (k:Int))=true
              ·by_cases e4:0≤atI b.splits (k:Int)∧atI b.splits (k:Int)≤b.conf.maxSplit
               ·have hrb:=right_bnd (right_iff.1 e1)
                rw[subW_of (by omega) (by omega)]
                by_cases e5:(atI b.m (k:Int)).beat - (atI b.m (k:Int)).done=flyG b (k:Int)
                ·refine .inl ⟨⟨⟨right_iff.1 e1,e2,e3,e4⟩,e5⟩,fun κ=>?_⟩
                 simp[e1,e2,e3,e4,e5]
                ·refine .inr ⟨fun h=>e5 h.2,fun κ=>?_⟩
                 simp[e1,e2,e3,e4,e5]
               ·refine .inr ⟨fun h=>e4 h.1.split,fun κ=>?_⟩
                simp[e1,e2,e3,e4]
              ·refine .inr ⟨fun h=>e3 h.1.bucket,fun κ=>?_⟩
               simp[e1,e2,e3]
             ·refine .inr ⟨fun h=>e2 h.1.tries,fun κ=>?_⟩
              simp[e1,e2]
            ·refine .inr ⟨fun h=>e1 (right_iff.2 h.1.right),fun κ=>?_⟩
             simp[e1]
           ·have hm:=(all_mas (c:=b.conf) (P:=fun i=>MstP b.conf b i∧(atI b.m i).beat - (atI b.m i).done=flyG b i)).2 hP
            have hm1:∀i,masterG b.conf i=true→MstP b.conf b i:=fun i hi=>(hm i hi).1
            have hT:Tells ((p_s_l13Beat b b.data_ true).bind fun r903=>if r903=true then (p_s_l13Beat b b.addr false).bind fun r908=>if r908=true then (p_s_l13Lock b).bind fun r912=>if r912=true then (p_s_l13Log b).bind fun r916=>some r916 else some false else some false else some false)
              (((b.data_.live=true→liveP b b.data_)∧dataP b)∧((b.addr.live=true→liveP b b.addr)∧addrP b)∧heldP b∧logP b):=by
             refine Tells.and (s_l13Beat_data b hs hc h1 h3 hm1) fun _=>?_
             refine Tells.and (s_l13Beat_addr b hs hc h1 h3 hm1) fun _=>?_
             refine Tells.and (s_l13Lock_tells b hc h1 h3 hm1) fun _=>?_
             obtain⟨r,h9,h10⟩:=s_l13Log_tells b hc h1 hs.log hn
             rw[h9]
             exact .of h10
            obtain⟨r,h9,h10⟩:=hT
            refine⟨r,fun κ=>?_,h10⟩
            unfold p_s_BusOk__L1b
            rw[if_neg (by simp)]
            exact h9
          ·rw[decide_eq_true (by omega),hJt]
           exact .no fun h=>h8 h.picks.2
         ·rw[if_pos (by simpa using h7),hJt]
          exact .no fun h=>h7 h.picks.1
        ·rw[if_pos (by simpa using h6),hJt]
         exact .no fun h=>h6 (model_iff.2 h.model)
       ·have h5':¬(-1≤b.last∧b.last≤(b.conf.masters.length:Int) - 1):=by
         intro h6
         apply h5
         simp only[masterG,decide_eq_true_eq]
         omega
        rw[if_pos (by rw[decide_eq_false h5'];rfl),hJt]
        exact .no fun h=>h5 h.last
      ·rw[if_pos (by simpa using h4),hJt]
       exact .no fun h=>h4 h.arb
     ·rw[if_pos (by simp;omega),hJt]
      exact .no fun h=>h3 h.sl
    ·rw[if_pos (by simp;omega),hJt]
     exact .no fun h=>h2 h.bl
   ·rw[if_pos (by simp;omega),hJt]
    exact .no fun h=>h1 h.ml
  ·rw[if_pos (by rw[decide_eq_false hn];rfl),hJt]
   exact .no fun h=>hn h.now
 ·rw[if_pos (by simpa using hc),hJt]
  exact .no fun h=>hc h.conf
theorem BusOk_eq (b:GBus) (hs:b.sm):∃r,p_i_BusOk b=some r∧p_s_BusOk b=some r∧(r=true↔BusP b):=(i_BusOk_tells b hs).eq (s_BusOk_tells b hs)
end Go.Proofs.YtciimjnpdmmfnaaGreat.Ev
namespace Go.Proofs.YtciimjnpdmmfnaaGreat.Ev
open Go Go.Proofs
set_option linter.unusedVariables false
set_option linter.unusedSimpArgs false
def elemG (l:List Int) (k:Int):Int:=if l=[]∨k < 0 then 0 else atI l (k % (l.length:Int))
def waitG (c:GConf) (s:GScript) (k:Int):Int:=max 0 (min (elemG s.waits k) c.maxWait)
def saidG (s:GScript) (k:Int):Int:=if elemG s.says k=2∨elemG s.says k=3 then elemG s.says k else 0
def splitG (c:GConf) (s:GScript) (k:Int):Int:=max 1 (min (max 0 (min (elemG s.waits k) 99)+1) c.maxSplit)
def waveG (b:GBus):GWave:=
 GWave.mk b.now (if b.addr.live then maddrG (atI b.m b.addr.who) b.addr.beat else -1) (if b.addr.live then (if b.addr.first then 2 else 3) else 0) (if b.addr.live then b.addr.who else -1)
  (if b.data_.live then maddrG (atI b.m b.data_.who) b.data_.beat else -1) (if b.data_.live then b.data_.who else -1) true 0 (-1)
def postsG (s:GScript) (t:Int):List GPost:=s.posts.filter fun p=>decide (p.at_=t)
def postOne (b:GBus) (p:GPost):GBus:=if masterG b.conf p.who=true then {b with m:=b.m.set p.who.toNat (postG (atI b.m p.who) p.req)} else b
def postAll (b:GBus) (ps:List GPost):GBus:=ps.foldl postOne b
def tickAll (b:GBus):GBus:={b with splits:=b.splits.map fun n=>max (n - 1) 0,buckets:=List.zipWith tickG b.buckets b.conf.masters}
def heldOne (b:GBus):GBus:=if b.holder=-1 then b else {b with held:=min (b.held+1) b.conf.lockMost}
def freeG (b:GBus):GBus:={b with holder:=-1,held:=0}
def revokeG (b:GBus) (x:GBeat):GBus:=
 if x.by_=1 then {b with m:=b.m.set x.who.toNat (backG (atI b.m x.who)),buckets:=b.buckets.set x.who.toNat (bbackG (atI b.buckets x.who) (atI b.conf.masters x.who))}
 else if x.by_=2 then {b with m:=b.m.set x.who.toNat (backG (atI b.m x.who)),arb:=wbackG b.arb b.conf x.who}
 else {b with m:=b.m.set x.who.toNat (backG (atI b.m x.who))}
def numberG (m:GMst) (k:Int):Int:=if (atI m.queue 0).write then atI (atI m.queue 0).data_ k else 0
def doG (b:GBus) (x:GBeat):GModel×Int×Int:=modeldoG b.model (atI (atI b.m x.who).queue 0).write (maddrG (atI b.m x.who) x.beat) (atI (atI b.m x.who).queue 0).size (numberG (atI b.m x.who) x.beat)
def doneG (b:GBus) (x:GBeat):GDone:=GDone.mk b.now x.who (atI (atI b.m x.who).queue 0).write (maddrG (atI b.m x.who) x.beat) (atI (atI b.m x.who).queue 0).size (if x.resp=0 then (doG b x).2.1 else 0) x.resp
def completeG (b:GBus) (x:GBeat):GBus:=
 {b with model:=if x.resp=0 then (doG b x).1 else b.model,log:=b.log++[doneG b x],m:=b.m.set x.who.toNat (endG (atI b.m x.who)),holder:=if b.holder=x.who∧(atI b.m x.who).done+1=mbeatsG (atI b.m x.who) then -1 else b.holder,held:=if b.holder=x.who∧(atI b.m x.who).done+1=mbeatsG (atI b.m x.who) then 0 else b.held}
def finishG (b:GBus) (s:GScript):GBus×Bool×Int:=
 if b.data_.live=false then (b,true,0)
 else if b.data_.left > 0 then ({b with data_:={b.data_ with left:=b.data_.left - 1}},false,0)
 else if b.data_.resp≠0∧b.data_.second=false then
  (if b.addr.live then {revokeG {b with data_:={b.data_ with second:=true}} b.addr with addr:=GBeat.z0} else {b with data_:={b.data_ with second:=true}},false,b.data_.resp)
 else if b.data_.resp=2 then (revokeG {b with data_:=GBeat.z0,m:=b.m.set b.data_.who.toNat {atI b.m b.data_.who with tries:=(atI b.m b.data_.who).tries+1}} b.data_,true,b.data_.resp)
 else if b.data_.resp=3 then (revokeG {b with data_:=GBeat.z0,m:=b.m.set b.data_.who.toNat {atI b.m b.data_.who with parted:=true},splits:=b.splits.set b.data_.who.toNat (splitG b.conf s b.picks)} b.data_,true,b.data_.resp)
 else (completeG {b with data_:=GBeat.z0} b.data_,true,b.data_.resp)
def breakG (b:GBus):GBus:=if b.holder≠-1∧b.held=b.conf.lockMost then freeG {b with m:=b.m.set b.holder.toNat {atI b.m b.holder with broken:=true}} else b
def answerG (b:GBus) (s:GScript) (x:GBeat):Int×Int:=
 if (atI b.m x.who).broken=true∨slaveG (maddrG (atI b.m x.who) x.beat)=0 then (1,0) else
 (if saidG s b.picks=2∧slaveG (maddrG (atI b.m x.who) x.beat)≠3∧(atI b.m x.who).tries < b.conf.maxRetry then 2
  else if saidG s b.picks=3∧slaveG (maddrG (atI b.m x.who) x.beat)=2∧(atI b.m x.who).parted=false∧x.who≠b.holder then 3 else (doG b x).2.2,if slaveG (maddrG (atI b.m x.who) x.beat)=3 then waitG b.conf s b.picks+2 else waitG b.conf s b.picks)
def beginG (b:GBus) (s:GScript):GBus:=if b.addr.live then {b with data_:={b.addr with left:=(answerG b s b.addr).2,resp:=(answerG b s b.addr).1},addr:=GBeat.z0,picks:=b.picks+1} else b
def wantG (b:GBus) (i:Int):Bool:=wantsG (atI b.m i)&&(decide (atI b.splits i=0)&&(decide (b.holder=-1)||decide (b.holder=i)))
def wantsL (b:GBus):List Bool:=(List.range b.m.length).map fun k:Nat=>wantG b (k:Int)
def tokenG (b:GBus) (k:Nat):Bool:=wantG b (k:Int)&&(takeG (atI b.buckets (k:Int)) (atI b.conf.masters (k:Int))).2
def pickG (b:GBus):Int×Int×GBus:=
 if b.holder≠-1∧wantG b b.holder=true then (b.holder,3,b)
 else match (List.range b.m.length).find? (tokenG b) with
  | some k=>((k:Int),1,{b with buckets:=b.buckets.set k (takeG (atI b.buckets (k:Int)) (atI b.conf.masters (k:Int))).1})
  | none=>if b.holder≠-1 then (-1,0,b) else ((wpickG b.arb b.conf (wantsL b)).2,2,{b with arb:=(wpickG b.arb b.conf (wantsL b)).1})
def giveG (b:GBus) (who by_:Int):GBus:=
 {b with addr:=GBeat.mk true who (atI b.m who).beat (decide ((atI b.m who).beat=0)||decide (b.last≠who)) by_ 0 0 false,holder:=if locksG (atI b.m who)=true∧b.holder=-1 then who else b.holder,held:=if locksG (atI b.m who)=true∧b.holder=-1 then 0 else b.held,m:=b.m.set who.toNat (issueG (atI b.m who)),last:=who}
def grantG (b:GBus):Int×GBus:=if (pickG b).1 < 0 then (-1,(pickG b).2.2) else ((pickG b).1,giveG (pickG b).2.2 (pickG b).1 (pickG b).2.1)
def readyG (b:GBus) (s:GScript):Int×GBus:=grantG (beginG (breakG b) s)
def openG (b:GBus) (s:GScript):GBus:=heldOne (tickAll (postAll b (postsG s b.now)))
def stepG (b:GBus) (s:GScript):GBus×GWave:=
 if (finishG (openG b s) s).2.1=true then
  ({(readyG (finishG (openG b s) s).1 s).2 with now:=b.now+1},{waveG b with resp:=(finishG (openG b s) s).2.2,got:=(readyG (finishG (openG b s) s).1 s).1})
 else ({(finishG (openG b s) s).1 with now:=b.now+1},{waveG b with ready:=false,resp:=(finishG (openG b s) s).2.2})
structure BusI (n:Int) (b:GBus):Prop where
 conf:confG b.conf=true
 ml:b.m.length=b.conf.masters.length
 bl:b.buckets.length=b.conf.masters.length
 sl:b.splits.length=b.conf.masters.length
 mst:∀i,masterG b.conf i=true→MstP b.conf b i
 arb:wrrG b.arb b.conf=true
 last:b.last=-1∨masterG b.conf b.last=true
 model:ModelP b.model
 alive:b.addr.live=true→liveP b b.addr
 dlive:b.data_.live=true→liveP b b.data_
 fly:∀i,masterG b.conf i=true→(atI b.m i).beat - (atI b.m i).done=flyG b i
 addr:addrP b
 data:dataP b
 held:heldP b
 log:(∀d∈b.log,doneP b.conf n d)∧b.log.Pairwise fun x y=>x.cycle < y.cycle
theorem BusP.i {b:GBus} (h:BusP b):BusI b.now b:=⟨h.conf,h.ml,h.bl,h.sl,h.mst,h.arb,h.last,h.model,h.alive,h.dlive,h.fly,h.addr,h.data,h.held,h.log⟩
theorem at_set {α:Type} [Inhabited α] {xs:List α} {w i:Int} (a:α) (h0:0≤w) (h1:w < (xs.length:Int)) (hi:0≤i):atI (xs.set w.toNat a) i=if i=w then a else atI xs i:=by
 split
 ·rename_i h;subst h;exact at_set_self a h0 h1
 ·rename_i h;exact at_set_ne a h0 hi (fun h2=>h h2.symm)
theorem mas_bnd {c:GConf} {i:Int} (h:masterG c i=true):0≤i∧i < (c.masters.length:Int):=by simpa [masterG] using h
theorem BusI.at_m {n:Int} {b:GBus} (h:BusI n b) {w:Int} (hw:masterG b.conf w=true) (x:GMst) {i:Int} (hi:masterG b.conf i=true):atI (b.m.set w.toNat x) i=if i=w then x else atI b.m i:=by
 have h1:=mas_bnd hw
 have h2:=mas_bnd hi
 exact at_set x h1.1 (by have:=h.ml;omega) h2.1
theorem live_who {n:Int} {b:GBus} (h:BusI n b) (hl:b.addr.live=true):masterG b.conf b.addr.who=true:=(h.alive hl).1
theorem live_whoD {n:Int} {b:GBus} (h:BusI n b) (hl:b.data_.live=true):masterG b.conf b.data_.who=true:=(h.dlive hl).1
theorem post_head {m:GMst} {r:GReq} (hq:m.queue≠[]):(postG m r).queue≠[]∧atI (postG m r).queue 0=atI m.queue 0:=by
 unfold postG
 split
 ·exact⟨by simp,head_append hq⟩
 ·exact⟨hq,rfl⟩
theorem post_same (m:GMst) (r:GReq):(postG m r).beat=m.beat∧(postG m r).done=m.done∧(postG m r).tries=m.tries∧(postG m r).parted=m.parted∧(postG m r).broken=m.broken:=by
 unfold postG;split<;>exact⟨rfl,rfl,rfl,rfl,rfl⟩
theorem post_locks {m:GMst} {r:GReq} (hq:m.queue≠[]):locksG (postG m r)=locksG m:=by
 have h:=post_head (r:=r) hq
 have h2:=post_same m r
 unfold locksG
 rw[h.2,h2.2.2.2.2]
 simp[h.1,hq]
theorem locks_ne {m:GMst} (h:locksG m=true):m.queue≠[]:=by
 intro hq;simp[locksG,hq] at h
theorem postOne_ok {n:Int} {b:GBus} {p:GPost} (h:BusI n b):BusI n (postOne b p):=by
 unfold postOne
 split
 ·rename_i hw
  have ha:=fun {i} hi=>h.at_m hw (postG (atI b.m p.who) p.req) (i:=i) hi
  have hs:=post_same (atI b.m p.who) p.req
  have hbd:∀i,masterG b.conf i=true→(atI (b.m.set p.who.toNat (postG (atI b.m p.who) p.req)) i).beat=(atI b.m i).beat∧(atI (b.m.set p.who.toNat (postG (atI b.m p.who) p.req)) i).done=(atI b.m i).done∧(atI (b.m.set p.who.toNat (postG (atI b.m p.who) p.req)) i).tries=(atI b.m i).tries∧(atI (b.m.set p.who.toNat (postG (atI b.m p.who) p.req)) i).parted=(atI b.m i).parted:=by
   intro i hi
   rw[ha hi]
   split
   ·rename_i e;subst e;exact⟨hs.1,hs.2.1,hs.2.2.1,hs.2.2.2.1⟩
   ·exact⟨rfl,rfl,rfl,rfl⟩
  have hlk:∀i,masterG b.conf i=true→(atI b.m i).queue≠[]→locksG (atI (b.m.set p.who.toNat (postG (atI b.m p.who) p.req)) i)=locksG (atI b.m i):=by
   intro i hi hq
   rw[ha hi]
   split
   ·rename_i e;subst e;exact post_locks hq
   ·rfl
  refine⟨h.conf,by simp[h.ml],h.bl,h.sl,fun i hi=>?_,h.arb,h.last,h.model,h.alive,h.dlive,fun i hi=>?_,?_,?_,?_,h.log⟩
  ·have hm:=h.mst i hi
   refine⟨?_,by have:=(hbd i hi).2.2.1;simp only at this ⊢;rw[this];exact hm.tries,hm.bucket,hm.split⟩
   show RightP (atI (b.m.set p.who.toNat (postG (atI b.m p.who) p.req)) i)
   rw[ha hi]
   split
   ·exact post_right (h.mst _ hw).right
   ·exact hm.right
  ·show (atI (b.m.set p.who.toNat (postG (atI b.m p.who) p.req)) i).beat - (atI (b.m.set p.who.toNat (postG (atI b.m p.who) p.req)) i).done=flyG b i
   rw[(hbd i hi).1,(hbd i hi).2.1]
   exact h.fly i hi
  ·have:=h.addr
   unfold addrP at this ⊢
   simp only
   by_cases hl:b.addr.live=true
   ·rw[if_pos hl] at this ⊢
    rw[(hbd _ (live_who h hl)).1];exact this
   ·rw[if_neg hl] at this ⊢;exact this
  ·have:=h.data
   unfold dataP at this ⊢
   simp only
   by_cases hl:b.data_.live=true
   ·rw[if_pos hl] at this ⊢
    have e:=hbd _ (live_whoD h hl)
    rw[e.2.1,e.2.2.1,e.2.2.2];exact this
   ·rw[if_neg hl] at this ⊢;exact this
  ·obtain⟨h1,h2⟩:=h.held
   refine⟨fun i hi hb hk=>?_,?_⟩
   ·simp only at hb hk
    have hi2:masterG b.conf i=true:=hi
    rw[(hbd i hi2).1] at hb
    have hq:(atI b.m i).queue≠[]:=by
     intro hq
     have:=(h.mst i hi2).right.none hq
     omega
    rw[hlk i hi2 hq] at hk
    exact h1 i hi2 hb hk
   ·simp only
    split
    ·rename_i e;rw[if_pos e] at h2;exact h2
    ·rename_i e
     rw[if_neg e] at h2
     exact⟨h2.1,by rw[hlk _ h2.1 (locks_ne h2.2.1)];exact h2.2.1,h2.2.2⟩
 ·exact h
theorem postAll_ok {n:Int} {b:GBus} (h:BusI n b) (ps:List GPost):BusI n (postAll b ps):=by
 induction ps generalizing b with
 | nil=>exact h
 | cons p ps ih=>exact ih (postOne_ok h)
theorem postOne_conf (b:GBus) (p:GPost):(postOne b p).conf=b.conf∧(postOne b p).now=b.now∧(postOne b p).picks=b.picks∧(postOne b p).log=b.log∧(postOne b p).model=b.model∧(postOne b p).holder=b.holder∧(postOne b p).held=b.held∧(postOne b p).addr=b.addr∧(postOne b p).data_=b.data_∧(postOne b p).splits=b.splits∧(postOne b p).buckets=b.buckets∧(postOne b p).arb=b.arb∧(postOne b p).last=b.last:=by
 unfold postOne;split<;>exact⟨rfl,rfl,rfl,rfl,rfl,rfl,rfl,rfl,rfl,rfl,rfl,rfl,rfl⟩
theorem postAll_conf (b:GBus) (ps:List GPost):(postAll b ps).conf=b.conf∧(postAll b ps).now=b.now∧(postAll b ps).picks=b.picks∧(postAll b ps).log=b.log∧(postAll b ps).model=b.model∧(postAll b ps).holder=b.holder∧(postAll b ps).held=b.held∧(postAll b ps).addr=b.addr∧(postAll b ps).data_=b.data_∧(postAll b ps).splits=b.splits∧(postAll b ps).buckets=b.buckets∧(postAll b ps).arb=b.arb∧(postAll b ps).last=b.last:=by
 induction ps generalizing b with
 | nil=>exact⟨rfl,rfl,rfl,rfl,rfl,rfl,rfl,rfl,rfl,rfl,rfl,rfl,rfl⟩
 | cons p ps ih=>
  have h1:=ih (postOne b p)
  have h2:=postOne_conf b p
  simp only[h2] at h1
  exact h1
theorem at_map {α β:Type} [Inhabited α] [Inhabited β] (f:α→β) {xs:List α} {i:Int} (h0:0≤i) (h1:i < (xs.length:Int)):atI (xs.map f) i=f (atI xs i):=by
 obtain⟨k,rfl⟩:∃k:Nat,i=k:=⟨i.toNat,by omega⟩
 have hk:k < xs.length:=by omega
 rw[at_nat hk,at_nat (by simpa using hk)];simp
theorem at_zip {α β γ:Type} [Inhabited α] [Inhabited β] [Inhabited γ] (f:α→β→γ) {xs:List α} {ys:List β} {i:Int} (h0:0≤i) (h1:i < (xs.length:Int)) (h2:i < (ys.length:Int)):atI (List.zipWith f xs ys) i=f (atI xs i) (atI ys i):=by
 obtain⟨k,rfl⟩:∃k:Nat,i=k:=⟨i.toNat,by omega⟩
 have hk:k < xs.length:=by omega
 have hk2:k < ys.length:=by omega
 rw[at_nat hk,at_nat hk2,at_nat (by simp;omega)];simp
theorem tickAll_ok {n:Int} {b:GBus} (h:BusI n b):BusI n (tickAll b):=by
 have hsp:∀i,masterG b.conf i=true→atI (b.splits.map fun n=>max (n - 1) 0) i=max (atI b.splits i - 1) 0:=fun i hi=>by
  have:=mas_bnd hi
  exact at_map _ this.1 (by have:=h.sl;omega)
 have hbu:∀i,masterG b.conf i=true→atI (List.zipWith tickG b.buckets b.conf.masters) i=tickG (atI b.buckets i) (atI b.conf.masters i):=fun i hi=>by
  have:=mas_bnd hi
  exact at_zip _ this.1 (by have:=h.bl;omega) this.2
 have h0:∀i,masterG b.conf i=true→atI b.splits i=0→atI (b.splits.map fun n=>max (n - 1) 0) i=0:=fun i hi e=>by rw[hsp i hi,e];rfl
 refine⟨h.conf,h.ml,by simp[tickAll,h.bl],by simp[tickAll,h.sl],fun i hi=>?_,h.arb,h.last,h.model,fun hl=>?_,fun hl=>?_,h.fly,h.addr,h.data,?_,h.log⟩
 ·have hm:=h.mst i hi
  refine⟨hm.right,hm.tries,?_,?_⟩
  ·show bucketG (atI (List.zipWith tickG b.buckets b.conf.masters) i) _=true
   rw[hbu i hi]
   exact tick_ok hm.bucket (conf_at h.conf hi)
  ·show 0≤atI (b.splits.map fun n=>max (n - 1) 0) i∧_
   have:=hm.split
   have hx:=(conf_lims h.conf).2.2.2
   show 0≤atI (b.splits.map fun n=>max (n - 1) 0) i∧atI (b.splits.map fun n=>max (n - 1) 0) i≤b.conf.maxSplit
   rw[hsp i hi]
   omega
 ·obtain⟨h1,h2,h3⟩:=h.alive hl
  exact⟨h1,h2,h0 _ h1 h3⟩
 ·obtain⟨h1,h2,h3⟩:=h.dlive hl
  exact⟨h1,h2,h0 _ h1 h3⟩
 ·obtain⟨h1,h2⟩:=h.held
  refine⟨h1,?_⟩
  show if b.holder=-1 then b.held=0 else _
  split
  ·rename_i e;rw[if_pos e] at h2;exact h2
  ·rename_i e
   rw[if_neg e] at h2
   exact⟨h2.1,h2.2.1,h0 _ h2.1 h2.2.2.1,h2.2.2.2⟩
theorem heldOne_ok {n:Int} {b:GBus} (h:BusI n b):BusI n (heldOne b):=by
 unfold heldOne
 split
 ·exact h
 ·rename_i e
  refine⟨h.conf,h.ml,h.bl,h.sl,fun i hi=>?_,h.arb,h.last,h.model,h.alive,h.dlive,h.fly,h.addr,h.data,?_,h.log⟩
  ·have hm:=h.mst i hi;exact⟨hm.right,hm.tries,hm.bucket,hm.split⟩
  ·obtain⟨h1,h2⟩:=h.held
   refine⟨h1,?_⟩
   rw[if_neg e] at h2
   show if b.holder=-1 then _ else _
   rw[if_neg e]
   have hl:=(conf_lims h.conf).2.2.1
   refine⟨h2.1,h2.2.1,h2.2.2.1,?_⟩
   have:=h2.2.2.2
   show 0≤min (b.held+1) b.conf.lockMost∧min (b.held+1) b.conf.lockMost≤b.conf.lockMost
   omega
end Go.Proofs.YtciimjnpdmmfnaaGreat.Ev
namespace Go.Proofs.YtciimjnpdmmfnaaGreat.Ev
open Go Go.Proofs
set_option linter.unusedVariables false
set_option linter.unusedSimpArgs false
theorem held_keep {b b':GBus} (h:heldP b) (hc:b'.conf=b.conf) (hh:b'.holder=b.holder) (hd:b'.held=b.held)
  (hm:∀i,masterG b.conf i=true→locksG (atI b'.m i)=locksG (atI b.m i)∧((atI b'.m i).beat > 0→(atI b.m i).beat > 0)) (hs:b.holder≠-1→atI b.splits b.holder=0→atI b'.splits b.holder=0):heldP b':=by
 obtain⟨h1,h2⟩:=h
 unfold heldP
 rw[hc,hh,hd]
 refine⟨fun i hi hb hk=>h1 i hi ((hm i hi).2 hb) (by rw[←(hm i hi).1];exact hk),?_⟩
 split
 ·rename_i e;rw[if_pos e] at h2;exact h2
 ·rename_i e
  rw[if_neg e] at h2
  exact⟨h2.1,by rw[(hm _ h2.1).1];exact h2.2.1,hs e h2.2.2.1,h2.2.2.2⟩
theorem back_same (m:GMst):(backG m).queue=m.queue∧(backG m).done=m.done∧(backG m).tries=m.tries∧(backG m).parted=m.parted∧(backG m).broken=m.broken:=by
 unfold backG;split<;>exact⟨rfl,rfl,rfl,rfl,rfl⟩
theorem locks_same {m m':GMst} (h1:m'.queue=m.queue) (h2:m'.broken=m.broken):locksG m'=locksG m:=by
 unfold locksG;rw[h1,h2]
structure Revoked (b r:GBus) (x:GBeat):Prop where
 conf:r.conf=b.conf
 m:r.m=b.m.set x.who.toNat (backG (atI b.m x.who))
 bl:r.buckets.length=b.conf.masters.length
 bk:∀i,masterG b.conf i=true→bucketG (atI r.buckets i) (atI b.conf.masters i)=true
 arb:wrrG r.arb b.conf=true
 splits:r.splits=b.splits
 holder:r.holder=b.holder
 held:r.held=b.held
 addr:r.addr=b.addr
 data:r.data_=b.data_
 model:r.model=b.model
 log:r.log=b.log
 last:r.last=b.last
 now:r.now=b.now
 picks:r.picks=b.picks
theorem revoke_facts {b:GBus} {x:GBeat} (hc:confG b.conf=true) (hw:masterG b.conf x.who=true) (hbl:b.buckets.length=b.conf.masters.length) (hbk:∀i,masterG b.conf i=true→bucketG (atI b.buckets i) (atI b.conf.masters i)=true) (har:wrrG b.arb b.conf=true):Revoked b (revokeG b x) x:=by
 have hb:=mas_bnd hw
 unfold revokeG
 split
 ·refine⟨rfl,rfl,by simp[hbl],fun i hi=>?_,har,rfl,rfl,rfl,rfl,rfl,rfl,rfl,rfl,rfl,rfl⟩
  show bucketG (atI (b.buckets.set x.who.toNat _) i) _=true
  rw[at_set _ hb.1 (by omega) (mas_bnd hi).1]
  split
  ·rename_i e;subst e;exact bback_ok (hbk _ hi) (conf_at hc hi)
  ·exact hbk i hi
 ·split
  ·exact⟨rfl,rfl,hbl,hbk,wback_ok _ har,rfl,rfl,rfl,rfl,rfl,rfl,rfl,rfl,rfl,rfl⟩
  ·exact⟨rfl,rfl,hbl,hbk,har,rfl,rfl,rfl,rfl,rfl,rfl,rfl,rfl,rfl,rfl⟩
theorem BusI.mono {n:Int} {b:GBus} (h:BusI n b):BusI (n+1) b:=
 ⟨h.conf,h.ml,h.bl,h.sl,h.mst,h.arb,h.last,h.model,h.alive,h.dlive,h.fly,h.addr,h.data,h.held,fun d hd=>by have:=h.log.1 d hd;exact⟨⟨this.1.1,by have:=this.1.2;omega⟩,this.2⟩,h.log.2⟩
theorem fly_pos {n:Int} {b:GBus} (h:BusI n b) (hl:b.addr.live=true):(atI b.m b.addr.who).beat - (atI b.m b.addr.who).done≥1:=by
 rw[h.fly _ (live_who h hl)]
 unfold flyG
 rw[if_pos ⟨hl,rfl⟩]
 split<;>omega
theorem fly_posD {n:Int} {b:GBus} (h:BusI n b) (hl:b.data_.live=true):(atI b.m b.data_.who).beat - (atI b.m b.data_.who).done≥1:=by
 rw[h.fly _ (live_whoD h hl)]
 unfold flyG
 rw[if_pos (⟨hl,rfl⟩:b.data_.live=true∧b.data_.who=b.data_.who)]
 split<;>omega
theorem finish1_ok {n:Int} {b:GBus} (h:BusI n b) (hd:b.data_.live=true) (hl:b.data_.left > 0):BusI n {b with data_:={b.data_ with left:=b.data_.left - 1}}:=by
 refine⟨h.conf,h.ml,h.bl,h.sl,fun i hi=>?_,h.arb,h.last,h.model,h.alive,fun _=>h.dlive hd,fun i hi=>?_,h.addr,?_,h.held,h.log⟩
 ·have hm:=h.mst i hi;exact⟨hm.right,hm.tries,hm.bucket,hm.split⟩
 ·have:=h.fly i hi
  unfold flyG at this ⊢
  exact this
 ·have:=h.data
  unfold dataP at this ⊢
  rw[if_pos hd] at this
  simp only
  rw[if_pos hd]
  refine⟨⟨this.1.1,by have:=this.1.2.1;omega,this.1.2.2⟩,this.2.1,this.2.2.1,fun hs=>?_⟩
  have:=(this.2.2.2 hs).1
  omega
theorem finish2_ok {n:Int} {b:GBus} (h:BusI n b) (hd:b.data_.live=true) (hl:b.data_.left=0) (hr:b.data_.resp≠0):
  BusI n (if b.addr.live then {revokeG {b with data_:={b.data_ with second:=true}} b.addr with addr:=GBeat.z0} else {b with data_:={b.data_ with second:=true}}):=by
 have hdat:=h.data
 unfold dataP at hdat
 rw[if_pos hd] at hdat
 by_cases ha:b.addr.live=true
 ·rw[if_pos ha]
  have hw:=live_who h ha
  have hb:=mas_bnd hw
  have hf:=revoke_facts (b:={b with data_:={b.data_ with second:=true}}) (x:=b.addr) h.conf hw h.bl (fun i hi=>(h.mst i hi).bucket) h.arb
  generalize revokeG {b with data_:={b.data_ with second:=true}} b.addr=r at hf
  have hat:∀i,masterG b.conf i=true→atI r.m i=if i=b.addr.who then backG (atI b.m b.addr.who) else atI b.m i:=fun i hi=>by
   rw[hf.m];exact h.at_m hw _ hi
  have hs:=back_same (atI b.m b.addr.who)
  have hsm:∀i,masterG b.conf i=true→(atI r.m i).queue=(atI b.m i).queue∧(atI r.m i).done=(atI b.m i).done∧(atI r.m i).tries=(atI b.m i).tries∧(atI r.m i).parted=(atI b.m i).parted∧(atI r.m i).broken=(atI b.m i).broken:=fun i hi=>by
   rw[hat i hi]
   split
   ·rename_i e;subst e;exact hs
   ·exact⟨rfl,rfl,rfl,rfl,rfl⟩
  have hp:=fly_pos h ha
  have hbt:(backG (atI b.m b.addr.who)).beat=(atI b.m b.addr.who).beat - 1:=by
   unfold backG;rw[if_neg (by omega)]
  refine⟨by rw[show ({r with addr:=GBeat.z0}:GBus).conf=r.conf from rfl,hf.conf];exact h.conf,?_,?_,?_,fun i hi=>?_,?_,?_,?_,fun hx=>?_,fun hx=>?_,fun i hi=>?_,?_,?_,?_,?_⟩
  ·show r.m.length=r.conf.masters.length
   rw[hf.m,hf.conf];simp[h.ml]
  ·show r.buckets.length=r.conf.masters.length
   rw[hf.bl,hf.conf]
  ·show r.splits.length=r.conf.masters.length
   rw[hf.splits,hf.conf];exact h.sl
  ·have hi':masterG b.conf i=true:=by rw[←show r.conf=b.conf from hf.conf];exact hi
   have hm:=h.mst i hi'
   refine⟨?_,?_,?_,?_⟩
   ·show RightP (atI r.m i)
    rw[hat i hi']
    split
    ·exact back_right (h.mst _ hw).right
    ·exact hm.right
   ·show (atI r.m i).tries≤r.conf.maxRetry
    rw[(hsm i hi').2.2.1,hf.conf];exact hm.tries
   ·show bucketG (atI r.buckets i) (atI r.conf.masters i)=true
    rw[hf.conf];exact hf.bk i hi'
   ·show 0≤atI r.splits i∧atI r.splits i≤r.conf.maxSplit
    rw[hf.splits,hf.conf];exact hm.split
  ·show wrrG r.arb r.conf=true
   rw[hf.conf];exact hf.arb
  ·show r.last=-1∨masterG r.conf r.last=true
   rw[hf.last,hf.conf];exact h.last
  ·show ModelP r.model
   rw[hf.model];exact h.model
  ·cases hx
  ·have hx':r.data_.live=true:=hx
   obtain⟨h1,h2,h3⟩:=h.dlive hd
   refine⟨?_,?_,?_⟩
   ·show masterG r.conf r.data_.who=true
    rw[hf.conf,hf.data];exact h1
   ·show 1≤r.data_.by_∧r.data_.by_≤3
    rw[hf.data];exact h2
   ·show atI r.splits r.data_.who=0
    rw[hf.splits,hf.data];exact h3
  ·have hi':masterG b.conf i=true:=by rw[←show r.conf=b.conf from hf.conf];exact hi
   show (atI r.m i).beat - (atI r.m i).done=flyG {r with addr:=GBeat.z0} i
   have hfl:=h.fly i hi'
   unfold flyG at hfl ⊢
   simp only[hf.data]
   rw[(hsm i hi').2.1,hat i hi']
   by_cases e:i=b.addr.who
   ·subst e
    rw[if_pos rfl,hbt]
    rw[if_pos ⟨ha,rfl⟩] at hfl
    simp only[Bool.false_eq_true,false_and,if_false]
    omega
   ·rw[if_neg e]
    rw[if_neg (fun hx=>e hx.2.symm)] at hfl
    simp only[Bool.false_eq_true,false_and,if_false]
    exact hfl
  ·unfold addrP
   simp
  ·unfold dataP
   show if r.data_.live=true then _ else _
   simp only[hf.data,hf.conf,hf.holder]
   rw[if_pos hd]
   have e:=hsm _ (live_whoD h hd)
   rw[e.2.1,e.2.2.1,e.2.2.2.1]
   exact⟨hdat.1,hdat.2.1,hdat.2.2.1,fun _=>⟨hl,hr,trivial⟩⟩
  ·refine held_keep (b:=b) h.held hf.conf hf.holder hf.held (fun i hi=>⟨locks_same (hsm i hi).1 (hsm i hi).2.2.2.2,fun hx=>?_⟩) (fun _ hx=>by show atI r.splits b.holder=0;rw[hf.splits];exact hx)
   show (atI b.m i).beat > 0
   have hx':(atI r.m i).beat > 0:=hx
   rw[hat i hi] at hx'
   split at hx'
   ·rename_i e;subst e;rw[hbt] at hx';omega
   ·exact hx'
  ·show (∀d∈r.log,doneP r.conf n d)∧r.log.Pairwise _
   rw[hf.log,hf.conf];exact h.log
 ·rw[if_neg ha]
  refine⟨h.conf,h.ml,h.bl,h.sl,fun i hi=>?_,h.arb,h.last,h.model,h.alive,fun _=>h.dlive hd,fun i hi=>?_,h.addr,?_,h.held,h.log⟩
  ·have hm:=h.mst i hi;exact⟨hm.right,hm.tries,hm.bucket,hm.split⟩
  ·have:=h.fly i hi
   unfold flyG at this ⊢
   exact this
  ·unfold dataP
   simp only
   rw[if_pos hd]
   exact⟨hdat.1,hdat.2.1,hdat.2.2.1,fun _=>⟨hl,hr,by simpa using ha⟩⟩
theorem finish3_ok {n:Int} {b:GBus} (h:BusI n b) (hd:b.data_.live=true) (ha:b.addr.live=false) (x:GMst) (sp:List Int) (hq:x.queue=(atI b.m b.data_.who).queue) (hbe:x.beat=(atI b.m b.data_.who).beat) (hdo:x.done=(atI b.m b.data_.who).done) (hbr:x.broken=(atI b.m b.data_.who).broken)
  (ht:0≤x.tries∧x.tries≤b.conf.maxRetry) (hsl:sp.length=b.splits.length) (hsp:∀i,masterG b.conf i=true→0≤atI sp i∧atI sp i≤b.conf.maxSplit) (hsh:b.holder≠-1→atI b.splits b.holder=0→atI sp b.holder=0):
  BusI n (revokeG {b with data_:=GBeat.z0,m:=b.m.set b.data_.who.toNat x,splits:=sp} b.data_):=by
 have hw:=live_whoD h hd
 have hb:=mas_bnd hw
 have hf:=revoke_facts (b:={b with data_:=GBeat.z0,m:=b.m.set b.data_.who.toNat x,splits:=sp}) (x:=b.data_) h.conf hw h.bl (fun i hi=>(h.mst i hi).bucket) h.arb
 generalize revokeG {b with data_:=GBeat.z0,m:=b.m.set b.data_.who.toNat x,splits:=sp} b.data_=r at hf
 have hmw:=(h.mst _ hw).right
 have hp:=fly_posD h hd
 have hne:(atI b.m b.data_.who).queue≠[]:=right_ne hmw (by omega)
 have hxr:RightP x:=by
  have h2:=hmw.some hne
  refine⟨by rw[hq];exact hmw.len,ht.1,by rw[hq];exact hmw.reqs,fun hx=>absurd (by rw[←hq];exact hx) hne,fun _=>?_⟩
  have:mbeatsG x=mbeatsG (atI b.m b.data_.who):=by unfold mbeatsG;rw[hq]
  rw[this,hbe,hdo];exact h2
 have hxx:atI (b.m.set b.data_.who.toNat x) b.data_.who=x:=at_set_self x hb.1 (by have:=h.ml;omega)
 have hat:∀i,masterG b.conf i=true→atI r.m i=if i=b.data_.who then backG x else atI b.m i:=fun i hi=>by
  have hi':=mas_bnd hi
  rw[hf.m]
  show atI ((b.m.set b.data_.who.toNat x).set b.data_.who.toNat (backG (atI (b.m.set b.data_.who.toNat x) b.data_.who))) i=_
  rw[hxx,List.set_set]
  exact h.at_m hw _ hi
 have hs:=back_same x
 have hbt:(backG x).beat=(atI b.m b.data_.who).beat - 1:=by
  unfold backG;rw[if_neg (by rw[hbe,hdo];omega)];simp only[hbe]
 have hbz:GBeat.z0.live=false:=rfl
 refine⟨by rw[hf.conf];exact h.conf,?_,?_,?_,fun i hi=>?_,?_,?_,?_,fun hx=>?_,fun hx=>?_,fun i hi=>?_,?_,?_,?_,?_⟩
 ·rw[hf.m,hf.conf];simp[h.ml]
 ·rw[hf.bl,hf.conf]
 ·rw[hf.splits,hf.conf];show sp.length=_;rw[hsl];exact h.sl
 ·have hi':masterG b.conf i=true:=by rw[←show r.conf=b.conf from hf.conf];exact hi
  have hm:=h.mst i hi'
  refine⟨?_,?_,?_,?_⟩
  ·rw[hat i hi']
   split
   ·exact back_right hxr
   ·exact hm.right
  ·rw[hat i hi',hf.conf]
   split
   ·rw[hs.2.2.1];exact ht.2
   ·exact hm.tries
  ·rw[hf.conf];exact hf.bk i hi'
  ·rw[hf.splits,hf.conf];exact hsp i hi'
 ·rw[hf.conf];exact hf.arb
 ·rw[hf.last,hf.conf];exact h.last
 ·rw[hf.model];exact h.model
 ·rw[hf.addr] at hx;rw[show ({b with data_:=GBeat.z0,m:=b.m.set b.data_.who.toNat x,splits:=sp}:GBus).addr=b.addr from rfl,ha] at hx;cases hx
 ·rw[hf.data] at hx;cases hx
 ·have hi':masterG b.conf i=true:=by rw[←show r.conf=b.conf from hf.conf];exact hi
  have hfl:=h.fly i hi'
  unfold flyG at hfl ⊢
  rw[hf.data,hf.addr,hat i hi']
  show _=(if b.addr.live=true∧b.addr.who=i then (1:Int) else 0)+(if GBeat.z0.live=true∧GBeat.z0.who=i then 1 else 0)
  rw[ha] at hfl ⊢
  simp only[Bool.false_eq_true,false_and,if_false] at hfl ⊢
  by_cases e:i=b.data_.who
  ·subst e
   rw[if_pos rfl,hbt,hs.2.1,hdo]
   rw[if_pos (⟨hd,rfl⟩:b.data_.live=true∧b.data_.who=b.data_.who)] at hfl
   omega
  ·rw[if_neg e]
   rw[if_neg (fun hx=>e hx.2.symm)] at hfl
   exact hfl
 ·have:=h.addr
  unfold addrP at this ⊢
  rw[hf.addr]
  show if b.addr.live=true then _ else _
  rw[ha] at this ⊢
  exact this
 ·unfold dataP
  rw[hf.data]
  show if GBeat.z0.live=true then _ else _
  rw[if_neg (by simp)]
 ·refine held_keep (b:=b) h.held hf.conf hf.holder hf.held (fun i hi=>?_) (fun h1 h2=>by rw[hf.splits];exact hsh h1 h2)
  rw[hat i hi]
  split
  ·rename_i e;subst e
   refine⟨locks_same (by rw[hs.1,hq]) (by rw[hs.2.2.2.2,hbr]),fun hx=>?_⟩
   rw[hbt] at hx;omega
  ·exact⟨rfl,id⟩
 ·rw[hf.log,hf.conf];exact h.log
theorem end_facts {m:GMst} (h:RightP m) (hp:m.beat - m.done≥1):(m.done+1=mbeatsG m→m.beat - m.done=1∧(endG m).queue=m.queue.tail∧(endG m).beat=0∧(endG m).done=0∧(endG m).tries=0)∧
  (m.done+1≠mbeatsG m→(endG m).queue=m.queue∧(endG m).beat=m.beat∧(endG m).done=m.done+1∧(endG m).tries=0∧(endG m).broken=m.broken∧(endG m).parted=false):=by
 have h1:=h.some (right_ne h (by omega))
 unfold endG
 constructor
 ·intro e
  rw[if_neg (by omega),if_pos e]
  exact⟨by omega,rfl,rfl,rfl,rfl⟩
 ·intro e
  rw[if_neg (by omega),if_neg e]
  exact⟨rfl,rfl,rfl,rfl,rfl,rfl⟩
theorem number_ok {m:GMst} {k:Int} (h:RightP m) (h0:0≤k) (h1:k < mbeatsG m) (hw:(atI m.queue 0).write=true):0≤k∧k < ((atI m.queue 0).data_.length:Int):=by
 have hq:m.queue≠[]:=by
  intro hq
  unfold mbeatsG at h1
  rw[if_pos hq] at h1
  omega
 obtain⟨h2,h3,h4⟩:=right_first h hq
 have h5:=(req_parts h2).2.1
 rw[if_pos hw] at h5
 omega
theorem data_beat {n:Int} {b:GBus} (h:BusI n b) (hd:b.data_.live=true):0≤b.data_.beat∧b.data_.beat < mbeatsG (atI b.m b.data_.who):=by
 have hw:=live_whoD h hd
 have hp:=fly_posD h hd
 have hr:=(h.mst _ hw).right
 have h1:=hr.some (right_ne hr (by omega))
 have h2:=h.data
 unfold dataP at h2
 rw[if_pos hd] at h2
 rw[h2.1.1]
 omega
theorem addr_beat {n:Int} {b:GBus} (h:BusI n b) (hl:b.addr.live=true):0≤b.addr.beat∧b.addr.beat < mbeatsG (atI b.m b.addr.who):=by
 have hw:=live_who h hl
 have hp:=fly_pos h hl
 have hr:=(h.mst _ hw).right
 have h1:=hr.some (right_ne hr (by omega))
 have h2:=h.addr
 unfold addrP at h2
 rw[if_pos hl] at h2
 rw[h2.1]
 omega
theorem complete_ok {b:GBus} (hn:0≤b.now) (h:BusI b.now b) (hd:b.data_.live=true) (hr:b.data_.resp=0∨b.data_.resp=1) (hsec:b.data_.resp≠0→b.addr.live=false):BusI (b.now+1) (completeG {b with data_:=GBeat.z0} b.data_):=by
 have hw:=live_whoD h hd
 have hb:=mas_bnd hw
 have hmw:=(h.mst _ hw).right
 have hp:=fly_posD h hd
 have hne:(atI b.m b.data_.who).queue≠[]:=right_ne hmw (by omega)
 have hbt:=data_beat h hd
 have had:=maddr_ok hmw hbt.1 hbt.2
 have hdat:=h.data
 unfold dataP at hdat
 rw[if_pos hd] at hdat
 have hmdl:=modeldo_ok (w:=(atI (atI b.m b.data_.who).queue 0).write) (v:=numberG (atI b.m b.data_.who) b.data_.beat) h.model had.2.1
 have hef:=end_facts hmw hp
 have hat:∀i,masterG b.conf i=true→atI (b.m.set b.data_.who.toNat (endG (atI b.m b.data_.who))) i=if i=b.data_.who then endG (atI b.m b.data_.who) else atI b.m i:=fun i hi=>h.at_m hw _ hi
 have hlast:(atI b.m b.data_.who).done+1=mbeatsG (atI b.m b.data_.who)→b.addr.live=true→b.addr.who≠b.data_.who:=by
  intro e hl e2
  have h1:=(hef.1 e).1
  have h2:=h.fly _ hw
  unfold flyG at h2
  rw[if_pos (⟨hl,e2⟩:b.addr.live=true∧b.addr.who=b.data_.who),if_pos (⟨hd,rfl⟩:b.data_.live=true∧b.data_.who=b.data_.who)] at h2
  omega
 have hz:numG 0 (atI (atI b.m b.data_.who).queue 0).size=true:=by
  have h1:=(bytes_pos _).1 (aligned_parts had.2.1).1
  generalize (atI (atI b.m b.data_.who).queue 0).size=s at h1
  have:s=0∨s=1∨s=2:=by omega
  rcases this with rfl|rfl|rfl<;>decide
 refine⟨h.conf,?_,h.bl,h.sl,fun i hi=>?_,h.arb,h.last,?_,h.alive,(fun hx=>by cases hx),fun i hi=>?_,?_,?_,?_,?_⟩
 ·show (b.m.set b.data_.who.toNat (endG (atI b.m b.data_.who))).length=_
  rw[List.length_set];exact h.ml
 ·have hi':masterG b.conf i=true:=hi
  have hm:=h.mst i hi'
  refine⟨?_,?_,hm.bucket,hm.split⟩
  ·show RightP (atI (b.m.set b.data_.who.toNat (endG (atI b.m b.data_.who))) i)
   rw[hat i hi']
   split
   ·exact end_right hmw
   ·exact hm.right
  ·show (atI (b.m.set b.data_.who.toNat (endG (atI b.m b.data_.who))) i).tries≤b.conf.maxRetry
   rw[hat i hi']
   split
   ·have hl:=(conf_lims h.conf).1
    by_cases e:(atI b.m b.data_.who).done+1=mbeatsG (atI b.m b.data_.who)
    ·rw[(hef.1 e).2.2.2.2];omega
    ·rw[(hef.2 e).2.2.2.1];omega
   ·exact hm.tries
 ·show ModelP (if b.data_.resp=0 then (doG {b with data_:=GBeat.z0} b.data_).1 else b.model)
  split
  ·exact hmdl.1
  ·exact h.model
 ·have hi':masterG b.conf i=true:=hi
  have hfl:=h.fly i hi'
  show (atI (b.m.set b.data_.who.toNat (endG (atI b.m b.data_.who))) i).beat - (atI (b.m.set b.data_.who.toNat (endG (atI b.m b.data_.who))) i).done=flyG (completeG {b with data_:=GBeat.z0} b.data_) i
  unfold flyG at hfl ⊢
  show _=(if b.addr.live=true∧b.addr.who=i then (1:Int) else 0)+(if GBeat.z0.live=true∧GBeat.z0.who=i then 1 else 0)
  rw[hat i hi']
  simp only[Bool.false_eq_true,false_and,if_false]
  by_cases e:i=b.data_.who
  ·subst e
   rw[if_pos rfl]
   rw[if_pos (⟨hd,rfl⟩:b.data_.live=true∧b.data_.who=b.data_.who)] at hfl
   by_cases e2:(atI b.m b.data_.who).done+1=mbeatsG (atI b.m b.data_.who)
   ·rw[(hef.1 e2).2.2.1,(hef.1 e2).2.2.2.1,if_neg (fun hx=>hlast e2 hx.1 hx.2)]
    rfl
   ·rw[(hef.2 e2).2.1,(hef.2 e2).2.2.1]
    omega
  ·rw[if_neg e]
   rw[if_neg (fun hx:b.data_.live=true∧b.data_.who=i=>e hx.2.symm)] at hfl
   omega
 ·have hA:=h.addr
  unfold addrP at hA ⊢
  show if b.addr.live=true then _ else _
  by_cases hl:b.addr.live=true
  ·rw[if_pos hl] at hA ⊢
   show b.addr.beat=(atI (b.m.set b.data_.who.toNat (endG (atI b.m b.data_.who))) b.addr.who).beat - 1∧_
   rw[hat _ (live_who h hl)]
   split
   ·rename_i e
    have e2:¬(atI b.m b.data_.who).done+1=mbeatsG (atI b.m b.data_.who):=fun e2=>hlast e2 hl e
    rw[(hef.2 e2).2.1,←e];exact hA
   ·exact hA
  ·rw[if_neg hl] at hA ⊢;exact hA
 ·unfold dataP
  show if GBeat.z0.live=true then _ else _
  rw[if_neg (by simp)]
  rfl
 ·obtain⟨h1,h2⟩:=h.held
  show heldP (completeG {b with data_:=GBeat.z0} b.data_)
  unfold heldP
  show (∀i,masterG b.conf i=true→(atI (b.m.set b.data_.who.toNat (endG (atI b.m b.data_.who))) i).beat > 0→locksG (atI (b.m.set b.data_.who.toNat (endG (atI b.m b.data_.who))) i)=true→(if b.holder=b.data_.who∧(atI b.m b.data_.who).done+1=mbeatsG (atI b.m b.data_.who) then -1 else b.holder)=i)∧
   (if (if b.holder=b.data_.who∧(atI b.m b.data_.who).done+1=mbeatsG (atI b.m b.data_.who) then -1 else b.holder)=-1 then (if b.holder=b.data_.who∧(atI b.m b.data_.who).done+1=mbeatsG (atI b.m b.data_.who) then 0 else b.held)=0 else masterG b.conf (if b.holder=b.data_.who∧(atI b.m b.data_.who).done+1=mbeatsG (atI b.m b.data_.who) then -1 else b.holder)=true∧locksG (atI (b.m.set b.data_.who.toNat (endG (atI b.m b.data_.who))) (if b.holder=b.data_.who∧(atI b.m b.data_.who).done+1=mbeatsG (atI b.m b.data_.who) then -1 else b.holder))=true∧atI b.splits (if b.holder=b.data_.who∧(atI b.m b.data_.who).done+1=mbeatsG (atI b.m b.data_.who) then -1 else b.holder)=0∧(0≤(if b.holder=b.data_.who∧(atI b.m b.data_.who).done+1=mbeatsG (atI b.m b.data_.who) then 0 else b.held)∧(if b.holder=b.data_.who∧(atI b.m b.data_.who).done+1=mbeatsG (atI b.m b.data_.who) then 0 else b.held)≤b.conf.lockMost))
  have hold:∀i,masterG b.conf i=true→(atI (b.m.set b.data_.who.toNat (endG (atI b.m b.data_.who))) i).beat > 0→locksG (atI (b.m.set b.data_.who.toNat (endG (atI b.m b.data_.who))) i)=true→b.holder=i∧¬(i=b.data_.who∧(atI b.m b.data_.who).done+1=mbeatsG (atI b.m b.data_.who)):=by
   intro i hi hx hk
   rw[hat i hi] at hx hk
   by_cases e:i=b.data_.who
   ·rw[if_pos e] at hx hk
    by_cases e2:(atI b.m b.data_.who).done+1=mbeatsG (atI b.m b.data_.who)
    ·rw[(hef.1 e2).2.2.1] at hx;omega
    ·have e3:=hef.2 e2
     rw[e3.2.1] at hx
     rw[locks_same e3.1 e3.2.2.2.2.1] at hk
     subst e
     exact⟨h1 _ hi hx hk,fun hy=>e2 hy.2⟩
   ·rw[if_neg e] at hx hk
    exact⟨h1 i hi hx hk,fun hy=>e hy.1⟩
  by_cases e:b.holder=b.data_.who∧(atI b.m b.data_.who).done+1=mbeatsG (atI b.m b.data_.who)
  ·simp only[if_pos e,if_true]
   refine⟨fun i hi hx hk=>?_,trivial⟩
   have:=hold i hi hx hk
   exact absurd ⟨by rw[←this.1];exact e.1,e.2⟩ this.2
  ·simp only[if_neg e]
   refine⟨fun i hi hx hk=>(hold i hi hx hk).1,?_⟩
   split
   ·rename_i e2;rw[if_pos e2] at h2;exact h2
   ·rename_i e2
    rw[if_neg e2] at h2
    refine⟨h2.1,?_,h2.2.2.1,h2.2.2.2⟩
    rw[hat _ h2.1]
    split
    ·rename_i e3
     have e4:¬(atI b.m b.data_.who).done+1=mbeatsG (atI b.m b.data_.who):=fun e4=>e ⟨e3,e4⟩
     rw[locks_same (hef.2 e4).1 (hef.2 e4).2.2.2.2.1,←e3];exact h2.2.1
    ·exact h2.2.1
 ·show (∀d∈b.log++[doneG {b with data_:=GBeat.z0} b.data_],doneP b.conf (b.now+1) d)∧(b.log++[doneG {b with data_:=GBeat.z0} b.data_]).Pairwise _
  refine⟨fun d hx=>?_,?_⟩
  ·rcases List.mem_append.1 hx with hx|hx
   ·have:=h.log.1 d hx
    exact⟨⟨this.1.1,by have:=this.1.2;omega⟩,this.2⟩
   ·rw[List.mem_singleton.1 hx]
    refine⟨⟨hn,by show b.now < b.now+1;omega⟩,hw,had.2.1,had.2.2.2,?_,hr⟩
    show numG (if b.data_.resp=0 then (doG {b with data_:=GBeat.z0} b.data_).2.1 else 0) (atI (atI b.m b.data_.who).queue 0).size=true
    split
    ·exact hmdl.2.1
    ·exact hz
  ·rw[List.pairwise_append]
   refine⟨h.log.2,List.pairwise_singleton _ _,fun x hx y hy=>?_⟩
   rw[List.mem_singleton.1 hy]
   exact (h.log.1 x hx).1.2
theorem split_le {c:GConf} (h:confG c=true) (s:GScript) (k:Int):1≤splitG c s k∧splitG c s k≤c.maxSplit:=by
 have:=(conf_lims h).2.2.2
 unfold splitG
 omega
theorem finish_ok {b:GBus} (s:GScript) (hn:0≤b.now) (h:BusI b.now b):BusI (b.now+1) (finishG b s).1∧((finishG b s).2.1=true→(finishG b s).1.data_=GBeat.z0):=by
 unfold finishG
 by_cases hd:b.data_.live=false
 ·rw[if_pos hd]
  refine⟨h.mono,fun _=>?_⟩
  have:=h.data
  unfold dataP at this
  rw[if_neg (by simp[hd])] at this
  exact this
 ·have hd':b.data_.live=true:=by simpa using hd
  have hdat:=h.data
  unfold dataP at hdat
  rw[if_pos hd'] at hdat
  rw[if_neg hd]
  by_cases hl:b.data_.left > 0
  ·rw[if_pos hl]
   exact⟨(finish1_ok h hd' hl).mono,fun hx=>by cases hx⟩
  ·have hl0:b.data_.left=0:=by have:=hdat.1.2.1;omega
   rw[if_neg hl]
   by_cases h2:b.data_.resp≠0∧b.data_.second=false
   ·rw[if_pos h2]
    exact⟨(finish2_ok h hd' hl0 h2.1).mono,fun hx=>by cases hx⟩
   ·rw[if_neg h2]
    have hsec:b.data_.resp≠0→b.addr.live=false:=fun hr=>by
     have:b.data_.second=true:=by
      cases hs:b.data_.second with
      | true=>rfl
      | false=>exact absurd ⟨hr,hs⟩ h2
     exact (hdat.2.2.2 this).2.2
    have hw:=live_whoD h hd'
    have hm:=h.mst _ hw
    by_cases h3:b.data_.resp=2
    ·rw[if_pos h3]
     refine⟨?_,fun _=>?_⟩
     ·refine (finish3_ok h hd' (hsec (by omega)) {atI b.m b.data_.who with tries:=(atI b.m b.data_.who).tries+1} b.splits rfl rfl rfl rfl ⟨?_,?_⟩ rfl (fun i hi=>(h.mst i hi).split) fun _ h=>h).mono
      ·have:=hm.right.tries;show 0≤(atI b.m b.data_.who).tries+1;omega
      ·have:=hdat.2.1 h3;show (atI b.m b.data_.who).tries+1≤_;omega
     ·unfold revokeG;split
      ·rfl
      ·split<;>rfl
    ·rw[if_neg h3]
     by_cases h4:b.data_.resp=3
     ·rw[if_pos h4]
      have hsp:=split_le h.conf s b.picks
      refine⟨?_,fun _=>?_⟩
      ·refine (finish3_ok h hd' (hsec (by omega)) {atI b.m b.data_.who with parted:=true} (b.splits.set b.data_.who.toNat (splitG b.conf s b.picks)) rfl rfl rfl rfl ⟨hm.right.tries,hm.tries⟩ (by simp) (fun i hi=>?_) fun h5 h6=>?_).mono
       ·have hb:=mas_bnd hw
        rw[at_set _ hb.1 (by have:=h.sl;omega) (mas_bnd hi).1]
        split
        ·omega
        ·exact (h.mst i hi).split
       ·have hb:=mas_bnd hw
        have hh:masterG b.conf b.holder=true:=by
         have:=h.held.2
         rw[if_neg h5] at this
         exact this.1
        rw[at_set _ hb.1 (by have:=h.sl;omega) (mas_bnd hh).1,if_neg (fun e=>(hdat.2.2.1 h4).2 e.symm)]
        exact h6
      ·unfold revokeG;split
       ·rfl
       ·split<;>rfl
     ·rw[if_neg h4]
      exact⟨complete_ok hn h hd' (by have:=hdat.1.2.2;omega) hsec,fun _=>rfl⟩
end Go.Proofs.YtciimjnpdmmfnaaGreat.Ev
namespace Go.Proofs.YtciimjnpdmmfnaaGreat.Ev
open Go Go.Proofs
set_option linter.unusedVariables false
set_option linter.unusedSimpArgs false
theorem held_who {n:Int} {b:GBus} (h:BusI n b) (e:b.holder≠-1):masterG b.conf b.holder=true∧locksG (atI b.m b.holder)=true∧atI b.splits b.holder=0∧(0≤b.held∧b.held≤b.conf.lockMost):=by
 have:=h.held.2
 rw[if_neg e] at this
 exact this
theorem break_ok {n:Int} {b:GBus} (h:BusI n b):BusI n (breakG b):=by
 unfold breakG
 split
 ·rename_i hx
  obtain⟨hw,hlk,_,_⟩:=held_who h hx.1
  have hb:=mas_bnd hw
  have hat:∀i,masterG b.conf i=true→atI (b.m.set b.holder.toNat {atI b.m b.holder with broken:=true}) i=if i=b.holder then {atI b.m b.holder with broken:=true} else atI b.m i:=fun i hi=>h.at_m hw _ hi
  have hsm:∀i,masterG b.conf i=true→(atI (b.m.set b.holder.toNat {atI b.m b.holder with broken:=true}) i).beat=(atI b.m i).beat∧(atI (b.m.set b.holder.toNat {atI b.m b.holder with broken:=true}) i).done=(atI b.m i).done∧(atI (b.m.set b.holder.toNat {atI b.m b.holder with broken:=true}) i).tries=(atI b.m i).tries∧(atI (b.m.set b.holder.toNat {atI b.m b.holder with broken:=true}) i).parted=(atI b.m i).parted:=by
   intro i hi
   rw[hat i hi]
   split
   ·rename_i e;subst e;exact⟨rfl,rfl,rfl,rfl⟩
   ·exact⟨rfl,rfl,rfl,rfl⟩
  refine⟨h.conf,?_,h.bl,h.sl,fun i hi=>?_,h.arb,h.last,h.model,h.alive,h.dlive,fun i hi=>?_,?_,?_,?_,h.log⟩
  ·show (b.m.set b.holder.toNat _).length=_
   rw[List.length_set];exact h.ml
  ·have hi':masterG b.conf i=true:=hi
   have hm:=h.mst i hi'
   refine⟨?_,?_,hm.bucket,hm.split⟩
   ·show RightP (atI (b.m.set b.holder.toNat {atI b.m b.holder with broken:=true}) i)
    rw[hat i hi']
    split
    ·have hr:=(h.mst _ hw).right
     exact⟨hr.len,hr.tries,hr.reqs,fun hq=>absurd (show (atI b.m b.holder).queue=[] from hq) (locks_ne hlk),hr.some⟩
    ·exact hm.right
   ·show (atI (b.m.set b.holder.toNat {atI b.m b.holder with broken:=true}) i).tries≤b.conf.maxRetry
    rw[(hsm i hi').2.2.1];exact hm.tries
  ·have hi':masterG b.conf i=true:=hi
   show (atI (b.m.set b.holder.toNat {atI b.m b.holder with broken:=true}) i).beat - (atI (b.m.set b.holder.toNat {atI b.m b.holder with broken:=true}) i).done=flyG b i
   rw[(hsm i hi').1,(hsm i hi').2.1];exact h.fly i hi'
  ·have:=h.addr
   unfold addrP at this ⊢
   show if b.addr.live=true then b.addr.beat=(atI (b.m.set b.holder.toNat {atI b.m b.holder with broken:=true}) b.addr.who).beat - 1∧_ else _
   by_cases hl:b.addr.live=true
   ·rw[if_pos hl] at this ⊢
    rw[(hsm _ (live_who h hl)).1];exact this
   ·rw[if_neg hl] at this ⊢;exact this
  ·have:=h.data
   unfold dataP at this ⊢
   show if b.data_.live=true then _ else _
   by_cases hl:b.data_.live=true
   ·rw[if_pos hl] at this ⊢
    have e:=hsm _ (live_whoD h hl)
    show (b.data_.beat=(atI (b.m.set b.holder.toNat {atI b.m b.holder with broken:=true}) b.data_.who).done∧_)∧(_→(atI (b.m.set b.holder.toNat {atI b.m b.holder with broken:=true}) b.data_.who).tries < _)∧(_→(atI (b.m.set b.holder.toNat {atI b.m b.holder with broken:=true}) b.data_.who).parted=false∧b.data_.who≠-1)∧_
    rw[e.2.1,e.2.2.1,e.2.2.2]
    exact⟨this.1,this.2.1,fun h3=>⟨(this.2.2.1 h3).1,by have:=mas_bnd (live_whoD h hl);omega⟩,this.2.2.2⟩
   ·rw[if_neg hl] at this ⊢;exact this
  ·refine⟨fun i hi hx2 hk=>?_,?_⟩
   ·have hi':masterG b.conf i=true:=hi
    have hx3:(atI (b.m.set b.holder.toNat {atI b.m b.holder with broken:=true}) i).beat > 0:=hx2
    have hk3:locksG (atI (b.m.set b.holder.toNat {atI b.m b.holder with broken:=true}) i)=true:=hk
    rw[hat i hi'] at hx3 hk3
    split at hk3
    ·simp[locksG] at hk3
    ·rename_i e
     rw[if_neg e] at hx3
     exact absurd (h.held.1 i hi' hx3 hk3).symm e
   ·show if (-1:Int)=-1 then (0:Int)=0 else _
    rw[if_pos rfl]
 ·exact h
theorem break_data (b:GBus):(breakG b).data_=b.data_∧(breakG b).addr=b.addr∧(breakG b).picks=b.picks∧(breakG b).now=b.now∧(breakG b).conf=b.conf∧(breakG b).log=b.log∧(breakG b).model=b.model:=by
 unfold breakG;split<;>exact⟨rfl,rfl,rfl,rfl,rfl,rfl,rfl⟩
theorem wait_le {c:GConf} (h:confG c=true) (s:GScript) (k:Int):0≤waitG c s k∧waitG c s k≤c.maxWait:=by
 have:=(conf_lims h).2.1
 unfold waitG
 omega
theorem answer_ok {n:Int} {b:GBus} (h:BusI n b) (s:GScript) (hl:b.addr.live=true):(0≤(answerG b s b.addr).2∧(answerG b s b.addr).2≤b.conf.maxWait+2)∧(0≤(answerG b s b.addr).1∧(answerG b s b.addr).1≤3)∧
  ((answerG b s b.addr).1=2→(atI b.m b.addr.who).tries < b.conf.maxRetry)∧((answerG b s b.addr).1=3→(atI b.m b.addr.who).parted=false∧b.addr.who≠b.holder):=by
 have hw:=live_who h hl
 have hm:=(h.mst _ hw).right
 have hbt:=addr_beat h hl
 have had:=maddr_ok hm hbt.1 hbt.2
 have hmdl:=(modeldo_ok (w:=(atI (atI b.m b.addr.who).queue 0).write) (v:=numberG (atI b.m b.addr.who) b.addr.beat) h.model had.2.1).2.2
 have hwt:=wait_le h.conf s b.picks
 have hlm:=(conf_lims h.conf).2.1
 have hdo:(doG b b.addr).2.2=0∨(doG b b.addr).2.2=1:=hmdl
 unfold answerG
 split
 ·exact⟨by simp;omega,by simp,by simp,by simp⟩
 ·refine⟨?_,?_,?_,?_⟩
  ·simp only
   split<;>omega
  ·simp only
   repeat' split
   all_goals omega
  ·simp only
   split
   ·rename_i h1;exact fun _=>h1.2.2
   ·split
    ·intro h2;omega
    ·intro h2;omega
  ·simp only
   split
   ·intro h2;omega
   ·split
    ·rename_i h1;exact fun _=>h1.2.2
    ·intro h2;omega
theorem begin_ok {n:Int} {b:GBus} (h:BusI n b) (s:GScript) (hd:b.data_=GBeat.z0):BusI n (beginG b s)∧(beginG b s).addr=GBeat.z0:=by
 unfold beginG
 by_cases hl:b.addr.live=true
 ·rw[if_pos hl]
  refine⟨?_,rfl⟩
  have hw:=live_who h hl
  have ha:=answer_ok h s hl
  have hA:=h.addr
  unfold addrP at hA
  rw[if_pos hl] at hA
  have hdl:b.data_.live=false:=by rw[hd]
  have hdone:(atI b.m b.addr.who).beat - (atI b.m b.addr.who).done=1:=by
   rw[h.fly _ hw]
   unfold flyG
   rw[if_pos ⟨hl,rfl⟩,hdl]
   simp
  refine⟨h.conf,h.ml,h.bl,h.sl,fun i hi=>?_,h.arb,h.last,h.model,(fun hx=>by cases hx),fun _=>h.alive hl,fun i hi=>?_,?_,?_,h.held,h.log⟩
  ·have hm:=h.mst i hi;exact⟨hm.right,hm.tries,hm.bucket,hm.split⟩
  ·have hfl:=h.fly i hi
   rw[hfl]
   unfold flyG
   simp only[hdl,hl,Bool.false_eq_true,false_and,if_false,true_and]
   omega
  ·unfold addrP
   simp
  ·unfold dataP
   show if b.addr.live=true then _ else _
   rw[if_pos hl]
   refine⟨⟨by show b.addr.beat=_;rw[hA.1];show (atI b.m b.addr.who).beat - 1=(atI b.m b.addr.who).done;omega,ha.1,ha.2.1⟩,ha.2.2.1,ha.2.2.2,fun hs=>?_⟩
   have:b.addr.second=true:=hs
   rw[hA.2.2.2] at this
   cases this
 ·rw[if_neg hl]
  refine⟨h,?_⟩
  have hA:=h.addr
  unfold addrP at hA
  rw[if_neg hl] at hA
  exact hA
theorem begin_data (b:GBus) (s:GScript):(beginG b s).now=b.now∧(beginG b s).conf=b.conf∧(beginG b s).log=b.log∧(beginG b s).model=b.model∧(beginG b s).m=b.m∧(beginG b s).splits=b.splits∧(beginG b s).holder=b.holder∧b.picks≤(beginG b s).picks∧(beginG b s).picks≤b.picks+1:=by
 unfold beginG;split
 ·exact⟨rfl,rfl,rfl,rfl,rfl,rfl,rfl,by show b.picks≤b.picks+1;omega,Int.le_refl _⟩
 ·exact⟨rfl,rfl,rfl,rfl,rfl,rfl,rfl,Int.le_refl _,by omega⟩
theorem wantsL_len (b:GBus):(wantsL b).length=b.m.length:=by simp[wantsL]
theorem wantsL_at {n:Int} {b:GBus} (h:BusI n b) {i:Int} (hi:masterG b.conf i=true):atI (wantsL b) i=wantG b i:=by
 obtain⟨k,rfl,hk⟩:=mas_nat hi
 have:=h.ml
 rw[at_nat (by rw[wantsL_len];omega)]
 simp[wantsL]
structure Picked (n:Int) (b:GBus) (p:Int×Int×GBus):Prop where
 ok:BusI n p.2.2
 who:p.1=-1∨(masterG b.conf p.1=true∧wantG b p.1=true∧(1≤p.2.1∧p.2.1≤3))
 conf:p.2.2.conf=b.conf
 m:p.2.2.m=b.m
 splits:p.2.2.splits=b.splits
 holder:p.2.2.holder=b.holder
 held:p.2.2.held=b.held
 addr:p.2.2.addr=b.addr
 data:p.2.2.data_=b.data_
 model:p.2.2.model=b.model
 log:p.2.2.log=b.log
 last:p.2.2.last=b.last
 now:p.2.2.now=b.now
 picks:p.2.2.picks=b.picks
theorem picked_ok {n:Int} {b:GBus} (h:BusI n b):Picked n b (pickG b):=by
 unfold pickG
 split
 ·rename_i hx
  exact⟨h,.inr ⟨(held_who h hx.1).1,hx.2,by simp⟩,rfl,rfl,rfl,rfl,rfl,rfl,rfl,rfl,rfl,rfl,rfl,rfl⟩
 ·split
  ·rename_i k hk
   have hk1:=List.find?_some hk
   have hk2:=List.mem_of_find?_eq_some hk
   rw[List.mem_range,h.ml] at hk2
   simp only[tokenG,Bool.and_eq_true] at hk1
   have hm:=mas (c:=b.conf) hk2
   have hmb:=mas_bnd hm
   refine⟨?_,.inr ⟨hm,hk1.1,by simp⟩,rfl,rfl,rfl,rfl,rfl,rfl,rfl,rfl,rfl,rfl,rfl,rfl⟩
   refine⟨h.conf,h.ml,by show (b.buckets.set k _).length=_;rw[List.length_set];exact h.bl,h.sl,fun i hi=>?_,h.arb,h.last,h.model,h.alive,h.dlive,h.fly,h.addr,h.data,h.held,h.log⟩
   have hmi:=h.mst i hi
   refine⟨hmi.right,hmi.tries,?_,hmi.split⟩
   show bucketG (atI (b.buckets.set k (takeG (atI b.buckets (k:Int)) (atI b.conf.masters (k:Int))).1) i) (atI b.conf.masters i)=true
   have e:=at_set (xs:=b.buckets) (w:=(k:Int)) (takeG (atI b.buckets (k:Int)) (atI b.conf.masters (k:Int))).1 hmb.1 (by have:=h.bl;omega) (mas_bnd hi).1
   rw[Int.toNat_natCast] at e
   rw[e]
   split
   ·rename_i e2;subst e2;exact take_ok hmi.bucket (conf_at h.conf hi)
   ·exact hmi.bucket
  ·split
   ·exact⟨h,.inl rfl,rfl,rfl,rfl,rfl,rfl,rfl,rfl,rfl,rfl,rfl,rfl,rfl⟩
   ·have hp:=wpick_ok (wants:=wantsL b) h.arb (by rw[wantsL_len,h.ml])
    refine⟨⟨h.conf,h.ml,h.bl,h.sl,fun i hi=>?_,hp.1,h.last,h.model,h.alive,h.dlive,h.fly,h.addr,h.data,h.held,h.log⟩,?_,rfl,rfl,rfl,rfl,rfl,rfl,rfl,rfl,rfl,rfl,rfl,rfl⟩
    ·have hmi:=h.mst i hi;exact⟨hmi.right,hmi.tries,hmi.bucket,hmi.split⟩
    ·rcases hp.2 with hp2|hp2
     ·exact .inl hp2
     ·exact .inr ⟨hp2.1,by rw[←wantsL_at h hp2.1];exact hp2.2,by simp⟩
theorem want_parts {b:GBus} {i:Int} (h:wantG b i=true):(atI b.m i).beat < mbeatsG (atI b.m i)∧atI b.splits i=0∧(b.holder=-1∨b.holder=i):=by
 simp only[wantG,wantsG,Bool.and_eq_true,Bool.or_eq_true,decide_eq_true_eq] at h
 exact⟨h.1,h.2.1,h.2.2⟩
theorem issue_same (m:GMst):(issueG m).queue=m.queue∧(issueG m).done=m.done∧(issueG m).tries=m.tries∧(issueG m).parted=m.parted∧(issueG m).broken=m.broken:=by
 unfold issueG;split<;>exact⟨rfl,rfl,rfl,rfl,rfl⟩
theorem give_ok {n:Int} {b:GBus} (h:BusI n b) (ha:b.addr=GBeat.z0) (hsec:b.data_.second=false) {who by_:Int} (hw:masterG b.conf who=true) (hwant:wantG b who=true) (hby:1≤by_∧by_≤3):BusI n (giveG b who by_):=by
 obtain⟨w1,w2,w3⟩:=want_parts hwant
 have hmw:=(h.mst _ hw).right
 have hal:b.addr.live=false:=by rw[ha]
 have hfw:=h.fly _ hw
 have hle:(atI b.m who).beat - (atI b.m who).done≤1:=by
  rw[hfw];unfold flyG;rw[hal];simp only[Bool.false_eq_true,false_and,if_false];split<;>omega
 have hbt:(issueG (atI b.m who)).beat=(atI b.m who).beat+1:=by
  unfold issueG;rw[if_pos ⟨w1,by omega⟩]
 have hs:=issue_same (atI b.m who)
 have hat:∀i,masterG b.conf i=true→atI (b.m.set who.toNat (issueG (atI b.m who))) i=if i=who then issueG (atI b.m who) else atI b.m i:=fun i hi=>h.at_m hw _ hi
 have hsm:∀i,masterG b.conf i=true→(atI (b.m.set who.toNat (issueG (atI b.m who))) i).queue=(atI b.m i).queue∧(atI (b.m.set who.toNat (issueG (atI b.m who))) i).done=(atI b.m i).done∧(atI (b.m.set who.toNat (issueG (atI b.m who))) i).tries=(atI b.m i).tries∧(atI (b.m.set who.toNat (issueG (atI b.m who))) i).parted=(atI b.m i).parted∧(atI (b.m.set who.toNat (issueG (atI b.m who))) i).broken=(atI b.m i).broken:=fun i hi=>by
  rw[hat i hi]
  split
  ·rename_i e;subst e;exact hs
  ·exact⟨rfl,rfl,rfl,rfl,rfl⟩
 have hmb:=mas_bnd hw
 refine⟨h.conf,?_,h.bl,h.sl,fun i hi=>?_,h.arb,.inr hw,h.model,fun _=>⟨hw,hby,w2⟩,h.dlive,fun i hi=>?_,?_,?_,?_,h.log⟩
 ·show (b.m.set who.toNat _).length=_
  rw[List.length_set];exact h.ml
 ·have hi':masterG b.conf i=true:=hi
  have hm:=h.mst i hi'
  refine⟨?_,?_,hm.bucket,hm.split⟩
  ·show RightP (atI (b.m.set who.toNat (issueG (atI b.m who))) i)
   rw[hat i hi']
   split
   ·exact issue_right hmw
   ·exact hm.right
  ·show (atI (b.m.set who.toNat (issueG (atI b.m who))) i).tries≤_
   rw[(hsm i hi').2.2.1];exact hm.tries
 ·have hi':masterG b.conf i=true:=hi
  have hfl:=h.fly i hi'
  show (atI (b.m.set who.toNat (issueG (atI b.m who))) i).beat - (atI (b.m.set who.toNat (issueG (atI b.m who))) i).done=flyG (giveG b who by_) i
  rw[(hsm i hi').2.1,hat i hi']
  unfold flyG at hfl ⊢
  rw[hal] at hfl
  simp only[Bool.false_eq_true,false_and,if_false] at hfl
  show _=(if (true:Bool)=true∧who=i then (1:Int) else 0)+(if b.data_.live=true∧b.data_.who=i then 1 else 0)
  simp only[true_and]
  by_cases e:i=who
  ·subst e
   rw[if_pos rfl,if_pos rfl,hbt];omega
  ·rw[if_neg e,if_neg (fun e2=>e e2.symm)];omega
 ·unfold addrP
  show if (true:Bool)=true then (atI b.m who).beat=(atI (b.m.set who.toNat (issueG (atI b.m who))) who).beat - 1∧_ else _
  rw[if_pos rfl,hat _ hw,if_pos rfl,hbt]
  exact⟨by omega,rfl,rfl,rfl⟩
 ·have hD:=h.data
  unfold dataP at hD ⊢
  show if b.data_.live=true then _ else _
  by_cases hl:b.data_.live=true
  ·rw[if_pos hl] at hD ⊢
   have e:=hsm _ (live_whoD h hl)
   show (b.data_.beat=(atI (b.m.set who.toNat (issueG (atI b.m who))) b.data_.who).done∧_)∧(_→(atI (b.m.set who.toNat (issueG (atI b.m who))) b.data_.who).tries < _)∧(_→(atI (b.m.set who.toNat (issueG (atI b.m who))) b.data_.who).parted=false∧b.data_.who≠(if locksG (atI b.m who)=true∧b.holder=-1 then who else b.holder))∧_
   rw[e.2.1,e.2.2.1,e.2.2.2.1]
   refine⟨hD.1,hD.2.1,fun h3=>⟨(hD.2.2.1 h3).1,?_⟩,fun h4=>?_⟩
   ·split
    ·rename_i e2
     intro e3
     have hp:=fly_posD h hl
     have hr:=right_bnd (h.mst _ (live_whoD h hl)).right
     have:=h.held.1 _ (live_whoD h hl) (by omega) (by rw[e3];exact e2.1)
     omega
    ·exact (hD.2.2.1 h3).2
   ·have:b.data_.second=true:=h4
    rw[hsec] at this;cases this
  ·rw[if_neg hl] at hD ⊢;exact hD
 ·have hh:=h.held
  unfold heldP at hh ⊢
  show (∀i,masterG b.conf i=true→(atI (b.m.set who.toNat (issueG (atI b.m who))) i).beat > 0→locksG (atI (b.m.set who.toNat (issueG (atI b.m who))) i)=true→(if locksG (atI b.m who)=true∧b.holder=-1 then who else b.holder)=i)∧
   (if (if locksG (atI b.m who)=true∧b.holder=-1 then who else b.holder)=-1 then (if locksG (atI b.m who)=true∧b.holder=-1 then 0 else b.held)=0 else masterG b.conf (if locksG (atI b.m who)=true∧b.holder=-1 then who else b.holder)=true∧locksG (atI (b.m.set who.toNat (issueG (atI b.m who))) (if locksG (atI b.m who)=true∧b.holder=-1 then who else b.holder))=true∧atI b.splits (if locksG (atI b.m who)=true∧b.holder=-1 then who else b.holder)=0∧(0≤(if locksG (atI b.m who)=true∧b.holder=-1 then 0 else b.held)∧(if locksG (atI b.m who)=true∧b.holder=-1 then 0 else b.held)≤b.conf.lockMost))
  have hlk:∀i,masterG b.conf i=true→locksG (atI (b.m.set who.toNat (issueG (atI b.m who))) i)=locksG (atI b.m i):=fun i hi=>locks_same (hsm i hi).1 (hsm i hi).2.2.2.2
  have hlm:=(conf_lims h.conf).2.2.1
  have hold:∀i,masterG b.conf i=true→i≠who→(atI (b.m.set who.toNat (issueG (atI b.m who))) i).beat > 0→locksG (atI b.m i)=true→False:=by
   intro i hi e hx hk
   rw[hat i hi,if_neg e] at hx
   have:=hh.1 i hi hx hk
   have:=mas_bnd hi
   omega
  by_cases e:locksG (atI b.m who)=true∧b.holder=-1
  ·simp only[if_pos e]
   refine⟨fun i hi hx hk=>?_,?_⟩
   ·by_cases e2:i=who
    ·exact e2.symm
    ·rw[hlk i hi] at hk
     exact (hold i hi e2 hx hk).elim
   ·rw[if_neg (by omega)]
    exact⟨hw,by rw[hlk _ hw];exact e.1,w2,by omega,by omega⟩
  ·simp only[if_neg e]
   refine⟨fun i hi hx hk=>?_,?_⟩
   ·rw[hlk i hi] at hk
    by_cases e2:i=who
    ·subst e2
     rcases w3 with w3|w3
     ·exact absurd ⟨hk,w3⟩ e
     ·exact w3
    ·exact (hold i hi e2 hx hk).elim
   ·have h2:=hh.2
    split
    ·rename_i e2;rw[if_pos e2] at h2;exact h2
    ·rename_i e2
     rw[if_neg e2] at h2
     exact⟨h2.1,by rw[hlk _ h2.1];exact h2.2.1,h2.2.2⟩
theorem grant_ok {n:Int} {b:GBus} (h:BusI n b) (ha:b.addr=GBeat.z0) (hsec:b.data_.second=false):BusI n (grantG b).2:=by
 have hp:=picked_ok h
 unfold grantG
 split
 ·exact hp.ok
 ·rename_i hx
  rcases hp.who with h1|h1
  ·exact absurd (show (pickG b).1 < 0 by rw[h1];decide) hx
  ·refine give_ok hp.ok (by rw[hp.addr];exact ha) (by rw[hp.data];exact hsec) (by rw[hp.conf];exact h1.1) ?_ h1.2.2
   have:=h1.2.1
   unfold wantG at this ⊢
   rw[hp.m,hp.splits,hp.holder];exact this
theorem grant_data {n:Int} {b:GBus} (h:BusI n b):(grantG b).2.now=b.now∧(grantG b).2.conf=b.conf∧(grantG b).2.log=b.log∧(grantG b).2.model=b.model∧(grantG b).2.picks=b.picks∧(grantG b).2.data_=b.data_:=by
 have hp:=picked_ok h
 unfold grantG
 split
 ·exact⟨hp.now,hp.conf,hp.log,hp.model,hp.picks,hp.data⟩
 ·exact⟨hp.now,hp.conf,hp.log,hp.model,hp.picks,hp.data⟩
theorem ready_ok {n:Int} {b:GBus} (h:BusI n b) (s:GScript) (hd:b.data_=GBeat.z0):BusI n (readyG b s).2∧(readyG b s).2.now=b.now∧b.picks≤(readyG b s).2.picks∧(readyG b s).2.picks≤b.picks+1∧(readyG b s).2.conf=b.conf∧(readyG b s).2.log=b.log∧(readyG b s).2.model=b.model:=by
 have h1:=break_ok h
 have e1:=break_data b
 have h2:=begin_ok h1 s (by rw[e1.1];exact hd)
 have e2:=begin_data (breakG b) s
 have hsec:(beginG (breakG b) s).data_.second=false:=by
  unfold beginG
  split
  ·rename_i hl
   have hA:=h1.addr
   unfold addrP at hA
   rw[if_pos hl] at hA
   exact hA.2.2.2
  ·rw[e1.1,hd]
 have h3:=grant_ok h2.1 h2.2 hsec
 have e3:=grant_data h2.1
 unfold readyG
 exact⟨h3,by rw[e3.1,e2.1,e1.2.2.2.1],by rw[e3.2.2.2.2.1,←e1.2.2.1];exact e2.2.2.2.2.2.2.2.1,by rw[e3.2.2.2.2.1,←e1.2.2.1];exact e2.2.2.2.2.2.2.2.2,by rw[e3.2.1,e2.2.1,e1.2.2.2.2.1],by rw[e3.2.2.1,e2.2.2.1,e1.2.2.2.2.2.1],by rw[e3.2.2.2.1,e2.2.2.2.1,e1.2.2.2.2.2.2]⟩
theorem tick_data (b:GBus):(tickAll b).now=b.now∧(tickAll b).conf=b.conf∧(tickAll b).picks=b.picks∧(tickAll b).log=b.log∧(tickAll b).model=b.model∧(tickAll b).m=b.m∧(tickAll b).addr=b.addr∧(tickAll b).data_=b.data_∧(tickAll b).holder=b.holder:=⟨rfl,rfl,rfl,rfl,rfl,rfl,rfl,rfl,rfl⟩
theorem held_data (b:GBus):(heldOne b).now=b.now∧(heldOne b).conf=b.conf∧(heldOne b).picks=b.picks∧(heldOne b).log=b.log∧(heldOne b).model=b.model∧(heldOne b).m=b.m∧(heldOne b).addr=b.addr∧(heldOne b).data_=b.data_∧(heldOne b).holder=b.holder:=by
 unfold heldOne;split<;>exact⟨rfl,rfl,rfl,rfl,rfl,rfl,rfl,rfl,rfl⟩
theorem open_data (b:GBus) (s:GScript):(openG b s).now=b.now∧(openG b s).conf=b.conf∧(openG b s).picks=b.picks∧(openG b s).log=b.log∧(openG b s).model=b.model∧(openG b s).addr=b.addr∧(openG b s).data_=b.data_∧(openG b s).holder=b.holder:=by
 have h1:=held_data (tickAll (postAll b (postsG s b.now)))
 have h2:=tick_data (postAll b (postsG s b.now))
 have h3:=postAll_conf b (postsG s b.now)
 unfold openG
 refine⟨?_,?_,?_,?_,?_,?_,?_,?_⟩
 ·rw[h1.1,h2.1,h3.2.1]
 ·rw[h1.2.1,h2.2.1,h3.1]
 ·rw[h1.2.2.1,h2.2.2.1,h3.2.2.1]
 ·rw[h1.2.2.2.1,h2.2.2.2.1,h3.2.2.2.1]
 ·rw[h1.2.2.2.2.1,h2.2.2.2.2.1,h3.2.2.2.2.1]
 ·rw[h1.2.2.2.2.2.2.1,h2.2.2.2.2.2.2.1,h3.2.2.2.2.2.2.2.1]
 ·rw[h1.2.2.2.2.2.2.2.1,h2.2.2.2.2.2.2.2.1,h3.2.2.2.2.2.2.2.2.1]
 ·rw[h1.2.2.2.2.2.2.2.2,h2.2.2.2.2.2.2.2.2,h3.2.2.2.2.2.1]
theorem open_ok {b:GBus} (h:BusP b) (s:GScript):BusI b.now (openG b s):=heldOne_ok (tickAll_ok (postAll_ok h.i _))
theorem revoke_now (b:GBus) (x:GBeat):(revokeG b x).now=b.now∧(revokeG b x).picks=b.picks∧(revokeG b x).conf=b.conf∧(revokeG b x).log=b.log∧(revokeG b x).model=b.model:=by
 unfold revokeG
 split
 ·exact⟨rfl,rfl,rfl,rfl,rfl⟩
 ·split<;>exact⟨rfl,rfl,rfl,rfl,rfl⟩
theorem finish_now (b:GBus) (s:GScript):(finishG b s).1.now=b.now∧(finishG b s).1.picks=b.picks∧(finishG b s).1.conf=b.conf:=by
 unfold finishG
 repeat' split
 all_goals first
  | exact⟨rfl,rfl,rfl⟩
  | exact⟨(revoke_now _ _).1,(revoke_now _ _).2.1,(revoke_now _ _).2.2.1⟩
theorem step_ok {b:GBus} (h:BusP b) (s:GScript) (hn:b.now < 4000):BusP (stepG b s).1∧(stepG b s).1.now=b.now+1∧(stepG b s).1.conf=b.conf:=by
 have h1:=open_ok h s
 have e1:=open_data b s
 have hI:BusI (openG b s).now (openG b s):=by rw[e1.1];exact h1
 have h2:=finish_ok s (by rw[e1.1];exact h.now.1) hI
 have e2:=finish_now (openG b s) s
 have hp:=h.picks
 have hnow:=h.now
 unfold stepG
 rw[e1.1] at h2
 by_cases hr:(finishG (openG b s) s).2.1=true
 ·rw[if_pos hr]
  have h3:=ready_ok h2.1 s (h2.2 hr)
  refine⟨?_,rfl,by show (readyG _ s).2.conf=_;rw[h3.2.2.2.2.1,e2.2.2,e1.2.1]⟩
  have h4:=h3.1
  have e3:(finishG (openG b s) s).1.picks=b.picks:=by rw[e2.2.1,e1.2.2.1]
  have h5:=h3.2.2.1
  have h6:=h3.2.2.2.1
  generalize (readyG (finishG (openG b s) s).1 s).2=r at h4 h5 h6 ⊢
  exact⟨h4.conf,⟨by show 0≤b.now+1;omega,by show b.now+1≤4000;omega⟩,h4.ml,h4.bl,h4.sl,fun i hi=>⟨(h4.mst i hi).right,(h4.mst i hi).tries,(h4.mst i hi).bucket,(h4.mst i hi).split⟩,h4.arb,h4.last,h4.model,⟨by show 0≤r.picks;omega,by show r.picks≤b.now+1;omega⟩,h4.alive,h4.dlive,h4.fly,h4.addr,h4.data,h4.held,h4.log⟩
 ·rw[if_neg hr]
  refine⟨?_,rfl,by show (finishG _ s).1.conf=_;rw[e2.2.2,e1.2.1]⟩
  have h4:=h2.1
  have e3:(finishG (openG b s) s).1.picks=b.picks:=by rw[e2.2.1,e1.2.2.1]
  generalize (finishG (openG b s) s).1=r at h4 e3 ⊢
  exact⟨h4.conf,⟨by show 0≤b.now+1;omega,by show b.now+1≤4000;omega⟩,h4.ml,h4.bl,h4.sl,fun i hi=>⟨(h4.mst i hi).right,(h4.mst i hi).tries,(h4.mst i hi).bucket,(h4.mst i hi).split⟩,h4.arb,h4.last,h4.model,⟨by show 0≤r.picks;omega,by show r.picks≤b.now+1;omega⟩,h4.alive,h4.dlive,h4.fly,h4.addr,h4.data,h4.held,h4.log⟩
end Go.Proofs.YtciimjnpdmmfnaaGreat.Ev
namespace Go.Proofs.YtciimjnpdmmfnaaGreat.Ev
open Go Go.Proofs
set_option linter.unusedVariables false
set_option linter.unusedSimpArgs false
structure GScript.sm (s:GScript):Prop where
 posts:s.posts.length < 1048577
 reqs:∀p∈s.posts,p.req.sm
 waits:s.waits.length < 1048577
 says:s.says.length < 1048577
 wmin:∀w∈s.waits,-9223372036854775808≤w∧w < 9223372036854775808
theorem loop_go {σ ρ:Type} {n:Nat} (hn:n < 4611686018427387904) (st:Nat→σ) {B:(σ→Int→ρ)→σ→Int→ρ} {L:Nat→σ→Int→ρ} (hL:∀m s i,L (m+1) s i=B (L m) s i)
  (hs:∀k,k < n→∀κ,B κ (st k) (k:Int)=κ (st (k+1)) (addW (k:Int) 1)) {r:ρ} (hf:∀κ,B κ (st n) (n:Int)=r):L FU (st 0) 0=r:=by
 have key:∀(m k:Nat),k≤n→n - k < m→L m (st k) (k:Int)=r:=by
  intro m
  induction m with
  | zero=>intro k _ h;omega
  | succ m ih=>
   intro k hk hm
   rw[hL]
   by_cases hc:k < n
   ·rw[hs k hc,addW_nat (by omega)]
    exact ih (k+1) (by omega) (by omega)
   ·have:k=n:=by omega
    subst this
    exact hf _
 have:=key FU 0 (Nat.zero_le _) (by have:=FU_big;omega)
 simpa using this
theorem loop_go1 {ρ:Type} {n:Nat} (hn:n < 4611686018427387904) {B:(Int→ρ)→Int→ρ} {L:Nat→Int→ρ} (hL:∀m i,L (m+1) i=B (L m) i)
  (hs:∀k,k < n→∀κ,B κ (k:Int)=κ (addW (k:Int) 1)) {r:ρ} (hf:∀κ,B κ (n:Int)=r):L FU 0=r:=
 loop_go (σ:=Unit) hn (fun _=>()) (B:=fun κ _ i=>B (κ ()) i) (L:=fun m _ i=>L m i) (fun m _ i=>hL m i) (fun k hk κ=>hs k hk _) fun κ=>hf _
theorem i_element_eq (l:List Int) (k:Int) (hl:l.length < 1048577):p_i_element l k=some (elemG l k):=by
 unfold p_i_element p_i_element__J1 elemG
 by_cases h:l=[]
 ·simp[h]
 ·have h1:0 < l.length:=List.length_pos_iff.2 h
  rw[if_neg (by simpa using h)]
  by_cases h2:k < 0
  ·simp[h2]
  ·have h3:0≤k % (l.length:Int):=Int.emod_nonneg _ (by omega)
   have h4:k % (l.length:Int) < (l.length:Int):=Int.emod_lt_of_pos _ (by omega)
   rw[nzI_of (by omega),Option.bind_some,remW_of (by omega),idx_at h3 h4]
   simp[h,h2]
theorem elem_bnd {l:List Int} {k:Int} (h:∀w∈l,-9223372036854775808≤w∧w < 9223372036854775808):-9223372036854775808≤elemG l k∧elemG l k < 9223372036854775808:=by
 unfold elemG
 split
 ·omega
 ·rename_i hx
  have h1:l≠[]:=fun e=>hx (.inl e)
  have h2:0 < l.length:=List.length_pos_iff.2 h1
  exact h _ (at_mem (Int.emod_nonneg _ (by omega)) (Int.emod_lt_of_pos _ (by omega)))
theorem i_WaitAt_eq (c:GConf) {s:GScript} (k:Int) (hs:s.sm):p_i_WaitAt c s k=some (waitG c s k):=by
 unfold p_i_WaitAt waitG
 rw[i_element_eq _ _ hs.waits,Option.bind_some,maxI_eq,minI_eq]
theorem i_SaidAt_eq {s:GScript} (k:Int) (hs:s.sm):p_i_SaidAt s k=some (saidG s k):=by
 unfold p_i_SaidAt saidG
 rw[i_element_eq _ _ hs.says,Option.bind_some]
 by_cases h1:elemG s.says k=2
 ·simp[h1]
 ·by_cases h2:elemG s.says k=3<;>simp[h1,h2]
theorem i_SplitAt_eq (c:GConf) {s:GScript} (k:Int) (hs:s.sm):p_i_SplitAt c s k=some (splitG c s k):=by
 have h:=elem_bnd (k:=k) hs.wmin
 unfold p_i_SplitAt splitG
 rw[i_element_eq _ _ hs.waits,Option.bind_some,maxI_eq,minI_eq,maxI_eq,minI_eq,addW_of (by omega) (by omega)]
theorem filter_take {α:Type} (p:α→Bool) (xs:List α) (k:Nat) (hk:k < xs.length):(xs.take (k+1)).filter p=(xs.take k).filter p++(if p xs[k] then [xs[k]] else []):=by
 rw[List.take_succ_eq_append_getElem hk,List.filter_append]
 cases hq:p xs[k]<;>simp[hq]
theorem i_PostsAt_eq (s:GScript) (t:Int) (hs:s.sm):p_i_PostsAt s t=some (postsG s t):=by
 unfold p_i_PostsAt postsG
 have hp:=hs.posts
 refine loop_go (σ:=List GPost) (n:=s.posts.length) (by omega) (fun k=>(s.posts.take k).filter fun p=>decide (p.at_=t)) (B:=p_i_PostsAt__L1b s t) (L:=p_i_PostsAt__L1 s t) (fun m s i=>rfl) (fun k hk κ=>?_) fun κ=>?_
 ·unfold p_i_PostsAt__L1b
  have hlen:((s.posts.take k).filter fun p=>decide (p.at_=t)).length≤k:=Nat.le_trans (List.length_filter_le ..) (by rw[List.length_take];omega)
  rw[if_pos (by simpa using hk),idx_get hk,Option.bind_some,filter_take _ _ _ hk,ownReq_eq _ (hs.reqs _ (List.getElem_mem hk)),Option.bind_some]
  by_cases e:s.posts[k].at_=t
  ·rw[if_pos (by simpa using e),appI_of (by simp only[List.length_cons,List.length_nil];omega) (by simp only[List.length_cons,List.length_nil];omega),Option.bind_some,if_pos (decide_eq_true e)]
  ·rw[if_neg (by simpa using e),if_neg (by simpa using e),List.append_nil]
 ·unfold p_i_PostsAt__L1b
  rw[if_neg (by simp),List.take_length]
theorem posts_sm {s:GScript} (hs:s.sm) (t:Int):(postsG s t).length < 1048577∧∀p∈postsG s t,p.req.sm:=by
 have hp:=hs.posts
 refine⟨Nat.lt_of_le_of_lt (List.length_filter_le ..) hp,fun p hx=>hs.reqs p ?_⟩
 unfold postsG at hx
 exact (List.mem_filter.1 hx).1
theorem postAll_take (b:GBus) (ps:List GPost) (k:Nat) (hk:k < ps.length):postAll b (ps.take (k+1))=postOne (postAll b (ps.take k)) ps[k]:=by
 unfold postAll
 rw[List.take_succ_eq_append_getElem hk,List.foldl_append]
 rfl
theorem conf_copy (c:GConf) (h:c.masters.length < 1048577):p_i_ownConf c=some c∧p_s_l6Copy c=some c:=by
 unfold p_i_ownConf p_slices_Clone_MConf_MConf p_s_l6Copy
 rw[appI_of (by simp;omega) (by simp;omega)]
 exact⟨rfl,rfl⟩
theorem app_nilD (xs:List GDone) (h:xs.length < 1048577):appI 56 [] xs=some xs:=by
 rw[appI_of (by simp;omega) (by simp;omega)];rfl
theorem app_nilB (xs:List GBucket) (h:xs.length < 1048577):appI 16 [] xs=some xs:=by
 rw[appI_of (by simp;omega) (by simp;omega)];rfl
theorem i_ownBus_eq (b:GBus) (hs:b.sm):p_i_ownBus b=some b:=by
 unfold p_i_ownBus
 rw[(conf_copy b.conf hs.conf).1,Option.bind_some]
 have:=hs.ml
 refine (loop_go (σ:=GBus×List GMst) (n:=b.m.length) (by omega) (fun k=>(b,b.m.take k)) (B:=fun κ s i=>p_i_ownBus__L1b b (fun x y i=>κ (x,y) i) s.1 s.2 i) (L:=fun m s i=>p_i_ownBus__L1 b m s.1 s.2 i) (fun m s i=>rfl) (fun k hk κ=>?_) fun κ=>?_:p_i_ownBus__L1 b FU b [] 0=some b)
 ·unfold p_i_ownBus__L1b
  have hlen:(b.m.take k).length=k:=by rw[List.length_take];omega
  simp only
  rw[if_pos (by simpa using hk),idx_get hk,Option.bind_some,i_ownMst_eq _ (hs.mst _ (List.getElem_mem hk)),Option.bind_some,appI_of (by simp only[List.length_cons,List.length_nil];omega) (by simp only[List.length_cons,List.length_nil];omega),Option.bind_some,←List.take_succ_eq_append_getElem hk]
 ·unfold p_i_ownBus__L1b p_slices_Clone_Bucket_Bucket p_slices_Clone_Done_Done
  simp only
  rw[if_neg (by simp),app_nilB _ hs.bl,Option.bind_some,clone_eq _ hs.sl,Option.bind_some,i_ownModel_eq _ hs.model,Option.bind_some,app_nilD _ hs.log,Option.bind_some,List.take_length]
theorem log_len {c:GConf} {n:Int} (hn:n≤4001) {l:List GDone} (h:(∀d∈l,doneP c n d)∧l.Pairwise fun x y=>x.cycle < y.cycle):l.length≤4001:=by
 have key:∀(l:List GDone) (a:Int),(∀d∈l,a≤d.cycle∧d.cycle < n)→(l.Pairwise fun x y=>x.cycle < y.cycle)→l≠[]→(l.length:Int)≤n - a:=by
  intro l
  induction l with
  | nil=>intro a _ _ h;exact absurd rfl h
  | cons x xs ih=>
   intro a h1 h2 _
   have h3:=h1 x (List.mem_cons_self ..)
   by_cases hx:xs=[]
   ·subst hx;simp;omega
   ·have h4:=List.pairwise_cons.1 h2
    have:=ih (x.cycle+1) (fun d hd=>⟨by have:=h4.1 d hd;omega,(h1 d (List.mem_cons_of_mem _ hd)).2⟩) h4.2 hx
    simp only[List.length_cons]
    omega
 by_cases hx:l=[]
 ·subst hx;simp
 ·have:=key l 0 (fun d hd=>(h.1 d hd).1) h.2 hx
  omega
theorem BusI.sm {n:Int} {b:GBus} (h:BusI n b) (hn:n≤4001):b.sm:=by
 have h1:=conf_lt h.conf
 have h2:=h.ml
 have h3:=h.bl
 have h4:=h.sl
 have h5:=log_len hn h.log
 refine⟨h1,by omega,fun x hx=>?_,by omega,by omega,h.model.sm,by omega⟩
 obtain⟨k,hk,rfl⟩:=List.getElem_of_mem hx
 have:=(h.mst (k:Int) (mas (by omega))).right.sm
 rwa [at_nat hk] at this
theorem BusP.sm {b:GBus} (h:BusP b):b.sm:=h.i.sm (by have:=h.now;omega)
end Go.Proofs.YtciimjnpdmmfnaaGreat.Ev
namespace Go.Proofs.YtciimjnpdmmfnaaGreat.Ev
open Go Go.Proofs
set_option linter.unusedVariables false
set_option linter.unusedSimpArgs false
section
variable {n:Int} {b:GBus} {s:GScript}
theorem i_revoke_eq (x:GBeat) (hc:confG b.conf=true) (hw:masterG b.conf x.who=true) (hml:b.m.length=b.conf.masters.length) (hbl:b.buckets.length=b.conf.masters.length) (hr:RightP (atI b.m x.who)) (har:wrrG b.arb b.conf=true):p_i_Bus_revoke b x=some (revokeG b x):=by
 obtain⟨ok,hbk⟩:=i_MstBack_eq hr
 unfold p_i_Bus_revoke revokeG
 rw[idx_m hml hw,Option.bind_some,hbk,Option.bind_some,setO_of,Option.bind_some,idx_b hbl hw,Option.bind_some,idx_c hw,Option.bind_some,i_BucketBack_eq _ (conf_at hc hw),Option.bind_some,setO_of,Option.bind_some,i_WrrBack_eq _ _ _ har,Option.bind_some]
 by_cases h1:x.by_=1
 ·simp[h1]
 ·by_cases h2:x.by_=2<;>simp[h1,h2]
theorem i_number_eq {m:GMst} {k:Int} (h:RightP m) (hq:m.queue≠[]) (h0:0≤k) (h1:k < mbeatsG m):p_i_Mst_number m k=some (numberG m k):=by
 have hl:0 < m.queue.length:=List.length_pos_iff.2 hq
 unfold p_i_Mst_number numberG
 rw[idx_at (xs:=m.queue) (by omega) (by omega),Option.bind_some]
 by_cases hw:(atI m.queue 0).write=true
 ·have:=number_ok h h0 h1 hw
  rw[if_pos hw,if_pos hw,idx_at this.1 this.2];rfl
 ·rw[if_neg hw,if_neg hw]
theorem s_value_eq {m:GMst} {k:Int} (h:RightP m) (hq:m.queue≠[]) (h0:0≤k) (h1:k < mbeatsG m):p_s_l14Value (atI m.queue 0) k=some (numberG m k):=by
 unfold p_s_l14Value numberG
 by_cases hw:(atI m.queue 0).write=true
 ·have:=number_ok h h0 h1 hw
  rw[if_neg (by simp[hw]),if_pos hw,idx_at this.1 this.2];rfl
 ·rw[if_pos (by simpa using hw),if_neg hw]
theorem beat_ne {m:GMst} {k:Int} (h0:0≤k) (h1:k < mbeatsG m):m.queue≠[]:=by
 intro hq
 unfold mbeatsG at h1
 rw[if_pos hq] at h1
 omega
theorem idx_first {m:GMst} (hq:m.queue≠[]):idx m.queue 0=some (atI m.queue 0):=by
 have hl:0 < m.queue.length:=List.length_pos_iff.2 hq
 exact idx_at (by omega) (by omega)
theorem i_do_eq (x:GBeat) (hw:masterG b.conf x.who=true) (hml:b.m.length=b.conf.masters.length) (hr:RightP (atI b.m x.who)) (hm:ModelP b.model) (h0:0≤x.beat) (h1:x.beat < mbeatsG (atI b.m x.who)):p_i_Bus_do b x=some (doG b x):=by
 have hq:=beat_ne h0 h1
 unfold p_i_Bus_do doG
 rw[idx_m hml hw,Option.bind_some,idx_first hq,Option.bind_some,i_MstAddr_eq _ hr,Option.bind_some,i_number_eq hr hq h0 h1,Option.bind_some,i_ModelDo_eq _ _ _ _ hm]
 rfl
theorem end_shorter {m:GMst} (h:RightP m) (hp:m.beat - m.done≥1):((endG m).queue.length:Int) < (m.queue.length:Int)↔m.done+1=mbeatsG m:=by
 have hq:=right_ne h (by omega)
 have hl:0 < m.queue.length:=List.length_pos_iff.2 hq
 have hf:=end_facts h hp
 by_cases e:m.done+1=mbeatsG m
 ·rw[(hf.1 e).2.1];simp[e];omega
 ·rw[(hf.2 e).1];simp[e]
theorem i_complete_eq (x:GBeat) (h1:masterG b.conf x.who=true) (hml:b.m.length=b.conf.masters.length) (hr:RightP (atI b.m x.who)) (hm:ModelP b.model) (hp:(atI b.m x.who).beat - (atI b.m x.who).done≥1) (h2:0≤x.beat) (h3:x.beat < mbeatsG (atI b.m x.who)) (hl:b.log.length < 1048577):p_i_Bus_complete b x=some (completeG b x):=by
 have hq:=beat_ne h2 h3
 obtain⟨ok,he⟩:=i_MstEnd_eq hr
 unfold p_i_Bus_complete
 rw[idx_m hml h1,Option.bind_some,idx_first hq,Option.bind_some,i_MstAddr_eq _ hr,Option.bind_some,i_do_eq x h1 hml hr hm h2 h3,Option.bind_some]
 have hJ:∀(mo:GModel) (d:GDone),p_i_Bus_complete__J1 b x {b with model:=mo} (atI b.m x.who) d=some {b with model:=mo,log:=b.log++[d],m:=b.m.set x.who.toNat (endG (atI b.m x.who)),holder:=if b.holder=x.who∧(atI b.m x.who).done+1=mbeatsG (atI b.m x.who) then -1 else b.holder,held:=if b.holder=x.who∧(atI b.m x.who).done+1=mbeatsG (atI b.m x.who) then 0 else b.held}:=by
  intro mo d
  unfold p_i_Bus_complete__J1 p_i_Bus_complete__J2 p_i_Bus_complete__J3 p_i_Bus_free
  simp only
  rw[appI_of (by simp only[List.length_cons,List.length_nil];omega) (by simp only[List.length_cons,List.length_nil];omega),Option.bind_some,he,Option.bind_some]
  simp only[Option.bind_some,idx_m hml h1,setO_of]
  have hi:idx b.m x.who=some (atI b.m x.who):=idx_m hml h1
  by_cases e1:b.holder=x.who
  ·by_cases e2:(atI b.m x.who).done+1=mbeatsG (atI b.m x.who)
   ·have e3:=(end_shorter hr hp).2 e2
    simp only[decide_eq_true e1,decide_eq_true e3,if_true,if_pos (And.intro e1 e2)]
   ·have e3:=mt (end_shorter hr hp).1 e2
    simp only[decide_eq_true e1,decide_eq_false e3,if_true,if_false,Bool.false_eq_true,if_neg (fun hx:b.holder=x.who∧_=>e2 hx.2)]
  ·simp only[decide_eq_false e1,if_false,Bool.false_eq_true,if_neg (fun hx:b.holder=x.who∧_=>e1 hx.1)]
 unfold completeG doneG
 by_cases e:x.resp=0
 ·rw[if_pos (decide_eq_true e),hJ]
  simp only[if_pos e]
 ·rw[if_neg (by simpa using e)]
  have:=hJ b.model (GDone.mk b.now x.who (atI (atI b.m x.who).queue 0).write (maddrG (atI b.m x.who) x.beat) (atI (atI b.m x.who).queue 0).size 0 x.resp)
  refine Eq.trans (b:=_) ?_ (this.trans ?_)
  ·rfl
  ·simp only[if_neg e]
theorem i_finish_eq (w:GWave) (h:BusI b.now b) (hs:s.sm) (hn:b.now≤4000):p_i_Bus_finish b s w=some ((finishG b s).2.1,(finishG b s).1,if b.data_.live=true∧¬b.data_.left > 0 then {w with resp:=b.data_.resp} else w):=by
 unfold p_i_Bus_finish finishG
 by_cases hd:b.data_.live=true
 ·have hdf:¬b.data_.live=false:=by simp[hd]
  rw[if_neg (by simp[hd]),if_neg hdf]
  have hdat:=h.data
  unfold dataP at hdat
  rw[if_pos hd] at hdat
  have hw:=live_whoD h hd
  have hmw:=(h.mst _ hw).right
  have hp:=fly_posD h hd
  have hbt:=data_beat h hd
  have hlim:=(conf_lims h.conf).2.1
  by_cases hl:b.data_.left > 0
  ·rw[if_pos (decide_eq_true hl),if_pos hl,if_neg (fun hx:_∧¬b.data_.left > 0=>hx.2 hl),subW_of (by omega) (by omega)]
  ·rw[if_neg (by simpa using hl),if_neg hl,if_pos (And.intro hd hl)]
   have hJf:¬(b.data_.resp≠0∧b.data_.second=false)→p_i_Bus_finish__J1 b s w false=some ((if b.data_.resp=2 then (revokeG {b with data_:=GBeat.z0,m:=b.m.set b.data_.who.toNat {atI b.m b.data_.who with tries:=(atI b.m b.data_.who).tries+1}} b.data_,true,b.data_.resp)
 else if b.data_.resp=3 then (revokeG {b with data_:=GBeat.z0,m:=b.m.set b.data_.who.toNat {atI b.m b.data_.who with parted:=true},splits:=b.splits.set b.data_.who.toNat (splitG b.conf s b.picks)} b.data_,true,b.data_.resp)
 else (completeG {b with data_:=GBeat.z0} b.data_,true,b.data_.resp):GBus×Bool×Int).2.1,(if b.data_.resp=2 then (revokeG {b with data_:=GBeat.z0,m:=b.m.set b.data_.who.toNat {atI b.m b.data_.who with tries:=(atI b.m b.data_.who).tries+1}} b.data_,true,b.data_.resp)
 else if b.data_.resp=3 then (revokeG {b with data_:=GBeat.z0,m:=b.m.set b.data_.who.toNat {atI b.m b.data_.who with parted:=true},splits:=b.splits.set b.data_.who.toNat (splitG b.conf s b.picks)} b.data_,true,b.data_.resp)
 else (completeG {b with data_:=GBeat.z0} b.data_,true,b.data_.resp):GBus×Bool×Int).1,{w with resp:=b.data_.resp}):=by
    intro hns
    have hmb:=mas_bnd hw
    have hml:=h.ml
    have hrset:∀x:GMst,RightP x→RightP (atI (b.m.set b.data_.who.toNat x) b.data_.who):=fun x hx=>by rw[at_set_self x hmb.1 (by omega)];exact hx
    have hlen:∀x:GMst,(b.m.set b.data_.who.toNat x).length=b.conf.masters.length:=fun x=>by rw[List.length_set];exact hml
    unfold p_i_Bus_finish__J1
    rw[if_neg (by simp)]
    by_cases h2:b.data_.resp=2
    ·have ht:=hdat.2.1 h2
     have hmx:=(conf_lims h.conf).1
     have htr:=hmw.tries
     have hr2:RightP {atI b.m b.data_.who with tries:=(atI b.m b.data_.who).tries+1}:=⟨hmw.len,by show 0≤(atI b.m b.data_.who).tries+1;omega,hmw.reqs,fun hq=>absurd (show (atI b.m b.data_.who).queue=[] from hq) (beat_ne hbt.1 hbt.2),hmw.some⟩
     simp only[decide_eq_true h2,if_true,if_pos h2,idx_m hml hw,Option.bind_some,setO_of,addW_of (a:=(atI b.m b.data_.who).tries) (b:=1) (by omega) (by omega)]
     rw[i_revoke_eq (b:={b with data_:=GBeat.z0,m:=b.m.set b.data_.who.toNat {atI b.m b.data_.who with tries:=(atI b.m b.data_.who).tries+1}}) b.data_ h.conf hw (hlen _) h.bl (hrset _ hr2) h.arb]
     rfl
    ·by_cases h3:b.data_.resp=3
     ·have hr3:RightP {atI b.m b.data_.who with parted:=true}:=⟨hmw.len,hmw.tries,hmw.reqs,fun hq=>absurd (show (atI b.m b.data_.who).queue=[] from hq) (beat_ne hbt.1 hbt.2),hmw.some⟩
      simp only[decide_eq_false h2,decide_eq_true h3,if_true,if_false,Bool.false_eq_true,if_neg h2,if_pos h3,idx_m hml hw,idx_s h.sl hw,Option.bind_some,setO_of,i_SplitAt_eq _ _ hs]
      rw[i_revoke_eq (b:={b with data_:=GBeat.z0,m:=b.m.set b.data_.who.toNat {atI b.m b.data_.who with parted:=true},splits:=b.splits.set b.data_.who.toNat (splitG b.conf s b.picks)}) b.data_ h.conf hw (hlen _) h.bl (hrset _ hr3) h.arb]
      rfl
     ·simp only[decide_eq_false h2,decide_eq_false h3,if_false,Bool.false_eq_true,if_neg h2,if_neg h3]
      have hlog:=log_len (by omega) h.log
      rw[i_complete_eq (b:={b with data_:=GBeat.z0}) b.data_ hw hml hmw h.model hp hbt.1 hbt.2 (by show b.log.length < _;omega)]
      rfl
   by_cases h2:b.data_.resp≠0
   ·rw[if_pos (decide_eq_true h2)]
    by_cases h3:b.data_.second=false
    ·rw[if_pos (And.intro h2 h3),h3]
     unfold p_i_Bus_finish__J1 p_i_Bus_finish__J2
     rw[if_pos (by rfl)]
     by_cases ha:b.addr.live=true
     ·rw[if_pos ha,if_pos ha]
      have hwa:=live_who h ha
      rw[i_revoke_eq (b:={b with data_:={b.data_ with second:=true}}) b.addr h.conf hwa h.ml h.bl (h.mst _ hwa).right h.arb]
      rfl
     ·rw[if_neg ha,if_neg ha]
    ·have h4:b.data_.second=true:=by simpa using h3
     rw[if_neg (fun hx:_∧b.data_.second=false=>h3 hx.2),h4,Bool.not_true,hJf (fun hx=>h3 hx.2)]
   ·rw[if_neg (by simpa using h2),if_neg (fun hx:b.data_.resp≠0∧_=>h2 hx.1),hJf (fun hx=>h2 hx.1)]
 ·rw[if_pos (by simpa using hd),if_pos (by simpa using hd),if_neg (fun hx:b.data_.live=true∧_=>hd hx.1)]
end
end Go.Proofs.YtciimjnpdmmfnaaGreat.Ev
namespace Go.Proofs.YtciimjnpdmmfnaaGreat.Ev
open Go Go.Proofs
set_option linter.unusedVariables false
set_option linter.unusedSimpArgs false
section
variable {n:Int} {b:GBus} {s:GScript}
theorem i_answer_eq (h:BusI n b) (hs:s.sm) (hl:b.addr.live=true):p_i_Bus_answer b s b.addr=some (answerG b s b.addr):=by
 have hw:=live_who h hl
 have hmw:=(h.mst _ hw).right
 have hbt:=addr_beat h hl
 have hwt:=wait_le h.conf s b.picks
 have hlm:=(conf_lims h.conf).2.1
 unfold p_i_Bus_answer
 rw[idx_m h.ml hw,Option.bind_some,i_MstAddr_eq _ hmw,Option.bind_some,i_SlaveOf_eq,Option.bind_some]
 have hJ1:p_i_Bus_answer__J1 b s b.addr (atI b.m b.addr.who) (slaveG (maddrG (atI b.m b.addr.who) b.addr.beat)) false=some (if saidG s b.picks=2∧slaveG (maddrG (atI b.m b.addr.who) b.addr.beat)≠3∧(atI b.m b.addr.who).tries < b.conf.maxRetry then 2
  else if saidG s b.picks=3∧slaveG (maddrG (atI b.m b.addr.who) b.addr.beat)=2∧(atI b.m b.addr.who).parted=false∧b.addr.who≠b.holder then 3 else (doG b b.addr).2.2,if slaveG (maddrG (atI b.m b.addr.who) b.addr.beat)=3 then waitG b.conf s b.picks+2 else waitG b.conf s b.picks):=by
  unfold p_i_Bus_answer__J1
  rw[if_neg (by simp),i_do_eq _ hw h.ml hmw h.model hbt.1 hbt.2,Option.bind_some,i_WaitAt_eq _ _ hs,Option.bind_some,addW_of (by omega) (by omega)]
  have hJ2:∀(r t:Int),p_i_Bus_answer__J2 b s b.addr (atI b.m b.addr.who) (slaveG (maddrG (atI b.m b.addr.who) b.addr.beat)) r t=some (if saidG s b.picks=2∧slaveG (maddrG (atI b.m b.addr.who) b.addr.beat)≠3∧(atI b.m b.addr.who).tries < b.conf.maxRetry then 2
  else if saidG s b.picks=3∧slaveG (maddrG (atI b.m b.addr.who) b.addr.beat)=2∧(atI b.m b.addr.who).parted=false∧b.addr.who≠b.holder then 3 else r,t):=by
   intro r t
   unfold p_i_Bus_answer__J2
   rw[i_SaidAt_eq _ hs,Option.bind_some]
   generalize slaveG (maddrG (atI b.m b.addr.who) b.addr.beat)=sl
   have hJ3:p_i_Bus_answer__J3 b s b.addr (atI b.m b.addr.who) sl r t (saidG s b.picks) false=some (if saidG s b.picks=3∧sl=2∧(atI b.m b.addr.who).parted=false∧b.addr.who≠b.holder then 3 else r,t):=by
    unfold p_i_Bus_answer__J3
    rw[if_neg (by simp)]
    by_cases e1:saidG s b.picks=3
    ·by_cases e2:sl=2
     ·by_cases e3:(atI b.m b.addr.who).parted=true
      ·simp[e1,e2,e3]
      ·by_cases e4:b.addr.who=b.holder<;>simp[e1,e2,e3,e4]
     ·simp[e1,e2]
    ·simp[e1]
   have hJ3t:p_i_Bus_answer__J3 b s b.addr (atI b.m b.addr.who) sl r t (saidG s b.picks) true=some (2,t):=by
    unfold p_i_Bus_answer__J3
    rw[if_pos rfl]
   by_cases e1:saidG s b.picks=2
   ·by_cases e2:sl=3
    ·rw[if_pos (decide_eq_true e1),if_neg (by simpa using e2),hJ3,if_neg (fun hx:_∧sl≠3∧_=>hx.2.1 e2)]
    ·by_cases e3:(atI b.m b.addr.who).tries < b.conf.maxRetry
     ·rw[if_pos (decide_eq_true e1),if_pos (by simpa using e2),decide_eq_true e3,hJ3t,if_pos ⟨e1,e2,e3⟩]
     ·rw[if_pos (decide_eq_true e1),if_pos (by simpa using e2),decide_eq_false e3,hJ3,if_neg (fun hx:_∧_∧_=>e3 hx.2.2)]
   ·rw[if_neg (by simpa using e1),hJ3,if_neg (fun hx:_∧_∧_=>e1 hx.1)]
  by_cases e:slaveG (maddrG (atI b.m b.addr.who) b.addr.beat)=3
  ·rw[if_pos (decide_eq_true e),hJ2,if_pos e]
  ·rw[if_neg (by simpa using e),hJ2,if_neg e]
 have hJ1t:p_i_Bus_answer__J1 b s b.addr (atI b.m b.addr.who) (slaveG (maddrG (atI b.m b.addr.who) b.addr.beat)) true=some (1,0):=by
  unfold p_i_Bus_answer__J1
  rw[if_pos rfl]
 unfold answerG
 by_cases e1:(atI b.m b.addr.who).broken=true
 ·rw[if_pos e1,hJ1t,if_pos (.inl e1)]
 ·by_cases e2:slaveG (maddrG (atI b.m b.addr.who) b.addr.beat)=0
  ·rw[if_neg e1,decide_eq_true e2,hJ1t,if_pos (.inr e2)]
  ·rw[if_neg e1,decide_eq_false e2,hJ1,if_neg (show ¬((atI b.m b.addr.who).broken=true∨slaveG (maddrG (atI b.m b.addr.who) b.addr.beat)=0) from fun hx=>hx.elim e1 e2)]
theorem wants_take (b:GBus) (k:Nat):((List.range (k+1)).map fun j:Nat=>wantG b (j:Int))=((List.range k).map fun j:Nat=>wantG b (j:Int))++[wantG b (k:Int)]:=by
 rw[List.range_succ,List.map_append];rfl
theorem i_pick_eq (h:BusI n b):p_i_Bus_pick b=some ((pickG b).1,(pickG b).2.1,(pickG b).2.2):=by
 have hlen:=conf_len h.conf
 have hml:=h.ml
 have hL2:p_i_Bus_pick__L2 b FU (wantsL b) ((wantsL b).length:Int) 0=some (match (List.range b.m.length).find? (tokenG b) with
  | some k=>((k:Int),1,{b with buckets:=b.buckets.set k (takeG (atI b.buckets (k:Int)) (atI b.conf.masters (k:Int))).1})
  | none=>if b.holder≠-1 then (-1,0,b) else ((wpickG b.arb b.conf (wantsL b)).2,2,{b with arb:=(wpickG b.arb b.conf (wantsL b)).1})):=by
  rw[wantsL_len]
  have key:∀(r m k:Nat),r < m→k+r=b.m.length→(∀j,j < k→tokenG b j=false)→p_i_Bus_pick__L2 b m (wantsL b) (b.m.length:Int) (k:Int)=some (match (List.range' k r).find? (tokenG b) with
  | some k=>((k:Int),1,{b with buckets:=b.buckets.set k (takeG (atI b.buckets (k:Int)) (atI b.conf.masters (k:Int))).1})
  | none=>if b.holder≠-1 then (-1,0,b) else ((wpickG b.arb b.conf (wantsL b)).2,2,{b with arb:=(wpickG b.arb b.conf (wantsL b)).1})):=by
   intro r
   induction r with
   | zero=>
    intro m k hm hk _
    obtain⟨m,rfl⟩:∃m',m=m'+1:=⟨m - 1,by omega⟩
    show p_i_Bus_pick__L2b b _ (wantsL b) (b.m.length:Int) (k:Int)=_
    unfold p_i_Bus_pick__L2b
    rw[if_neg (by simp;omega),i_WrrPick_eq _ _ _ h.arb (by rw[wantsL_len,hml]),Option.bind_some]
    by_cases e:b.holder=-1
    ·simp[e]
    ·simp[e]
   | succ r ih=>
    intro m k hm hk hj
    obtain⟨m,rfl⟩:∃m',m=m'+1:=⟨m - 1,by omega⟩
    show p_i_Bus_pick__L2b b _ (wantsL b) (b.m.length:Int) (k:Int)=_
    have hmk:=mas (c:=b.conf) (k:=k) (by omega)
    unfold p_i_Bus_pick__L2b
    have hix:idx (wantsL b) (k:Int)=some (wantG b (k:Int)):=by
     rw[idx_at (by omega) (by rw[wantsL_len];omega),wantsL_at h hmk]
    rw[if_pos (by simp;omega),hix,Option.bind_some,idx_b h.bl hmk,Option.bind_some,idx_c hmk,Option.bind_some,i_BucketTake_eq _ (conf_at h.conf hmk),Option.bind_some,setO_of,Option.bind_some,List.range'_succ,List.find?_cons]
    by_cases e1:wantG b (k:Int)=true
    ·by_cases e2:(takeG (atI b.buckets (k:Int)) (atI b.conf.masters (k:Int))).2=true
     ·have e3:tokenG b k=true:=by simp[tokenG,e1,e2]
      rw[e1,if_neg (by simp),if_pos e2,e3]
      rfl
     ·have e3:tokenG b k=false:=by simp[tokenG,e1,e2]
      rw[e1,if_neg (by simp),if_neg e2,e3,addW_nat (by omega)]
      exact ih m (k+1) (by omega) (by omega) (fun j hj2=>by
       by_cases hjk:j=k
       ·subst hjk;exact e3
       ·exact hj j (by omega))
    ·have e3:tokenG b k=false:=by simp[tokenG,e1]
     have e4:wantG b (k:Int)=false:=by simpa using e1
     rw[e4,if_pos (by simp),e3,addW_nat (by omega)]
     exact ih m (k+1) (by omega) (by omega) (fun j hj2=>by
       by_cases hjk:j=k
       ·subst hjk;exact e3
       ·exact hj j (by omega))
  have:=key b.m.length FU 0 (by have:=FU_big;omega) (by omega) (fun j hj=>by omega)
  rw[List.range_eq_range']
  simpa using this
 unfold p_i_Bus_pick
 refine loop_go (σ:=List Bool) (n:=b.m.length) (by omega) (fun k=>(List.range k).map fun j:Nat=>wantG b (j:Int)) (B:=p_i_Bus_pick__L1b b) (L:=p_i_Bus_pick__L1 b) (fun m s i=>rfl) (fun k hk κ=>?_) fun κ=>?_
 ·have hmk:=mas (c:=b.conf) (k:=k) (by omega)
  unfold p_i_Bus_pick__L1b
  have happ:∀x:Bool,appI 1 ((List.range k).map fun j:Nat=>wantG b (j:Int)) [x]=some (((List.range k).map fun j:Nat=>wantG b (j:Int))++[x]):=fun x=>appI_of (by simp;omega) (by simp;omega)
  rw[if_pos (by simpa using hk),idx_m hml hmk,Option.bind_some,i_MstWants_eq (h.mst _ hmk).right,Option.bind_some,idx_s h.sl hmk,Option.bind_some,wants_take]
  simp only[happ,Option.bind_some]
  unfold wantG
  by_cases e1:wantsG (atI b.m (k:Int))=true
  ·by_cases e2:atI b.splits (k:Int)=0
   ·by_cases e3:b.holder=-1
    ·simp[e1,e2,e3]
    ·simp[e1,e2,e3]
   ·simp[e1,e2]
  ·simp[e1]
 ·unfold p_i_Bus_pick__L1b p_i_Bus_pick__J3
  rw[if_neg (by simp)]
  show (if decide (b.holder≠-1)=true then (idx (wantsL b) b.holder).bind _ else _)=_
  unfold pickG
  by_cases e:b.holder=-1
  ·rw[if_neg (by simpa using e),if_neg (by simp),if_neg (fun hx:b.holder≠-1∧_=>hx.1 e)]
   exact hL2
  ·have hw:=(held_who h e).1
   have hmb:=mas_bnd hw
   rw[if_pos (by simpa using e),idx_at hmb.1 (by rw[wantsL_len];omega),Option.bind_some,wantsL_at h hw]
   by_cases e2:wantG b b.holder=true
   ·rw[if_pos e2,if_pos ⟨e,e2⟩]
   ·rw[if_neg e2,if_neg (fun hx:_∧wantG b b.holder=true=>e2 hx.2)]
    exact hL2
theorem i_give_eq (x0:GBus) (h:BusI n b) {who by_:Int} (hw:masterG b.conf who=true):((idx b.m who).bind fun a405=>
  if decide (a405.beat=0)=true then p_i_Bus_grant__J1 x0 {b with addr:=(GBeat.mk true who a405.beat true by_ 0 0 false)} a405 who
  else p_i_Bus_grant__J1 x0 {b with addr:=(GBeat.mk true who a405.beat (decide (b.last≠who)) by_ 0 0 false)} a405 who)=some (who,giveG b who by_):=by
 obtain⟨ok,hi⟩:=i_MstIssue_eq (h.mst _ hw).right
 rw[idx_m h.ml hw,Option.bind_some]
 have hJ:∀f:Bool,p_i_Bus_grant__J1 x0 {b with addr:=(GBeat.mk true who (atI b.m who).beat f by_ 0 0 false)} (atI b.m who) who=some (who,{b with addr:=GBeat.mk true who (atI b.m who).beat f by_ 0 0 false,holder:=if locksG (atI b.m who)=true∧b.holder=-1 then who else b.holder,held:=if locksG (atI b.m who)=true∧b.holder=-1 then 0 else b.held,m:=b.m.set who.toNat (issueG (atI b.m who)),last:=who}):=by
  intro f
  unfold p_i_Bus_grant__J1 p_i_Bus_grant__J2 p_i_Bus_grant__J3
  simp only[i_locks_eq,Option.bind_some,hi,idx_m h.ml hw,setO_of]
  by_cases e1:locksG (atI b.m who)=true
  ·by_cases e2:b.holder=-1
   ·simp only[e1,if_true,decide_eq_true e2,true_and,if_pos e2]
   ·simp only[e1,if_true,decide_eq_false e2,Bool.false_eq_true,if_false,true_and,if_neg e2]
  ·simp only[e1,if_false,Bool.false_eq_true,false_and]
 unfold giveG
 by_cases e:(atI b.m who).beat=0
 ·rw[if_pos (decide_eq_true e),hJ,decide_eq_true e];rfl
 ·rw[if_neg (by simpa using e),hJ,decide_eq_false e,Bool.false_or]
end
end Go.Proofs.YtciimjnpdmmfnaaGreat.Ev
namespace Go.Proofs.YtciimjnpdmmfnaaGreat.Ev
open Go Go.Proofs
set_option linter.unusedVariables false
set_option linter.unusedSimpArgs false
section
variable {n:Int} {b:GBus} {s:GScript}
theorem i_grant_eq (h:BusI n b):p_i_Bus_grant b=some ((grantG b).1,(grantG b).2):=by
 have hp:=picked_ok h
 unfold p_i_Bus_grant grantG
 rw[i_pick_eq h,Option.bind_some]
 by_cases e:(pickG b).1 < 0
 ·rw[if_pos (decide_eq_true e),if_pos e]
 ·rw[if_neg (by simpa using e),if_neg e]
  rcases hp.who with h1|h1
  ·exact absurd (show (pickG b).1 < 0 by rw[h1];decide) e
  ·exact i_give_eq b hp.ok (by rw[hp.conf];exact h1.1)
theorem mix_idx {α:Type} {X Y:List α} (hl:X.length=Y.length) {k:Nat} (hk:k < Y.length):idx (X.take k++Y.drop k) (k:Int)=some Y[k]∧(X.take k++Y.drop k).set k (X[k]'(by omega))=X.take (k+1)++Y.drop (k+1):=by
 have h1:(X.take k).length=k:=by rw[List.length_take];omega
 constructor
 ·rw[idx_get (by simp;omega)]
  simp[List.getElem_append_right,h1]
 ·rw[List.set_append_right _ _ (by omega),h1,Nat.sub_self,List.drop_eq_getElem_cons hk,List.set_cons_zero,List.take_succ_eq_append_getElem (show k < X.length by omega),List.append_assoc]
  rfl
def tickN (c:GBus) (k:Nat):GBus:={c with splits:=(tickAll c).splits.take k++c.splits.drop k,buckets:=(tickAll c).buckets.take k++c.buckets.drop k}
theorem tickN_0 (c:GBus):tickN c 0=c:=by simp[tickN]
theorem tickN_all (h:BusI n b):tickN b b.conf.masters.length=tickAll b:=by
 have h1:=h.sl
 have h2:=h.bl
 unfold tickN tickAll
 simp only
 rw[List.take_of_length_le (by simp;omega),List.drop_of_length_le (by omega),List.take_of_length_le (by simp;omega),List.drop_of_length_le (by omega),List.append_nil,List.append_nil]
theorem tick_parts (h:BusI n b) {k:Nat} (hk:k < b.conf.masters.length):idx (tickN b k).splits (k:Int)=some (atI b.splits (k:Int))∧(tickN b k).splits.set k (max (atI b.splits (k:Int) - 1) 0)=(tickN b (k+1)).splits∧
  idx (tickN b k).buckets (k:Int)=some (atI b.buckets (k:Int))∧(tickN b k).buckets.set k (tickG (atI b.buckets (k:Int)) (atI b.conf.masters (k:Int)))=(tickN b (k+1)).buckets:=by
 have h1:=h.sl
 have h2:=h.bl
 have m1:=mix_idx (X:=(tickAll b).splits) (Y:=b.splits) (by simp[tickAll]) (k:=k) (by omega)
 have m2:=mix_idx (X:=(tickAll b).buckets) (Y:=b.buckets) (by simp[tickAll];omega) (k:=k) (by omega)
 rw[at_nat (by omega),at_nat (by omega),at_nat hk]
 refine⟨m1.1,?_,m2.1,?_⟩
 ·have:=m1.2
  simp only[tickAll,List.getElem_map] at this
  exact this
 ·have:=m2.2
  simp only[tickAll,List.getElem_zipWith] at this
  exact this
end
end Go.Proofs.YtciimjnpdmmfnaaGreat.Ev
namespace Go.Proofs.YtciimjnpdmmfnaaGreat.Ev
open Go Go.Proofs
set_option linter.unusedVariables false
set_option linter.unusedSimpArgs false
section
variable {n:Int} {b:GBus} {s:GScript}
theorem ready_begin (h:BusI n b) (s:GScript) (hd:b.data_=GBeat.z0):BusI n (breakG b)∧BusI n (beginG (breakG b) s):=⟨break_ok h,(begin_ok (break_ok h) s (by rw[(break_data b).1];exact hd)).1⟩
theorem i_break_step (x0:GBus) (w:GWave) (h:BusI n b) (hs:s.sm) (hd:b.data_=GBeat.z0) (hp:0≤b.picks∧b.picks≤4000) (hn:0≤b.now∧b.now≤4000):(if decide (b.holder≠(-1))=true then p_i_Bus_step__J6 x0 s b w (decide (b.held=b.conf.lockMost)) else p_i_Bus_step__J6 x0 s b w false)=some ({w with got:=(readyG b s).1},{(readyG b s).2 with now:=b.now+1}):=by
 obtain⟨h1,h2⟩:=ready_begin h s hd
 have e1:=break_data b
 have hJ9:∀(c:GBus) (w:GWave),BusI n c→c.now=b.now→p_i_Bus_step__J9 x0 s c w=some ({w with got:=(grantG c).1},{(grantG c).2 with now:=b.now+1}):=by
  intro c w hc hcn
  unfold p_i_Bus_step__J9 p_i_Bus_step__J7
  rw[i_grant_eq hc,Option.bind_some]
  simp only
  rw[(grant_data hc).1,hcn,addW_of (by omega) (by omega)]
 have hJ8:∀w:GWave,p_i_Bus_step__J8 x0 s (breakG b) w=some ({w with got:=(readyG b s).1},{(readyG b s).2 with now:=b.now+1}):=by
  intro w
  unfold p_i_Bus_step__J8 readyG
  have e2:=begin_data (breakG b) s
  by_cases hl:(breakG b).addr.live=true
  ·rw[if_pos hl,i_answer_eq h1 hs hl,Option.bind_some,addW_of (by rw[e1.2.2.1];omega) (by rw[e1.2.2.1];omega)]
   have hb:beginG (breakG b) s={breakG b with addr:=GBeat.z0,data_:={(breakG b).addr with left:=(answerG (breakG b) s (breakG b).addr).2,resp:=(answerG (breakG b) s (breakG b).addr).1},picks:=(breakG b).picks+1}:=by
    unfold beginG;rw[if_pos hl]
   rw[←hb]
   exact hJ9 _ _ h2 (by rw[e2.1,e1.2.2.2.1])
  ·rw[if_neg hl]
   have hb:beginG (breakG b) s=breakG b:=by
    unfold beginG;rw[if_neg hl]
   rw[hb]
   exact hJ9 _ _ h1 e1.2.2.2.1
 have hJ6:p_i_Bus_step__J6 x0 s b w false=p_i_Bus_step__J8 x0 s b w:=by unfold p_i_Bus_step__J6;rw[if_neg (by simp)]
 by_cases e:b.holder=-1
 ·have hb:breakG b=b:=by unfold breakG;rw[if_neg (fun hx:b.holder≠-1∧b.held=b.conf.lockMost=>hx.1 e)]
  rw[if_neg (by simpa using e),hJ6]
  have:=hJ8 w
  rwa [hb] at this
 ·rw[if_pos (by simpa using e)]
  by_cases e2:b.held=b.conf.lockMost
  ·have hb:breakG b=freeG {b with m:=b.m.set b.holder.toNat {atI b.m b.holder with broken:=true}}:=by unfold breakG;rw[if_pos ⟨e,e2⟩]
   unfold p_i_Bus_step__J6 p_i_Bus_free
   rw[decide_eq_true e2,if_pos rfl,idx_m h.ml (held_who h e).1,Option.bind_some,setO_of,Option.bind_some,Option.bind_some]
   have:=hJ8 w
   rw[hb] at this
   exact this
  ·have hb:breakG b=b:=by unfold breakG;rw[if_neg (fun hx:b.holder≠-1∧b.held=b.conf.lockMost=>e2 hx.2)]
   rw[decide_eq_false e2,hJ6]
   have:=hJ8 w
   rwa [hb] at this
theorem i_J4_eq (x0:GBus) (w:GWave) (h:BusI b.now b) (hs:s.sm) (hw:w.ready=true) (hg:w.resp=0) (hp:0≤b.picks∧b.picks≤4000) (hn:0≤b.now∧b.now < 4000):
  p_i_Bus_step__J4 x0 s b w=some (if (finishG b s).2.1=true then ({w with resp:=(finishG b s).2.2,got:=(readyG (finishG b s).1 s).1},{(readyG (finishG b s).1 s).2 with now:=b.now+1}) else ({w with ready:=false,resp:=(finishG b s).2.2},{(finishG b s).1 with now:=b.now+1})):=by
 have hf:=finish_ok s hn.1 h
 have hfn:=finish_now b s
 obtain⟨w1,w2,w3,w4,w5,w6,rdy,rsp,w9⟩:=w
 simp only at hw hg
 subst hw
 subst hg
 unfold p_i_Bus_step__J4
 rw[i_finish_eq (GWave.mk w1 w2 w3 w4 w5 w6 true 0 w9) h hs (by omega),Option.bind_some]
 simp only
 have hresp:(if b.data_.live=true∧¬b.data_.left > 0 then GWave.mk w1 w2 w3 w4 w5 w6 true b.data_.resp w9 else GWave.mk w1 w2 w3 w4 w5 w6 true 0 w9)=GWave.mk w1 w2 w3 w4 w5 w6 true (finishG b s).2.2 w9:=by
  unfold finishG
  by_cases hd:b.data_.live=true
  ·by_cases hl:b.data_.left > 0
   ·rw[if_neg (fun hx:b.data_.live=true∧¬b.data_.left > 0=>hx.2 hl),if_neg (by simp[hd]),if_pos hl]
   ·rw[if_pos ⟨hd,hl⟩,if_neg (by simp[hd]),if_neg hl]
    congr 1
    split
    ·rfl
    ·split
     ·rfl
     ·split<;>rfl
  ·rw[if_neg (fun hx:b.data_.live=true∧¬b.data_.left > 0=>hd hx.1),if_pos (by simpa using hd)]
 rw[hresp]
 by_cases hr:(finishG b s).2.1=true
 ·rw[if_pos hr,if_pos hr]
  simp only[hr]
  have:=i_break_step x0 (GWave.mk w1 w2 w3 w4 w5 w6 true (finishG b s).2.2 w9) hf.1 hs (hf.2 hr) (by rw[hfn.2.1];exact hp) (by rw[hfn.1];omega)
  rw[hfn.1] at this
  exact this
 ·rw[if_neg hr,if_neg hr]
  unfold p_i_Bus_step__J7
  have hr2:(finishG b s).2.1=false:=by simpa using hr
  rw[hr2,hfn.1,addW_of (by omega) (by omega)]
theorem i_L2_eq (x0:GBus) (w:GWave) (h:BusI b.now b) (hs:s.sm) (hw:w.ready=true) (hg:w.resp=0) (hp:0≤b.picks∧b.picks≤4000) (hn:0≤b.now∧b.now < 4000):
  p_i_Bus_step__L2 x0 s FU b w (b.splits.length:Int) 0=p_i_Bus_step__J4 x0 s (heldOne (tickAll b)) w:=by
 have hlen:=conf_len h.conf
 have hsl:=h.sl
 rw[hsl]
 have:=loop_go (σ:=GBus×GWave×Int) (n:=b.conf.masters.length) (by omega) (fun k=>(tickN b k,w,(b.conf.masters.length:Int))) (B:=fun κ st i=>p_i_Bus_step__L2b x0 s (fun a b c i=>κ (a,b,c) i) st.1 st.2.1 st.2.2 i) (L:=fun m st i=>p_i_Bus_step__L2 x0 s m st.1 st.2.1 st.2.2 i) (fun m s i=>rfl) (r:=p_i_Bus_step__J4 x0 s (heldOne (tickAll b)) w) (fun k hk κ=>?_) fun κ=>?_
 ·simp only[tickN_0] at this
  exact this
 ·have hmk:=mas (c:=b.conf) hk
  obtain⟨t1,t2,t3,t4⟩:=tick_parts h hk
  have hsp:=(h.mst _ hmk).split
  have hlm:=(conf_lims h.conf).2.2.2
  unfold p_i_Bus_step__L2b
  simp only
  rw[if_pos (by simpa using hk),t1,Option.bind_some,setO_of,Option.bind_some,t3,Option.bind_some,show (tickN b k).conf=b.conf from rfl,idx_c hmk,Option.bind_some,i_BucketTick_eq _ (conf_at h.conf hmk),Option.bind_some,setO_of,Option.bind_some,subW_of (by omega) (by omega),maxI_eq,Int.toNat_natCast,t2,t4]
  rfl
 ·have hto:=tickAll_ok h
  unfold p_i_Bus_step__L2b
  simp only[tickN_all h]
  rw[if_neg (by simp)]
  unfold heldOne
  by_cases e:b.holder=-1
  ·rw[if_neg (by simp[tickAll,e]),if_pos (show (tickAll b).holder=-1 from e)]
  ·have hh:=(held_who hto (show (tickAll b).holder≠-1 from e)).2.2.2
   have hl:=(conf_lims h.conf).2.2.1
   have h3:(tickAll b).conf.lockMost=b.conf.lockMost:=rfl
   rw[if_pos (by simp[tickAll,e]),if_neg (show ¬(tickAll b).holder=-1 from e),addW_of (by omega) (by omega),minI_eq]
theorem i_step_wave (h:BusI n b):p_i_Bus_step b s=p_i_Bus_step__J5 b s (waveG b):=by
 unfold p_i_Bus_step p_i_Bus_step__J3 waveG
 by_cases ha:b.addr.live=true
 ·have hwa:=live_who h ha
  by_cases hd:b.data_.live=true
  ·have hwd:=live_whoD h hd
   simp only[ha,hd,if_true,idx_m h.ml hwa,idx_m h.ml hwd,Option.bind_some,i_MstAddr_eq _ (h.mst _ hwa).right,i_MstAddr_eq _ (h.mst _ hwd).right]
   by_cases hf:b.addr.first=true<;>simp[hf]
  ·have hd2:b.data_.live=false:=by simpa using hd
   simp only[ha,hd2,if_true,Bool.false_eq_true,if_false,idx_m h.ml hwa,Option.bind_some,i_MstAddr_eq _ (h.mst _ hwa).right]
   by_cases hf:b.addr.first=true<;>simp[hf]
 ·have ha2:b.addr.live=false:=by simpa using ha
  by_cases hd:b.data_.live=true
  ·have hwd:=live_whoD h hd
   simp only[ha2,hd,if_true,Bool.false_eq_true,if_false,idx_m h.ml hwd,Option.bind_some,i_MstAddr_eq _ (h.mst _ hwd).right]
  ·have hd2:b.data_.live=false:=by simpa using hd
   simp only[ha2,hd2,if_true,Bool.false_eq_true,if_false]
theorem i_L1_eq (x0:GBus) (w:GWave) (h:BusI n b) (ps:List GPost) (hps:ps.length < 1048577∧∀p∈ps,p.req.sm):p_i_Bus_step__L1 x0 s FU b w ps (ps.length:Int) 0=p_i_Bus_step__L2 x0 s FU (postAll b ps) w ((postAll b ps).splits.length:Int) 0:=by
 have hlt:=conf_lt h.conf
 have:=loop_go (σ:=GBus×GWave×List GPost×Int) (n:=ps.length) (by omega) (fun k=>(postAll b (ps.take k),w,ps,(ps.length:Int))) (B:=fun κ st i=>p_i_Bus_step__L1b x0 s (fun a b c d i=>κ (a,b,c,d) i) st.1 st.2.1 st.2.2.1 st.2.2.2 i) (L:=fun m st i=>p_i_Bus_step__L1 x0 s m st.1 st.2.1 st.2.2.1 st.2.2.2 i) (fun m s i=>rfl) (r:=p_i_Bus_step__L2 x0 s FU (postAll b ps) w ((postAll b ps).splits.length:Int) 0) (fun k hk κ=>?_) fun κ=>?_
 ·exact this
 ·have hI:=postAll_ok h (ps.take k)
  have hc:=(postAll_conf b (ps.take k)).1
  rw[postAll_take b ps k hk]
  generalize postAll b (ps.take k)=c at hI hc ⊢
  unfold p_i_Bus_step__L1b postOne
  simp only
  rw[if_pos (by simpa using hk),idx_get hk,Option.bind_some,i_isMaster_eq _ _ (by rw[hc];exact hlt),Option.bind_some]
  by_cases e:masterG c.conf ps[k].who=true
  ·obtain⟨ok,hp⟩:=i_MstPost_eq (r:=ps[k].req) (hI.mst _ e).right (hps.2 _ (List.getElem_mem hk))
   rw[if_pos e,if_pos e,idx_m hI.ml e,Option.bind_some,hp,Option.bind_some,setO_of,Option.bind_some]
  ·rw[if_neg e,if_neg e]
 ·unfold p_i_Bus_step__L1b
  simp only
  rw[if_neg (by simp),List.take_length]
end
theorem i_step_eq {b:GBus} {s:GScript} (h:BusP b) (hs:s.sm) (hn:b.now < 4000):p_i_Bus_step b s=some ((stepG b s).2,(stepG b s).1):=by
 have hP:=postAll_ok h.i (postsG s b.now)
 have hc:=postAll_conf b (postsG s b.now)
 have hp:=h.picks
 have hn2:=h.now
 have hO:=open_ok h s
 have eO:=open_data b s
 rw[i_step_wave h.i]
 unfold p_i_Bus_step__J5
 rw[i_PostsAt_eq _ _ hs,Option.bind_some,i_L1_eq b (waveG b) h.i _ (posts_sm hs _)]
 have hP2:BusI (postAll b (postsG s b.now)).now (postAll b (postsG s b.now)):=by rw[hc.2.1];exact hP
 rw[i_L2_eq b (waveG b) hP2 hs rfl rfl (by rw[hc.2.2.1];omega) (by rw[hc.2.1];omega)]
 have hO2:BusI (openG b s).now (openG b s):=by rw[eO.1];exact hO
 show p_i_Bus_step__J4 b s (openG b s) (waveG b)=_
 rw[i_J4_eq b (waveG b) hO2 hs rfl rfl (by rw[eO.2.2.1];omega) (by rw[eO.1];omega),eO.1]
 unfold stepG
 split<;>rfl
end Go.Proofs.YtciimjnpdmmfnaaGreat.Ev
namespace Go.Proofs.YtciimjnpdmmfnaaGreat.Ev
open Go Go.Proofs
set_option linter.unusedVariables false
set_option linter.unusedSimpArgs false
def okB (b:GBus):Bool:=(p_s_BusOk b).getD false
theorem okB_iff {b:GBus} (hs:b.sm):okB b=true↔BusP b:=by
 obtain⟨r,-,h2,h3⟩:=BusOk_eq b hs
 unfold okB
 rw[h2]
 exact h3
theorem i_okB {b:GBus} (hs:b.sm):p_i_BusOk b=some (okB b):=by
 obtain⟨r,h1,h2,h3⟩:=BusOk_eq b hs
 unfold okB
 rw[h1,h2];rfl
theorem s_okB {b:GBus} (hs:b.sm):p_s_BusOk b=some (okB b):=by
 obtain⟨r,h1,h2,h3⟩:=BusOk_eq b hs
 unfold okB
 rw[h2];rfl
theorem BusP.ok {b:GBus} (h:BusP b):okB b=true:=(okB_iff h.sm).2 h
def runN (b:GBus) (s:GScript):Nat→GBus×List GWave
 | 0=>(b,[])
 | n+1=>((stepG (runN b s n).1 s).1,(runN b s n).2++[(stepG (runN b s n).1 s).2])
theorem runN_ok {b:GBus} (h:BusP b) (s:GScript):∀(n:Nat),b.now+n≤4000→BusP (runN b s n).1∧(runN b s n).1.now=b.now+n∧(runN b s n).1.conf=b.conf∧(runN b s n).2.length=n:=by
 intro n
 induction n with
 | zero=>intro _;exact⟨h,by simp[runN],rfl,rfl⟩
 | succ n ih=>
  intro hn
  obtain⟨h1,h2,h3,h4⟩:=ih (by omega)
  have:=step_ok h1 s (by omega)
  exact⟨this.1,by show (stepG (runN b s n).1 s).1.now=_;rw[this.2.1,h2];omega,by show (stepG (runN b s n).1 s).1.conf=_;rw[this.2.2,h3],by show ((runN b s n).2++_).length=_;rw[List.length_append,h4];rfl⟩
def runG (b:GBus) (s:GScript) (n:Int):GBus×List GWave:=if okB b=true∧0≤n∧n≤4000 - b.now then runN b s n.toNat else (b,[])
theorem i_BusRun_eq {b:GBus} {s:GScript} (n:Int) (hb:b.sm) (hs:s.sm):p_i_BusRun b s n=some (runG b s n):=by
 unfold p_i_BusRun runG
 rw[i_ownBus_eq b hb,Option.bind_some,i_okB hb,Option.bind_some]
 unfold p_i_BusRun__J2
 by_cases h:okB b=true
 ·have hP:=(okB_iff hb).1 h
  have hN:=hP.now
  rw[h,if_neg (by simp),subW_of (by omega) (by omega),within_eq,Option.bind_some]
  by_cases hn:0≤n∧n≤4000 - b.now
  ·rw[decide_eq_true hn,if_neg (by simp),if_pos ⟨rfl,hn⟩]
   obtain⟨k,rfl⟩:∃k:Nat,n=k:=⟨n.toNat,by omega⟩
   rw[Int.toNat_natCast]
   refine loop_go (σ:=GBus×List GWave) (n:=k) (by omega) (runN b s) (B:=fun κ st i=>p_i_BusRun__L1b b s k (fun x y i=>κ (x,y) i) st.1 st.2 i) (L:=fun m st i=>p_i_BusRun__L1 b s k m st.1 st.2 i) (fun m s i=>rfl) (fun j hj κ=>?_) fun κ=>?_
   ·have hr:=runN_ok hP s j (by omega)
    unfold p_i_BusRun__L1b
    rw[if_pos (by simpa using hj),i_step_eq hr.1 hs (by omega),Option.bind_some,appI_of (by simp only[List.length_cons,List.length_nil];omega) (by simp only[List.length_cons,List.length_nil];omega)]
    rfl
   ·have hr:=runN_ok hP s k (by omega)
    unfold p_i_BusRun__L1b
    rw[if_neg (by simp),i_ownBus_eq _ hr.1.sm]
    rfl
  ·rw[decide_eq_false hn,if_pos (by simp),if_neg (fun hx=>hn hx.2)]
 ·have h2:okB b=false:=by simpa using h
  simp[h2]
def newG (c:GConf):GBus:={GBus.z0 with conf:=c,m:=List.replicate c.masters.length GMst.z0,buckets:=c.masters.map bnewG,splits:=List.replicate c.masters.length 0,holder:=-1,last:=-1,model:=GModel.mk (List.replicate 192 0) (GDev.mk (List.replicate 4 0) 0 [])}
def newbG (c:GConf):GBus×Bool:=if confG c=true then (newG c,true) else (GBus.z0,false)
theorem s_DevNew_eq:p_s_DevNew=some (GDev.mk (List.replicate 4 0) 0 []):=rfl
theorem s_ModelNew_eq:p_s_ModelNew=some (GModel.mk (List.replicate 192 0) (GDev.mk (List.replicate 4 0) 0 [])):=by
 unfold p_s_ModelNew
 rw[show (192:Int)=((192:Nat):Int) from rfl,mkI_of (by decide) (by decide),Option.bind_some,s_DevNew_eq]
 rfl
theorem i_ModelNew_eq:p_i_ModelNew=some (GModel.mk (List.replicate 192 0) (GDev.mk (List.replicate 4 0) 0 [])):=by
 unfold p_i_ModelNew
 first
 | rfl
 | (rw[show (192:Int)=((192:Nat):Int) from rfl,mkI_of (by decide) (by decide),Option.bind_some];rfl)
def newK (c:GConf) (k:Nat):GBus:={newG c with m:=List.replicate k GMst.z0,buckets:=(c.masters.take k).map bnewG,splits:=List.replicate k 0}
theorem newK_succ (c:GConf) {k:Nat} (hk:k < c.masters.length):newK c (k+1)={newK c k with m:=(newK c k).m++[GMst.z0],buckets:=(newK c k).buckets++[bnewG c.masters[k]],splits:=(newK c k).splits++[0]}:=by
 unfold newK
 simp only[List.replicate_succ']
 rw[List.take_succ_eq_append_getElem hk,List.map_append]
 rfl
theorem newK_all (c:GConf):newK c c.masters.length=newG c:=by
 unfold newK
 rw[List.take_length]
 rfl
theorem i_BusNew_eq (c:GConf) (hl:c.masters.length < 1048577):p_i_BusNew c=some (newbG c):=by
 unfold p_i_BusNew newbG
 rw[i_ConfOk_eq c hl,Option.bind_some]
 by_cases h:confG c=true
 ·rw[h,if_neg (by simp),(conf_copy c hl).1,Option.bind_some,i_ModelNew_eq,Option.bind_some,if_pos rfl]
  rw[←newK_all c]
  refine loop_go (σ:=GBus) (n:=c.masters.length) (by omega) (newK c) (B:=p_i_BusNew__L1b c) (L:=p_i_BusNew__L1 c) (fun m s i=>rfl) (fun k hk κ=>?_) fun κ=>?_
  ·unfold p_i_BusNew__L1b
   have e1:(newK c k).m.length=k:=by simp[newK]
   have e2:(newK c k).buckets.length=k:=by simp[newK];omega
   have e3:(newK c k).splits.length=k:=by simp[newK]
   rw[if_pos (by simpa using hk),idx_get hk,Option.bind_some,appI_of (by simp only[List.length_cons,List.length_nil];omega) (by simp only[List.length_cons,List.length_nil];omega),Option.bind_some,i_BucketNew_eq,Option.bind_some,appI_of (by simp only[List.length_cons,List.length_nil];omega) (by simp only[List.length_cons,List.length_nil];omega),Option.bind_some,appI_of (by simp only[List.length_cons,List.length_nil];omega) (by simp only[List.length_cons,List.length_nil];omega),Option.bind_some,newK_succ c hk]
  ·unfold p_i_BusNew__L1b
   rw[if_neg (by simp)]
 ·simp[h]
theorem s_BusNew_eq (c:GConf) (hl:c.masters.length < 1048577):p_s_BusNew c=some (newbG c):=by
 unfold p_s_BusNew newbG
 rw[s_ConfOk_eq c hl,Option.bind_some]
 by_cases h:confG c=true
 ·rw[h,if_neg (by simp),(conf_copy c hl).2,Option.bind_some,s_ModelNew_eq,Option.bind_some,if_pos rfl]
  rw[←newK_all c]
  refine loop_go (σ:=GBus) (n:=c.masters.length) (by omega) (newK c) (B:=p_s_BusNew__L1b c) (L:=p_s_BusNew__L1 c) (fun m s i=>rfl) (fun k hk κ=>?_) fun κ=>?_
  ·unfold p_s_BusNew__L1b
   have e1:(newK c k).m.length=k:=by simp[newK]
   have e2:(newK c k).buckets.length=k:=by simp[newK];omega
   have e3:(newK c k).splits.length=k:=by simp[newK]
   rw[if_pos (by simpa using hk),appI_of (by simp only[List.length_cons,List.length_nil];omega) (by simp only[List.length_cons,List.length_nil];omega),Option.bind_some,idx_get hk,Option.bind_some,s_BucketNew_eq,Option.bind_some,appI_of (by simp only[List.length_cons,List.length_nil];omega) (by simp only[List.length_cons,List.length_nil];omega),Option.bind_some,appI_of (by simp only[List.length_cons,List.length_nil];omega) (by simp only[List.length_cons,List.length_nil];omega),Option.bind_some,newK_succ c hk]
  ·unfold p_s_BusNew__L1b
   rw[if_neg (by simp)]
 ·simp[h]
theorem flyG_new (c:GConf) (i:Int):flyG (newG c) i=0:=rfl
theorem new_m (c:GConf) {i:Int} (h:masterG c i=true):atI (newG c).m i=GMst.z0:=by
 obtain⟨k,rfl,hk⟩:=mas_nat h
 have hk2:k < (newG c).m.length:=by simpa [newG] using hk
 rw[at_nat hk2]
 simp[newG]
theorem right_z0:RightP GMst.z0:=⟨by decide,by decide,fun r hr=>absurd hr (by simp[GMst.z0]),fun _=>⟨rfl,rfl,rfl,rfl,rfl⟩,fun h=>absurd rfl h⟩
theorem new_model:ModelP (GModel.mk (List.replicate 192 0) (GDev.mk (List.replicate 4 0) 0 [])):=⟨List.length_replicate,by show (List.replicate 192 (0:Int)).all byteG=true;rw[List.all_replicate];rfl,⟨rfl,by show ∀v∈List.replicate 4 (0:Int),numG v 2=true;decide,by show numG 0 2=true;decide,by show 0≤4;decide,fun v hv=>absurd hv (by show ¬v∈([]:List Int);simp)⟩⟩
theorem new_ok {c:GConf} (h:confG c=true):BusP (newG c):=by
 have hl:=conf_len h
 have hm0:masterG c 0=true:=by simp only[masterG,decide_eq_true_eq];omega
 have hsl:0 < slotG c:=by
  have:=slotG_le c
  simp only[confG,Bool.and_eq_true,decide_eq_true_eq] at h
  omega
 have hlim:=conf_lims h
 have e0:(0:Int)≤0:=Int.le_refl 0
 refine⟨h,⟨e0,by show (0:Int)≤4000;omega⟩,by simp[newG],by simp[newG],by simp[newG],fun i hi=>⟨by rw[new_m c hi];exact right_z0,?_,?_,?_⟩,?_,.inl rfl,?_,⟨e0,e0⟩,fun hx=>absurd hx (by simp[newG,GBus.z0,GBeat.z0]),fun hx=>absurd hx (by simp[newG,GBus.z0,GBeat.z0]),fun i hi=>?_,?_,?_,⟨fun i hi hb=>?_,?_⟩,fun d hd=>absurd hd (by simp[newG,GBus.z0]),?_⟩
 ·rw[new_m c hi]
  show (0:Int)≤c.maxRetry
  exact hlim.1.1
 ·obtain⟨k,rfl,hk⟩:=mas_nat hi
  have hk2:k < (newG c).buckets.length:=by simpa [newG] using hk
  have hk:k < c.masters.length:=hk
  have hm:=conf_at h hi
  show bucketG (atI (newG c).buckets k) (atI c.masters k)=true
  rw[at_nat hk] at hm ⊢
  rw[at_nat hk2]
  have:(newG c).buckets[k]=bnewG c.masters[k]:=by simp[newG]
  rw[this]
  exact bnew_ok hm ⟨hsl,fun hp=>List.countP_pos_iff.2 ⟨_,List.getElem_mem hk,hp⟩⟩
 ·obtain⟨k,rfl,hk⟩:=mas_nat hi
  have hk2:k < (newG c).splits.length:=by simpa [newG] using hk
  rw[at_nat hk2]
  have:(newG c).splits[k]=0:=by simp[newG]
  rw[this]
  exact⟨e0,by show (0:Int)≤c.maxSplit;omega⟩
 ·show wrrG GWrr.z0 c=true
  unfold wrrG
  have:=turnG_le c 0
  simp[h,hm0,GWrr.z0,this.1]
 ·exact new_model
 ·rw[new_m c hi,flyG_new];rfl
 ·unfold addrP
  rw[if_neg (by simp[newG,GBus.z0,GBeat.z0])]
  rfl
 ·unfold dataP
  rw[if_neg (by simp[newG,GBus.z0,GBeat.z0])]
  rfl
 ·rw[new_m c hi] at hb
  exact absurd hb (by decide)
 ·show if (-1:Int)=-1 then (0:Int)=0 else _
  rw[if_pos rfl]
 ·exact List.Pairwise.nil
theorem newB_ok {c:GConf} (h:confG c=true):newbG c=(newG c,true):=if_pos h
end Go.Proofs.YtciimjnpdmmfnaaGreat.Ev
