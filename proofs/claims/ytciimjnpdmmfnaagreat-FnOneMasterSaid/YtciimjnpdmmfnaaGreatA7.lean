/- A part of the proof of FnOneMaster: see the text YtciimjnpdmmfnaaGreatLawFnOneMaster for what is proved and its conditions. Conditions here: those in each line. -/
import Derived.Test.YtciimjnpdmmfnaaGreatA6
namespace Go.Proofs.YtciimjnpdmmfnaaGreat.Ev
open Go Go.Proofs
set_option linter.unusedVariables false
set_option linter.unusedSimpArgs false
theorem Zp7 {n:Int} (h1:-9223372036854775808≤n) (h2:n < 9223372036854775808):IntKind.i64.wrap n=n:=w64_of h1 h2
theorem Zr {a b:Int} (h1:-9223372036854775808≤a+b) (h2:a+b < 9223372036854775808):addW a b=a+b:=Zp7 h1 h2
theorem Z9 {a b:Int} (h1:-9223372036854775808≤a - b) (h2:a - b < 9223372036854775808):subW a b=a - b:=Zp7 h1 h2
theorem K8 {a b:Int} (h1:-9223372036854775808≤a*b) (h2:a*b < 9223372036854775808):mulW a b=a*b:=Zp7 h1 h2
theorem Yo {k:Nat} (h:k < 4611686018427387904):addW (k:Int) 1=((k+1:Nat):Int):=by rw[Zr (by omega) (by omega)];rfl
section
variable {α β σ ρ:Type}
theorem Yc {xs:List α} {k:Nat} (h:k < xs.length):idx xs (k:Int)=some xs[k]:=by
 simp[idx,h]
theorem Y5:4611686018427387904 < FU:=by decide
def runL (step:α→σ→Option (σ ⊕ ρ)) (fin:σ→Option ρ):List α→σ→Option ρ
 | [],s=>fin s
 | a::l,s=>(step a s).bind fun r=>match r with|.inl s'=>runL step fin l s'|.inr x=>some x
def goL (k:σ→Option ρ):σ ⊕ ρ→Option ρ
 | .inl s=>k s
 | .inr x=>some x
theorem Ylv (xs:List α) (hl:xs.length < 4611686018427387904) (step:α→σ→Option (σ ⊕ ρ)) (fin:σ→Option ρ) (L:Nat→σ→Int→Option ρ)
  (hL:∀m s i,L (m+1) s i=if decide (i < (xs.length:Int))=true then (idx xs i).bind fun a=>(step a s).bind (goL fun s'=>L m s' (addW i 1)) else fin s):
  ∀(m k:Nat) (s:σ),k≤xs.length→xs.length - k < m→L m s k=runL step fin (xs.drop k) s:=by
 intro m
 induction m with
 | zero=>intro k s _ h;omega
 | succ m ih=>
  intro k s hk hm
  rw[hL]
  by_cases hc:k < xs.length
  ·have h1:decide ((k:Int) < (xs.length:Int))=true:=by simpa using hc
   rw[if_pos h1,Yc hc,Option.bind_some,List.drop_eq_getElem_cons hc]
   simp only[runL]
   congr 1
   funext r
   cases r with
   | inl s'=>
    simp only[goL]
    rw[Yo (by omega)]
    exact ih (k+1) s' (by omega) (by omega)
   | inr x=>rfl
  ·have h1:¬decide ((k:Int) < (xs.length:Int))=true:=by simpa using hc
   rw[if_neg h1,List.drop_eq_nil_of_le (by omega)]
   rfl
theorem Zxj (xs:List α) (hl:xs.length < 4611686018427387904) (step:α→σ→Option (σ ⊕ ρ)) (fin:σ→Option ρ) (L:Nat→σ→Int→Option ρ)
  (hL:∀m s i,L (m+1) s i=if decide (i < (xs.length:Int))=true then (idx xs i).bind fun a=>(step a s).bind (goL fun s'=>L m s' (addW i 1)) else fin s) (s:σ):
  L FU s 0=runL step fin xs s:=by
 have:=Ylv xs hl step fin L hL FU 0 s (Nat.zero_le _) (by have:=Y5;omega)
 simpa using this
theorem Z83 (step:α→σ→Option (σ ⊕ ρ)) (fin:σ→Option ρ) (f:σ→α→σ) (I:List α→σ→Prop) (h:∀a l s,I (a::l) s→step a s=some (.inl (f s a))∧I l (f s a)):∀(xs:List α) (s:σ),I xs s→runL step fin xs s=fin (xs.foldl f s):=by
 intro xs
 induction xs with
 | nil=>intro s _;rfl
 | cons a l ih=>
  intro s hi
  obtain⟨h1,h2⟩:=h a l s hi
  simp only[runL,h1,Option.bind_some,List.foldl_cons]
  exact ih _ h2
theorem Ybn {sz n:Nat} {z:α} (h1:n*sz≤70368744177664) (h2:n≤9223372036854775807):mkI sz (n:Int) z=some (List.replicate n z):=by
 simp[mkI,h1,h2]
theorem Ys {sz:Nat} {xs ys:List α} (h1:(xs.length+ys.length)*sz≤140737488355328) (h2:xs.length+ys.length≤9223372036854775807):appI sz xs ys=some (xs++ys):=by
 unfold appI
 rw[if_pos ⟨h1,h2⟩]
end
section
variable {α:Type}
theorem Y1 (xs:List α) (i:Int) (a:α):setO xs i a=some (xs.set i.toNat a):=rfl
def atI [Inhabited α] (xs:List α) (i:Int):α:=xs.getD i.toNat default
theorem Xb [Inhabited α] {xs:List α} {k:Nat} (h:k < xs.length):atI xs (k:Int)=xs[k]:=by
 simp[atI,h]
theorem Yi [Inhabited α] {xs:List α} {i:Int} (h0:0≤i) (h1:i < (xs.length:Int)):idx xs i=some (atI xs i):=by
 obtain⟨k,rfl⟩:∃k:Nat,i=k:=⟨i.toNat,by omega⟩
 have hk:k < xs.length:=by omega
 rw[Yc hk,Xb hk]
theorem Zb3 [Inhabited α] {xs:List α} {i:Int} (h0:0≤i) (h1:i < (xs.length:Int)):atI xs i∈xs:=by
 obtain⟨k,rfl⟩:∃k:Nat,i=k:=⟨i.toNat,by omega⟩
 have hk:k < xs.length:=by omega
 rw[Xb hk];exact List.getElem_mem hk
theorem Zg1 [Inhabited α] {xs:List α} {i:Int} (a:α) (h0:0≤i) (h1:i < (xs.length:Int)):atI (xs.set i.toNat a) i=a:=by
 obtain⟨k,rfl⟩:∃k:Nat,i=k:=⟨i.toNat,by omega⟩
 have hk:k < xs.length:=by omega
 rw[Xb (by simpa using hk)];simp
theorem Zz5 [Inhabited α] {xs:List α} {i j:Int} (a:α) (h0:0≤i) (h1:0≤j) (hn:i≠j):atI (xs.set i.toNat a) j=atI xs j:=by
 unfold atI
 rw[List.getD_eq_getElem?_getD,List.getD_eq_getElem?_getD,List.getElem?_set_ne (by omega)]
theorem Zis {n:Int} (h:n≠0):nzI n=some ():=by unfold nzI;rw[if_neg h]
theorem Yj4 {n:Int} (h:0≤n):nnI n=some ():=by unfold nnI;rw[if_pos h]
theorem Zbg {a n:Int} (h0:0≤a):remW a n=a % n:=by unfold remW;rw[Int.tmod_eq_emod_of_nonneg h0]
theorem Z1t {a n:Int} (h0:0≤a) (h1:a < 9223372036854775808) (hn:1≤n):quoW a n=a / n:=by
 unfold quoW
 rw[Int.tdiv_eq_ediv_of_nonneg h0]
 have h2:0≤a / n:=Int.ediv_nonneg h0 (by omega)
 have h3:a / n≤a:=Int.ediv_le_self n h0
 exact Zp7 (by omega) (by omega)
theorem Zxg (xs:List α) (hl:xs.length < 4611686018427387904) (f:α→Option Bool) (q:α→Bool) (hf:∀a∈xs,f a=some (!q a)) (L:Nat→Int→Option Int)
  (hL:∀m i,L (m+1) i=if decide (i < (xs.length:Int))=true then (idx xs i).bind fun a=>(f a).bind fun r=>if r=true then some i else L m (addW i 1) else some (-1)):
  (xs.all q=true∧L FU 0=some (-1))∨∃k:Nat,∃h:k < xs.length,L FU 0=some (k:Int)∧q xs[k]=false∧(xs.take k).all q=true:=by
 have key:∀(m k:Nat),k≤xs.length→xs.length - k < m→(xs.take k).all q=true→(xs.all q=true∧L m k=some (-1))∨∃j:Nat,∃h:j < xs.length,L m k=some (j:Int)∧q xs[j]=false∧(xs.take j).all q=true:=by
  intro m
  induction m with
  | zero=>intro k _ h;omega
  | succ m ih=>
   intro k hk hm ht
   rw[hL]
   by_cases hc:k < xs.length
   ·have h1:decide ((k:Int) < (xs.length:Int))=true:=by simpa using hc
    rw[if_pos h1,Yc hc,Option.bind_some,hf _ (List.getElem_mem hc),Option.bind_some]
    by_cases hq:q xs[k]=true
    ·have h2:¬(!q xs[k])=true:=by simp[hq]
     rw[if_neg h2,Yo (by omega)]
     refine ih (k+1) (by omega) (by omega) ?_
     rw[List.take_succ_eq_append_getElem hc,List.all_append,ht];simp[hq]
    ·have h2:(!q xs[k])=true:=by simpa using hq
     rw[if_pos h2]
     exact .inr ⟨k,hc,rfl,by simpa using hq,ht⟩
   ·have h1:¬decide ((k:Int) < (xs.length:Int))=true:=by simpa using hc
    rw[if_neg h1]
    rw[List.take_of_length_le (by omega)] at ht
    exact .inl ⟨ht,rfl⟩
 exact key FU 0 (Nat.zero_le _) (by have:=Y5;omega) (by simp)
theorem Zqp (xs:List α) (hl:xs.length < 4611686018427387904) (f:α→Option Bool) (q:α→Bool) (hf:∀a∈xs,f a=some (!q a)) (L:Nat→Int→Option Int)
  (hL:∀m i,L (m+1) i=if decide (i < (xs.length:Int))=true then (idx xs i).bind fun a=>(f a).bind fun r=>if r=true then some i else L m (addW i 1) else some (-1)):
  ((L FU 0).bind fun r=>some (decide (r≥0)))=some (!xs.all q):=by
 rcases Zxg xs hl f q hf L hL with⟨h1,h2⟩|⟨k,hk,h1,h2,h3⟩
 ·rw[h2,h1];rfl
 ·rw[h1,Option.bind_some]
  have:xs.all q=false:=by
   rw[List.all_eq_false]
   exact⟨xs[k],List.getElem_mem hk,by simp[h2]⟩
  rw[this]
  have h4:((k:Nat):Int)≥0:=by omega
  simp[h4]
theorem Yfb (xs:List α) (z:α) (hl:xs.length < 4611686018427387904) (f:α→Option Bool) (q:α→Bool) (hf:∀a∈xs,f a=some (!q a)) (I:Nat→Int→Option Int)
  (hI:∀m i,I (m+1) i=if decide (i < (xs.length:Int))=true then (idx xs i).bind fun a=>(f a).bind fun r=>if r=true then some i else I m (addW i 1) else some (-1))
  (L:Nat→List α→Int→Int→Option (List α))
  (hL:∀m v i j,L (m+1) v i j=if decide (j < (v.length:Int))=true then (idx v j).bind fun a=>(f a).bind fun r=>if (!r)=true then (idx v i).bind fun _=>(setO v i a).bind fun y=>L m y (addW i 1) (addW j 1) else L m v i (addW j 1)
   else (Q3 v i (v.length:Int)).bind fun _=>(clrI z v i (v.length:Int)).bind fun y=>(Q3 y 0 i).bind fun s=>some s):
  ((I FU 0).bind fun r=>if decide (r=(-1))=true then some xs else L FU xs r (addW r 1))=some (xs.filter q):=by
 have key:∀(m i j:Nat) (v:List α),i≤j→j≤xs.length→xs.length - j < m→v.length=xs.length→v.take i=(xs.take j).filter q→v.drop j=xs.drop j→L m v i j=some (xs.filter q):=by
  intro m
  induction m with
  | zero=>intro i j v _ _ h;omega
  | succ m ih=>
   intro i j v hij hj hm hv ht hd
   rw[hL]
   by_cases hc:j < v.length
   ·have hc2:j < xs.length:=by omega
    have h1:decide ((j:Int) < (v.length:Int))=true:=by simpa using hc
    have e:v[j]=xs[j]:=by
     have:=congrArg List.head? hd
     simpa [List.head?_drop,hc,hc2] using this
    have hd2:v.drop (j+1)=xs.drop (j+1):=by
     have:=congrArg (List.drop 1) hd
     simpa [List.drop_drop] using this
    rw[if_pos h1,Yc hc,Option.bind_some,e,hf _ (List.getElem_mem hc2),Option.bind_some,Bool.not_not]
    by_cases hq:q xs[j]=true
    ·rw[if_pos hq,Yc (by omega:i < v.length),Option.bind_some]
     simp only[setO,Option.bind_some]
     rw[Yo (by omega),Yo (by omega)]
     refine ih (i+1) (j+1) _ (by omega) (by omega) (by omega) (by simp[hv]) ?_ ?_
     ·rw[Int.toNat_natCast,List.take_succ_eq_append_getElem (by simpa using (by omega:i < v.length)),List.take_set_of_le (Nat.le_refl _),ht,List.take_succ_eq_append_getElem hc2,List.filter_append]
      simp[hq]
     ·rw[Int.toNat_natCast,List.drop_set_of_lt (by omega),hd2]
    ·rw[if_neg hq,Yo (by omega)]
     refine ih i (j+1) v (by omega) (by omega) (by omega) hv ?_ hd2
     rw[ht,List.take_succ_eq_append_getElem hc2,List.filter_append]
     simp[hq]
   ·have h1:¬decide ((j:Int) < (v.length:Int))=true:=by simpa using hc
    have hjx:j=xs.length:=by omega
    rw[if_neg h1]
    have h2:Q3 v (i:Int) (v.length:Int)=some ((v.drop i).take (v.length - i)):=by
     unfold Q3;rw[if_pos ⟨by omega,by omega,by omega⟩];simp
    have h3:clrI z v (i:Int) (v.length:Int)=some (v.take i++List.replicate (v.length - i) z++v.drop v.length):=by
     unfold clrI
     have:(i:Int).toNat+((v.length:Int).toNat - (i:Int).toNat)=v.length:=by omega
     rw[if_pos (by omega),this];simp
    rw[h2,Option.bind_some,h3,Option.bind_some]
    have h4:Q3 (v.take i++List.replicate (v.length - i) z++v.drop v.length) 0 (i:Int)=some (v.take i):=by
     unfold Q3
     rw[if_pos ⟨by omega,by omega,by simp;omega⟩]
     have:(v.take i).length=i:=by rw[List.length_take];omega
     simp[List.append_assoc,List.take_append,this]
    rw[h4,Option.bind_some,ht,hjx,List.take_length]
 rcases Zxg xs hl f q hf I hI with⟨h1,h2⟩|⟨k,hk,h1,h2,h3⟩
 ·rw[h2,Option.bind_some,if_pos (by decide)]
  congr 1
  exact (List.filter_eq_self.2 (fun a ha=>List.all_eq_true.1 h1 a ha)).symm
 ·rw[h1,Option.bind_some,if_neg (by simp),Yo (by omega)]
  refine key FU k (k+1) xs (by omega) (by omega) (by have:=Y5;omega) rfl ?_ rfl
  rw[List.take_succ_eq_append_getElem hk,List.filter_append,List.filter_eq_self.2 (fun a ha=>List.all_eq_true.1 h3 a ha)]
  simp[h2]
theorem Z86 (sz:Nat) (hz:sz≤1024) (xs:List α) (hl:xs.length < 1048577) (f:α→Option α) (hf:∀a∈xs,f a=some a) {ρ:Type} (fin:List α→Option ρ) (L:Nat→List α→Int→Option ρ)
  (hL:∀m v i,L (m+1) v i=if decide (i < (xs.length:Int))=true then (idx xs i).bind fun a=>(f a).bind fun b=>(appI sz v [b]).bind fun z=>L m z (addW i 1) else fin v):L FU [] 0=fin xs:=by
 have key:∀(m k:Nat),k≤xs.length→xs.length - k < m→L m (xs.take k) k=fin xs:=by
  intro m
  induction m with
  | zero=>intro k _ h;omega
  | succ m ih=>
   intro k hk hm
   rw[hL]
   by_cases hc:k < xs.length
   ·have h1:decide ((k:Int) < (xs.length:Int))=true:=by simpa using hc
    have hlen:(xs.take k).length=k:=by rw[List.length_take];omega
    have hb:(k+1)*sz≤140737488355328:=Nat.le_trans (Nat.mul_le_mul (by omega:k+1≤1048577) hz) (by decide)
    rw[if_pos h1,Yc hc,Option.bind_some,hf _ (List.getElem_mem hc),Option.bind_some,Ys (by simpa [hlen] using hb) (by simp[hlen];omega),Option.bind_some,Yo (by omega),←List.take_succ_eq_append_getElem hc]
    exact ih (k+1) (by omega) (by omega)
   ·have h1:¬decide ((k:Int) < (xs.length:Int))=true:=by simpa using hc
    rw[if_neg h1,List.take_of_length_le (by omega)]
 have:=key FU 0 (Nat.zero_le _) (by have:=Y5;omega)
 simpa using this
end
theorem Yok (bs:ByteArray):∀(n i:Nat) (r:List UInt8),bs.size - i=n→ByteArray.toList.loop bs i r=r.reverse++bs.data.toList.drop i:=by
 intro n
 induction n with
 | zero=>
  intro i r h
  unfold ByteArray.toList.loop
  have hs:bs.data.toList.length=bs.size:=rfl
  rw[if_neg (by omega),List.drop_eq_nil_of_le (by omega)]
  simp
 | succ n ih=>
  intro i r h
  unfold ByteArray.toList.loop
  have hs:bs.data.toList.length=bs.size:=rfl
  have hi:i < bs.data.toList.length:=by omega
  rw[if_pos (by omega),ih (i+1) _ (by omega),List.drop_eq_getElem_cons hi]
  have:bs.get! i=bs.data.toList[i]:=by
   have hi2:i < bs.data.size:=hi
   simp[ByteArray.get!,getElem!_def,Array.getElem?_eq_getElem hi2]
  rw[this]
  simp
theorem Z8s (bs:ByteArray):bs.toList=bs.data.toList:=by
 unfold ByteArray.toList
 rw[Yok bs _ 0 [] rfl]
 simp
theorem Zxp {β:Type} {c:Prop} [Decidable c] {x:β}:(if c then x else x)=x:=by split<;>rfl
theorem Y0 (x a b:Int):Z1 x a b=some (decide (a≤x∧x≤b)):=by
 unfold Z1
 by_cases h:a≤x<;>simp[h]
theorem Yg (x a b:Int):Zk x a b=some (decide (a≤x∧x≤b)):=by
 unfold Zk
 by_cases h:a≤x<;>simp[h]
def Zct (c:GConf):Int:=if (0≤c.maxRetry∧c.maxRetry≤3)∧(0≤c.maxWait∧c.maxWait≤3) then (c.maxRetry+2)*(c.maxWait+6) else 0
def Wi (c:GConf):Int:=if Zct c=0 then 0 else if 1≤c.lockMost∧c.lockMost≤40 then 2*Zct c+c.lockMost else 0
def Xv (c:GConf):Nat:=c.masters.countP (·.prio)
def Xj (c:GConf) (m:GMConf):Bool:=decide (1≤m.weight∧m.weight≤4)&&if m.prio then decide (2*Wi c*Xv c≤m.every∧m.every≤1000)&&decide (1≤m.cap∧m.cap≤8) else decide (m.every=0)&&decide (m.cap=0)
def Zz (c:GConf):Bool:=decide (1≤(c.masters.length:Int)∧(c.masters.length:Int)≤4)&&decide (1≤c.quantum∧c.quantum≤4)&&decide (1≤c.maxSplit∧c.maxSplit≤12)&&decide (Wi c≠0)&&c.masters.all (Xj c)
theorem Zym (c:GConf):0≤Zct c∧Zct c≤45:=by
 unfold Zct
 split
 ·rename_i h
  obtain⟨⟨h1,h2⟩,h3,h4⟩:=h
  generalize c.maxRetry=a at*
  generalize c.maxWait=b at*
  have:a=0∨a=1∨a=2∨a=3:=by omega
  rcases this with rfl|rfl|rfl|rfl<;>omega
 ·omega
theorem Zso (c:GConf):0≤Wi c∧Wi c≤130:=by
 have:=Zym c
 unfold Wi
 split
 ·omega
 ·split<;>omega
theorem Zpo (c:GConf):Zfz c=some (Zct c):=by
 unfold Zfz
 rw[Yg,Option.bind_some,Yg,Option.bind_some]
 unfold Zjw Zct
 by_cases h1:0≤c.maxRetry∧c.maxRetry≤3
 ·by_cases h2:0≤c.maxWait∧c.maxWait≤3
  ·have:=Zym c
   unfold Zct at this
   rw[if_pos ⟨h1,h2⟩] at this
   simp only[h1,h2,decide_true,Bool.not_true,Bool.false_eq_true,if_false,and_self,if_true]
   rw[Zr (by omega) (by omega),Zr (by omega) (by omega),K8 (by omega) (by omega)]
  ·simp[h1,h2]
 ·simp[h1]
theorem Ydo (c:GConf):Zm4 c=some (Zct c):=by
 rw[←Zpo]
 unfold Zm4 Zfz
 simp only[Yg,Y0]
 rfl
theorem Zvx (c:GConf):Zav c=some (Wi c):=by
 have:=Zym c
 unfold Zav Wi
 rw[Zpo,Option.bind_some,Yg,Option.bind_some,Option.bind_some]
 by_cases h0:Zct c=0
 ·simp[h0]
 ·by_cases h1:1≤c.lockMost∧c.lockMost≤40
  ·simp only[h0,h1,decide_true,decide_false,Bool.not_true,Bool.false_eq_true,if_false,and_self,if_true]
   rw[K8 (by omega) (by omega),Zr (by omega) (by omega)]
  ·simp[h0,h1]
theorem Z3d (c:GConf):Znf c=some (Wi c):=by
 rw[←Zvx]
 unfold Znf Zav
 simp only[Yg,Y0,Zpo,Ydo]
theorem Yab (c:GConf):Znh c=some (decide (1≤c.quantum∧c.quantum≤4)&&decide (1≤c.maxSplit∧c.maxSplit≤12)&&decide (Wi c≠0)):=by
 have:=Zym c
 unfold Znh Wi
 simp only[Yg,Zpo,Option.bind_some]
 by_cases h1:1≤c.quantum∧c.quantum≤4
 ·by_cases h2:Zct c=0
  ·simp[h2]
  ·have h3:Zct c > 0:=by omega
   by_cases h4:1≤c.maxSplit∧c.maxSplit≤12
   ·by_cases h5:1≤c.lockMost∧c.lockMost≤40
    ·have:¬(2*Zct c+c.lockMost=0):=by omega
     simp[h1,h2,h3,h4,h5,this]
    ·simp[h1,h2,h3,h4,h5]
   ·simp[h1,h2,h3,h4]
 ·simp[h1]
theorem Z4g (xs:List GMConf):∀(n:Int),0≤n→n+xs.length < 4611686018427387904→∀{ρ:Type} (fin:Int→Option ρ),runL (fun (a:GMConf) n=>some (.inl (if a.prio=true then addW n 1 else n))) fin xs n=fin (n+(xs.countP (·.prio):Nat)):=by
 induction xs with
 | nil=>intro n _ _ ρ fin;simp[runL]
 | cons a l ih=>
  intro n h0 hl ρ fin
  simp only[List.length_cons] at hl
  simp only[runL,Option.bind_some,List.countP_cons]
  by_cases h:a.prio=true
  ·rw[if_pos h,Zr (by omega) (by omega),ih _ (by omega) (by omega),if_pos h]
   congr 1;omega
  ·rw[if_neg h,ih _ (by omega) (by omega),if_neg h]
   congr 1
theorem Yi6 (c:GConf) (hl:c.masters.length < 1048577):Zvk c=some (Xv c:Int):=by
 unfold Zvk
 rw[Zxj c.masters (by omega) (fun (a:GMConf) n=>some (.inl (if a.prio=true then addW n 1 else n))) some (Zlc c) (fun m s i=>?_) 0,Z4g _ _ (by omega) (by omega)]
 ·simp[Xv]
 ·show Zop c _ s i=_
  unfold Zop
  congr 1;congr 1;funext a
  by_cases h:a.prio=true<;>simp[h,goL]
theorem Z8d (c:GConf):Xv c≤c.masters.length:=List.countP_le_length
theorem Ybd (c:GConf) (hl:c.masters.length < 1048577):0≤Wi c*(Xv c:Int)∧Wi c*(Xv c:Int)≤136314880:=by
 have h1:=Zso c
 have h2:=Z8d c
 constructor
 ·exact Int.mul_nonneg h1.1 (by omega)
 ·have h3:Wi c*(Xv c:Int)≤130*(Xv c:Int):=Int.mul_le_mul_of_nonneg_right h1.2 (by omega)
  omega
theorem Z4f (c:GConf) (hl:c.masters.length < 1048577):Zkh c=some (2*Wi c*Xv c):=by
 have h1:=Zso c
 have h2:=Ybd c hl
 unfold Zkh
 rw[Z3d,Option.bind_some,Yi6 c hl,Option.bind_some]
 rw[K8 (a:=2) (by omega) (by omega),K8 (by rw[Int.mul_assoc];omega) (by rw[Int.mul_assoc];omega)]
theorem Z9x (c:GConf) (m:GMConf) (hl:c.masters.length < 1048577):Zns m c=some (!Xj c m):=by
 unfold Zns Xj
 simp only[Y0,Option.bind_some,Z4f c hl]
 by_cases h1:1≤m.weight∧m.weight≤4
 ·by_cases h2:m.prio=true
  ·by_cases h3:2*Wi c*Xv c≤m.every∧m.every≤1000
   ·simp[h1,h2,h3]
   ·simp[h1,h2,h3]
  ·by_cases h3:m.every=0
   ·simp[h1,h2,h3]
   ·simp[h1,h2,h3]
 ·simp[h1]
theorem Ydn (c:GConf) (xs:List GMConf) (hl:c.masters.length < 1048577) (hx:xs.length < 4611686018427387904):Yz xs c=some (!xs.all (Xj c)):=by
 unfold Yz Wd
 have key:∀(m k:Nat),k≤xs.length→xs.length - k < m→∃r,Z3 xs c m k=some r∧decide (r≥0)=!(xs.drop k).all (Xj c):=by
  intro m
  induction m with
  | zero=>intro k _ h;omega
  | succ m ih=>
   intro k hk hm
   have e:Z3 xs c (m+1) k=Xt xs c (Z3 xs c m) k:=rfl
   rw[e]
   unfold Xt
   by_cases hc:k < xs.length
   ·have h1:decide ((k:Int) < (xs.length:Int))=true:=by simpa using hc
    rw[if_pos h1,Yc hc,Option.bind_some,Z9x c _ hl,Option.bind_some,List.drop_eq_getElem_cons hc,List.all_cons]
    by_cases hq:Xj c xs[k]=true
    ·have h2:¬(!Xj c xs[k])=true:=by simp[hq]
     rw[if_neg h2,Yo (by omega),hq,Bool.true_and]
     exact ih (k+1) (by omega) (by omega)
    ·have h2:(!Xj c xs[k])=true:=by simpa using hq
     rw[if_pos h2]
     refine⟨_,rfl,?_⟩
     simp[hq]
   ·have h1:¬decide ((k:Int) < (xs.length:Int))=true:=by simpa using hc
    rw[if_neg h1,List.drop_eq_nil_of_le (by omega)]
    exact⟨_,rfl,by simp⟩
 obtain⟨r,hr,hq⟩:=key FU 0 (Nat.zero_le _) (by have:=Y5;omega)
 rw[show ((0:Nat):Int)=0 from rfl] at hr
 rw[hr,Option.bind_some,hq,List.drop_zero]
theorem Zpb (c:GConf) (hl:c.masters.length < 1048577):Zgg c=some (Zz c):=by
 unfold Zgg Zz
 simp only[Y0,Option.bind_some,Z3d,Ydn c c.masters hl (by omega),Bool.not_not]
 by_cases h1:1≤(c.masters.length:Int)∧(c.masters.length:Int)≤4
 ·by_cases h2:1≤c.quantum∧c.quantum≤4
  ·by_cases h3:1≤c.maxSplit∧c.maxSplit≤12
   ·by_cases h4:Wi c=0<;>simp[h1,h2,h3,h4]
   ·simp[h1,h2,h3]
  ·simp[h1,h2]
 ·simp[h1]
theorem Yl5 (c:GConf) (m:GMConf) (hl:c.masters.length < 1048577) (k:Option Bool):
  ((Zk m.weight 1 4).bind fun r1102=>
  if (!r1102)=true then some false
  else if (!m.prio)=true then
    if decide (m.every≠0)=true then some false
    else if decide (m.cap≠0)=true then some false
     else if m.prio=true then
       (Zav c).bind fun r1128=>
       (Zk m.every (mulW (mulW 2 (Xv c:Int)) r1128) 1000).bind fun r1130=>
       if (!r1130)=true then some false
       else (Zk m.cap 1 8).bind fun r1135=>if (!r1135)=true then some false else k
      else k
   else if m.prio=true then
     (Zav c).bind fun r1128=>
     (Zk m.every (mulW (mulW 2 (Xv c:Int)) r1128) 1000).bind fun r1130=>
     if (!r1130)=true then some false
     else (Zk m.cap 1 8).bind fun r1135=>if (!r1135)=true then some false else k
    else k)=if Xj c m=true then k else some false:=by
 have h1:=Zso c
 have h2:=Ybd c hl
 have h3:=Z8d c
 have e:mulW (mulW 2 (Xv c:Int)) (Wi c)=2*Wi c*Xv c:=by
  have e2:2*(Xv c:Int)*Wi c=2*(Wi c*(Xv c:Int)):=by rw[Int.mul_assoc,Int.mul_comm (Xv c:Int)]
  rw[K8 (a:=2) (by omega) (by omega),K8 (by rw[e2];omega) (by rw[e2];omega),e2,Int.mul_assoc]
 unfold Xj
 simp only[Yg,Option.bind_some,Zvx,e]
 by_cases h1:1≤m.weight∧m.weight≤4
 ·by_cases h2:m.prio=true
  ·by_cases h3:2*Wi c*Xv c≤m.every∧m.every≤1000
   ·by_cases h4:1≤m.cap∧m.cap≤8<;>simp[h1,h2,h3,h4]
   ·simp[h1,h2,h3]
  ·by_cases h3:m.every=0
   ·by_cases h4:m.cap=0<;>simp[h1,h2,h3,h4]
   ·simp[h1,h2,h3]
 ·simp[h1]
theorem Z6n (c:GConf) (hl:c.masters.length < 1048577):Kp c FU (Xv c:Int) 0=some (Zz c):=by
 have key:∀(m k:Nat),k≤c.masters.length→c.masters.length - k < m→Kp c m (Xv c:Int) k=some (decide (1≤(c.masters.length:Int)∧(c.masters.length:Int)≤4)&&decide (1≤c.quantum∧c.quantum≤4)&&decide (1≤c.maxSplit∧c.maxSplit≤12)&&decide (Wi c≠0)&&(c.masters.drop k).all (Xj c)):=by
  intro m
  induction m with
  | zero=>intro k _ h;omega
  | succ m ih=>
   intro k hk hm
   have e:Kp c (m+1) (Xv c:Int) k=Zm0 c (Kp c m) (Xv c:Int) k:=rfl
   rw[e]
   unfold Zm0
   by_cases hc:k < c.masters.length
   ·have h1:decide ((k:Int) < (c.masters.length:Int))=true:=by simpa using hc
    rw[if_pos h1,Yc hc,Option.bind_some,Yl5 c _ hl,List.drop_eq_getElem_cons hc,List.all_cons,Yo (by omega),ih (k+1) (by omega) (by omega)]
    by_cases hq:Xj c c.masters[k]=true
    ·simp[hq]
    ·simp[hq]
   ·have h1:¬decide ((k:Int) < (c.masters.length:Int))=true:=by simpa using hc
    rw[if_neg h1,List.drop_eq_nil_of_le (by omega),Yg,Option.bind_some,Yab]
    by_cases h2:1≤(c.masters.length:Int)∧(c.masters.length:Int)≤4
    ·simp[h2]
    ·simp[h2]
 have:=key FU 0 (Nat.zero_le _) (by have:=Y5;omega)
 simpa [Zz] using this
theorem Zd3 (c:GConf) (hl:c.masters.length < 1048577):Zaw c=some (Zz c):=by
 unfold Zaw
 rw[Zxj c.masters (by omega) (fun (a:GMConf) n=>some (.inl (if a.prio=true then addW n 1 else n))) (fun n=>Kp c FU n 0) (Zju c) (fun m s i=>?_) 0,Z4g _ _ (by omega) (by omega)]
 ·rw[show (0:Int)+(c.masters.countP (·.prio):Nat)=(Xv c:Int) by simp[Xv]]
  exact Z6n c hl
 ·show Zm9 c _ s i=_
  unfold Zm9
  congr 1;congr 1;funext a
  by_cases h:a.prio=true<;>simp[h,goL]
def Zww (c:GConf) (i:Int):Int:=((c.masters[i.toNat]?).map (·.weight)).getD 0
def Za (c:GConf) (i:Int):Bool:=decide (0≤i∧i < (c.masters.length:Int))
def Zea (c:GConf) (i:Int):Int:=if Zz c=true∧Za c i=true then Zww c i*c.quantum else 0
theorem Z4q {c:GConf} {i:Int} (h:Za c i=true):∃m,idx c.masters i=some m∧m∈c.masters∧m.weight=Zww c i:=by
 simp only[Za,decide_eq_true_eq] at h
 obtain⟨k,rfl⟩:∃k:Nat,i=k:=⟨i.toNat,by omega⟩
 have hk:k < c.masters.length:=by omega
 refine⟨c.masters[k],Yc hk,List.getElem_mem hk,?_⟩
 simp[Zww,hk]
theorem Z2i {c:GConf} {m:GMConf} (h:Zz c=true) (hm:m∈c.masters):1≤m.weight∧m.weight≤4:=by
 simp only[Zz,Bool.and_eq_true,List.all_eq_true] at h
 have:=h.2 m hm
 simp only[Xj,Bool.and_eq_true,decide_eq_true_eq] at this
 exact this.1
theorem Z1e {c:GConf} (h:Zz c=true):1≤c.quantum∧c.quantum≤4:=by
 simp only[Zz,Bool.and_eq_true,decide_eq_true_eq] at h
 exact h.1.1.1.2
theorem Ybl {c:GConf} {i:Int} (h:Zz c=true) (hm:Za c i=true):1≤Zww c i∧Zww c i≤4:=by
 obtain⟨m,_,h1,h2⟩:=Z4q hm
 rw[←h2];exact Z2i h h1
theorem Ycg {a b:Int} (h1:1≤a) (h2:a≤4) (h3:1≤b) (h4:b≤4):1≤a*b∧a*b≤16:=by
 have:a=1∨a=2∨a=3∨a=4:=by omega
 rcases this with rfl|rfl|rfl|rfl<;>omega
theorem Zvd {c:GConf} {i:Int} (h:Zz c=true) (hm:Za c i=true):1≤Zea c i∧Zea c i≤16:=by
 unfold Zea
 rw[if_pos ⟨h,hm⟩]
 have h1:=Ybl h hm
 have h2:=Z1e h
 exact Ycg h1.1 h1.2 h2.1 h2.2
theorem Yg6 {c:GConf} {i:Int}:Zea c i=0↔¬(Zz c=true∧Za c i=true):=by
 constructor
 ·intro h hc
  have:=Zvd hc.1 hc.2
  omega
 ·intro h;unfold Zea;rw[if_neg h]
theorem Zow (c:GConf) (i:Int):0≤Zea c i∧Zea c i≤16:=by
 by_cases h:Zz c=true∧Za c i=true
 ·have:=Zvd h.1 h.2;omega
 ·rw[Yg6.2 h];omega
theorem Zwl {c:GConf} (i:Int) (hl:c.masters.length < 1048577):decide (0≤i∧i≤subW (c.masters.length:Int) 1)=Za c i:=by
 rw[Z9 (by omega) (by omega)]
 unfold Za
 congr 1
 apply propext
 omega
theorem Zo8 (c:GConf) (i:Int) (hl:c.masters.length < 1048577):Zfr c i=some (Zea c i):=by
 unfold Zfr
 rw[Zd3 c hl,Option.bind_some,Yg,Option.bind_some,Zwl i hl]
 unfold Zje
 by_cases h1:Zz c=true
 ·by_cases h2:Za c i=true
  ·obtain⟨m,hm1,hm2,hm3⟩:=Z4q h2
   have hw:=Z2i h1 hm2
   have hq:=Z1e h1
   have:=Ycg hw.1 hw.2 hq.1 hq.2
   simp only[h1,h2,hm1,Bool.not_true,Bool.false_eq_true,if_false,Option.bind_some]
   rw[K8 (by omega) (by omega)]
   simp[Zea,h1,h2,hm3]
  ·simp[Zea,h1,h2]
 ·simp[Zea,h1]
theorem Qk (c:GConf) (i:Int) (hl:c.masters.length < 1048577):Qh c i=some (Za c i):=by
 unfold Qh
 rw[Y0,Option.bind_some,Zwl i hl]
theorem Zv9 (c:GConf) (i:Int) (hl:c.masters.length < 1048577):Zjx c i=some (Zea c i):=by
 rw[←Zo8 c i hl]
 unfold Zjx Zfr
 rw[Zd3 c hl,Zpb c hl,Qk c i hl,Yg,Zwl i hl]
 rfl
theorem Jq (a b:Int):minI a b=min a b:=by unfold minI;omega
theorem Zkl (a b:Int):maxI a b=max a b:=by unfold maxI;omega
theorem Wy {c:GConf} (h:Zz c=true):1≤(c.masters.length:Int)∧(c.masters.length:Int)≤4:=by
 simp only[Zz,Bool.and_eq_true,decide_eq_true_eq] at h
 exact h.1.1.1.1
theorem Jv {c:GConf} (h:Zz c=true):c.masters.length < 1048577:=by have:=Wy h;omega
instance:Inhabited GMConf:=⟨GMConf.z0⟩
instance:Inhabited GBucket:=⟨GBucket.z0⟩
theorem Zez {c:GConf} {i:Int} (h:Zz c=true) (hm:Za c i=true):Xj c (atI c.masters i)=true:=by
 simp only[Za,decide_eq_true_eq] at hm
 have:=Zb3 hm.1 hm.2
 simp only[Zz,Bool.and_eq_true,List.all_eq_true] at h
 exact h.2 _ this
theorem Za5 {c:GConf} {m:GMConf} (h:Xj c m=true):-1≤m.every∧m.every≤1000∧0≤m.cap∧m.cap≤8:=by
 have h1:=Zso c
 have h2:0≤2*Wi c*(Xv c:Int):=Int.mul_nonneg (by omega) (by omega)
 simp only[Xj,Bool.and_eq_true,decide_eq_true_eq] at h
 obtain⟨h3,h4⟩:=h
 split at h4
 ·simp only[Bool.and_eq_true,decide_eq_true_eq] at h4;omega
 ·simp only[Bool.and_eq_true,decide_eq_true_eq] at h4;omega
def Z0 (b:GBucket) (m:GMConf):Bool:=if m.prio then decide (0≤b.tokens∧b.tokens≤m.cap)&&decide (0≤b.count∧b.count < m.every) else decide (b.tokens=0)&&decide (b.count=0)
def Zoa (b:GBucket) (m:GMConf):GBucket:=if (m.prio&&Z0 b m)=true then (if b.count+1=m.every then ⟨min (b.tokens+1) m.cap,0⟩ else ⟨b.tokens,b.count+1⟩) else b
def Zc7 (b:GBucket) (m:GMConf):GBucket×Bool:=if (m.prio&&Z0 b m&&decide (b.tokens≠0))=true then (⟨b.tokens - 1,b.count⟩,true) else (b,false)
def Zt3 (b:GBucket) (m:GMConf):GBucket:=if (m.prio&&Z0 b m)=true then ⟨min (b.tokens+1) m.cap,b.count⟩ else b
def Zo9 (m:GMConf):GBucket:=if m.prio then ⟨max m.cap 0,0⟩ else ⟨0,0⟩
theorem Zla (b:GBucket) {m:GMConf} (h:-1≤m.every∧m.every≤1000):Zbq b m=some (Z0 b m):=by
 unfold Zbq Z0
 rw[Yg,Option.bind_some,Yg,Option.bind_some,Z9 (by omega) (by omega)]
 by_cases h1:m.prio=true
 ·have e:(0≤b.count∧b.count≤m.every - 1)↔(0≤b.count∧b.count < m.every):=by omega
  by_cases h2:0≤b.tokens∧b.tokens≤m.cap
  ·simp[h1,h2,e]
  ·simp[h1,h2]
 ·simp[h1]
theorem Zy0 (b:GBucket) (m:GMConf):Zih b m=some (Z0 b m):=by
 unfold Zih Z0
 rw[Y0,Option.bind_some]
 by_cases h1:m.prio=true
 ·by_cases h2:0≤b.tokens∧b.tokens≤m.cap
  ·by_cases h3:0≤b.count<;>simp[h1,h2,h3]
  ·simp[h1,h2]
 ·simp[h1]
theorem Zfe {b:GBucket} {c:GConf} {m:GMConf} (h:Z0 b m=true) (hm:Xj c m=true):0≤b.tokens∧b.tokens≤8∧0≤b.count∧b.count≤1000:=by
 have:=Za5 hm
 unfold Z0 at h
 split at h<;>simp only[Bool.and_eq_true,decide_eq_true_eq] at h<;>omega
theorem Z4h (b:GBucket) {c:GConf} {m:GMConf} (h:Xj c m=true):Zkc b m=some (Zoa b m):=by
 have hm:=Za5 h
 unfold Zkc Zcu Zoa
 rw[Zla b ⟨hm.1,hm.2.1⟩,Option.bind_some]
 by_cases h1:m.prio=true
 ·by_cases h2:Z0 b m=true
  ·have:=Zfe h2 h
   simp only[h1,h2,Bool.not_true,Bool.false_eq_true,if_false,Bool.and_self,if_true]
   rw[Zr (by omega) (by omega),Zr (by omega) (by omega),Jq,Int.min_comm]
   by_cases h3:b.count+1=m.every<;>simp[h3]
  ·simp[h1,h2]
 ·simp[h1]
theorem Zv1 (b:GBucket) (m:GMConf):Zj1 b m=some (m.prio&&Z0 b m):=by
 unfold Zj1
 rw[Zy0,Option.bind_some]
 by_cases h1:m.prio=true<;>simp[h1]
theorem Z4p (b:GBucket) {c:GConf} {m:GMConf} (h:Xj c m=true):Zjv b m=some (Zoa b m):=by
 unfold Zjv Zoa
 rw[Zv1,Option.bind_some]
 by_cases h1:(m.prio&&Z0 b m)=true
 ·have h2:Z0 b m=true:=by simp only[Bool.and_eq_true] at h1;exact h1.2
  have:=Zfe h2 h
  rw[if_neg (by simp[h1]),if_pos h1,Zr (by omega) (by omega),Zr (by omega) (by omega),Jq]
  by_cases h3:b.count+1=m.every<;>simp[h3]
 ·rw[if_pos (by cases hq:(m.prio&&Z0 b m)<;>simp_all),if_neg h1]
theorem Z5f (b:GBucket) {c:GConf} {m:GMConf} (h:Xj c m=true):Zj2 b m=some (Zc7 b m):=by
 have hm:=Za5 h
 unfold Zj2 J2 Zc7
 rw[Zla b ⟨hm.1,hm.2.1⟩,Option.bind_some]
 by_cases h1:m.prio=true
 ·by_cases h2:Z0 b m=true
  ·have:=Zfe h2 h
   rw[Z9 (by omega) (by omega)]
   by_cases h3:b.tokens=0<;>simp[h1,h2,h3]
  ·simp[h1,h2]
 ·simp[h1]
theorem Z42 (b:GBucket) {c:GConf} {m:GMConf} (h:Xj c m=true):Zjt b m=some (Zc7 b m):=by
 unfold Zjt Zcw Zc7
 rw[Zv1,Option.bind_some]
 by_cases h1:(m.prio&&Z0 b m)=true
 ·have h2:Z0 b m=true:=by simp only[Bool.and_eq_true] at h1;exact h1.2
  have:=Zfe h2 h
  rw[Z9 (by omega) (by omega)]
  by_cases h3:b.tokens=0<;>simp[h1,h3]
 ·simp[h1]
theorem Z4x (b:GBucket) {c:GConf} {m:GMConf} (h:Xj c m=true):Zkj b m=some (Zt3 b m):=by
 have hm:=Za5 h
 unfold Zkj Zc3 Zt3
 rw[Zla b ⟨hm.1,hm.2.1⟩,Option.bind_some]
 by_cases h1:m.prio=true
 ·by_cases h2:Z0 b m=true
  ·have:=Zfe h2 h
   simp only[h1,h2,if_true,Bool.and_self]
   rw[Zr (by omega) (by omega),Jq,Int.min_comm]
  ·simp[h1,h2]
 ·simp[h1]
theorem Z57 (b:GBucket) {c:GConf} {m:GMConf} (h:Xj c m=true):Zkd b m=some (Zt3 b m):=by
 unfold Zkd Zt3
 rw[Zv1,Option.bind_some]
 by_cases h1:(m.prio&&Z0 b m)=true
 ·have h2:Z0 b m=true:=by simp only[Bool.and_eq_true] at h1;exact h1.2
  have h4:m.prio=true:=by simp only[Bool.and_eq_true] at h1;exact h1.1
  have:=Zfe h2 h
  have h5:b.tokens≤m.cap:=by
   unfold Z0 at h2
   rw[if_pos h4] at h2
   simp only[Bool.and_eq_true,decide_eq_true_eq] at h2
   exact h2.1.2
  rw[if_pos h1,if_pos h1,Zr (by omega) (by omega)]
  by_cases h3:b.tokens < m.cap
  ·rw[if_pos (by simpa using h3),Int.min_eq_left (by omega)]
  ·rw[if_neg (by simpa using h3),Int.min_eq_right (by omega)]
   have:b.tokens=m.cap:=by omega
   rw[←this]
 ·rw[if_neg h1,if_neg h1]
theorem Z71 (m:GMConf):Zll m=some (Zo9 m):=by
 unfold Zll Zo9
 rw[Zkl,Int.max_comm]
 by_cases h1:m.prio=true<;>simp[h1]
theorem Z7f (m:GMConf):Zlk m=some (Zo9 m):=by
 unfold Zlk Zo9
 rw[Zkl]
 by_cases h1:m.prio=true<;>simp[h1]
theorem Ypq {c:GConf} {m:GMConf} (h:Xj c m=true) (hs:0 < Wi c∧(m.prio=true→0 < Xv c)):Z0 (Zo9 m) m=true:=by
 have hm:=Za5 h
 unfold Z0 Zo9
 by_cases h1:m.prio=true
 ·simp only[h1,if_true,Bool.and_eq_true,decide_eq_true_eq]
  simp only[Xj,h1,if_true,Bool.and_eq_true,decide_eq_true_eq] at h
  have h2:0 < Wi c*(Xv c:Int):=Int.mul_pos hs.1 (by have:=hs.2 h1;omega)
  have h3:2*Wi c*(Xv c:Int)=2*(Wi c*(Xv c:Int)):=Int.mul_assoc ..
  omega
 ·simp[h1]
theorem Ypj {b:GBucket} {c:GConf} {m:GMConf} (h:Z0 b m=true) (hm:Xj c m=true):Z0 (Zoa b m) m=true:=by
 have hb:=Za5 hm
 have hn:=Zfe h hm
 unfold Zoa
 split
 ·rename_i h1
  simp only[Bool.and_eq_true] at h1
  unfold Z0 at h
  rw[if_pos h1.1] at h
  simp only[Bool.and_eq_true,decide_eq_true_eq] at h
  split
  ·unfold Z0
   rw[if_pos h1.1]
   simp only[Bool.and_eq_true,decide_eq_true_eq]
   omega
  ·unfold Z0
   rw[if_pos h1.1]
   simp only[Bool.and_eq_true,decide_eq_true_eq]
   omega
 ·exact h
theorem Yps {b:GBucket} {c:GConf} {m:GMConf} (h:Z0 b m=true) (hm:Xj c m=true):Z0 (Zc7 b m).1 m=true:=by
 unfold Zc7
 split
 ·rename_i h1
  simp only[Bool.and_eq_true,decide_eq_true_eq] at h1
  unfold Z0 at h ⊢
  rw[if_pos h1.1.1] at h ⊢
  simp only[Bool.and_eq_true,decide_eq_true_eq] at h ⊢
  omega
 ·exact h
theorem Yn2 {b:GBucket} {c:GConf} {m:GMConf} (h:Z0 b m=true) (hm:Xj c m=true):Z0 (Zt3 b m) m=true:=by
 have hb:=Za5 hm
 unfold Zt3
 split
 ·rename_i h1
  simp only[Bool.and_eq_true] at h1
  unfold Z0 at h ⊢
  rw[if_pos h1.1] at h ⊢
  simp only[Bool.and_eq_true,decide_eq_true_eq] at h ⊢
  omega
 ·exact h
def wrrG (w:GWrr) (c:GConf):Bool:=Zz c&&(Za c w.at_&&decide (0≤w.credit∧w.credit≤Zea c w.at_))
theorem Zxf (w:GWrr) (c:GConf) (hl:c.masters.length < 1048577):Zl9 w c=some (wrrG w c):=by
 unfold Zl9 wrrG
 rw[Zd3 c hl,Option.bind_some,Yg,Option.bind_some,Zwl _ hl,Zo8 c _ hl,Option.bind_some,Yg,Option.bind_some]
 by_cases h1:Zz c=true<;>by_cases h2:Za c w.at_=true<;>simp[h1,h2]
theorem Zx7 (w:GWrr) (c:GConf) (hl:c.masters.length < 1048577):Zig w c=some (wrrG w c):=by
 unfold Zig wrrG
 rw[Zpb c hl,Option.bind_some,Qk c _ hl,Option.bind_some,Zv9 c _ hl,Option.bind_some,Y0,Option.bind_some]
 by_cases h1:Zz c=true<;>by_cases h2:Za c w.at_=true<;>simp[h1,h2]
def Ze1 (w:GWrr) (c:GConf) (wants:List Bool):Nat→Int→GWrr×Int
 | 0,_=>(⟨w.at_,0⟩,-1)
 | r+1,k=>if atI wants ((w.at_+k) % (wants.length:Int))=true then (⟨(w.at_+k) % (wants.length:Int),Zea c ((w.at_+k) % (wants.length:Int)) - 1⟩,(w.at_+k) % (wants.length:Int)) else Ze1 w c wants r (k+1)
def Qy (w:GWrr) (c:GConf) (wants:List Bool):GWrr×Int:=if (decide (0 < w.credit)&&atI wants w.at_)=true then (⟨w.at_,w.credit - 1⟩,w.at_) else Ze1 w c wants wants.length 1
def Zst (w:GWrr) (c:GConf) (who:Int):GWrr:=if w.at_=who then ⟨w.at_,min (w.credit+1) (Zea c who)⟩ else w
theorem Zdd {w:GWrr} {c:GConf} (h:wrrG w c=true):Zz c=true∧Za c w.at_=true∧0≤w.credit∧w.credit≤Zea c w.at_:=by
 simp only[wrrG,Bool.and_eq_true,decide_eq_true_eq] at h
 exact⟨h.1,h.2.1,h.2.2.1,h.2.2.2⟩
theorem Ygl (w:GWrr) (c:GConf) (wants:List Bool) (h:wrrG w c=true) (hn:wants.length=c.masters.length):∀(m r:Nat) (k:Int),r < m→k+r=wants.length+1→1≤k→Zhw w c wants m k=some (Ze1 w c wants r k)∧Zh0 w c wants m k=some (Ze1 w c wants r k):=by
 obtain⟨hc,hm,h1,h2⟩:=Zdd h
 have hl:=Wy hc
 have hl2:=Jv hc
 simp only[Za,decide_eq_true_eq] at hm
 intro m
 induction m with
 | zero=>intro r k hr;omega
 | succ m ih=>
  intro r k hr hk h1k
  show Zlx w c wants _ k=_∧Zl5 w c wants _ k=_
  unfold Zlx Zl5
  rw[←hn]
  cases r with
  | zero=>
   rw[if_neg (by simp;omega),if_neg (by simp;omega)]
   exact⟨rfl,rfl⟩
  | succ r=>
   have h0:0≤(w.at_+k) % (wants.length:Int):=Int.emod_nonneg _ (by omega)
   have h0':(w.at_+k) % (wants.length:Int) < (wants.length:Int):=Int.emod_lt_of_pos _ (by omega)
   have hmm:Za c ((w.at_+k) % (wants.length:Int))=true:=by
    simp only[Za,decide_eq_true_eq];omega
   have ht:=Zvd hc hmm
   rw[if_pos (by simp;omega),if_pos (by simp;omega),Zis (by omega),Option.bind_some,Option.bind_some,Zr (a:=w.at_) (by omega) (by omega),Zbg (by omega),Yi h0 h0',Option.bind_some,Option.bind_some,Zv9 c _ hl2,Zo8 c _ hl2,Option.bind_some,Z9 (by omega) (by omega),Zr (a:=k) (by omega) (by omega)]
   have:=ih r (k+1) (by omega) (by omega) (by omega)
   simp only[Ze1]
   by_cases hq:atI wants ((w.at_+k) % (wants.length:Int))=true
   ·simp[hq]
   ·simp only[hq,if_false,Bool.false_eq_true]
    exact this
theorem Ybk (w:GWrr) (c:GConf) (wants:List Bool) (h:wrrG w c=true) (hn:wants.length=c.masters.length):Zpi w c wants=some (Qy w c wants):=by
 obtain⟨hc,hm,h1,h2⟩:=Zdd h
 have hl:=Wy hc
 have hl2:=Jv hc
 simp only[Za,decide_eq_true_eq] at hm
 have hs:=(Ygl w c wants h hn FU wants.length 1 (by have:=Y5;omega) (by omega) (by omega)).1
 have ht:=Zow c w.at_
 unfold Zpi Zhg Zhj Qy
 rw[Zx7 w c hl2,Option.bind_some,h,Yi hm.1 (by omega),Option.bind_some,hs,Z9 (by omega) (by omega)]
 have h3:¬((wants.length:Int)≠(c.masters.length:Int)):=by omega
 by_cases h4:0 < w.credit<;>by_cases h5:atI wants w.at_=true<;>simp[h3,h4,h5]
theorem Ycl (w:GWrr) (c:GConf) (wants:List Bool) (h:wrrG w c=true) (hn:wants.length=c.masters.length):Zpf w c wants=some (Qy w c wants):=by
 obtain⟨hc,hm,h1,h2⟩:=Zdd h
 have hl:=Wy hc
 have hl2:=Jv hc
 simp only[Za,decide_eq_true_eq] at hm
 have hs:=(Ygl w c wants h hn FU wants.length 1 (by have:=Y5;omega) (by omega) (by omega)).2
 have ht:=Zow c w.at_
 unfold Zpf Zib Zh6 Qy
 rw[Zxf w c hl2,Option.bind_some,h,Yi hm.1 (by omega),Option.bind_some,hs,Z9 (by omega) (by omega)]
 have h3:¬((wants.length:Int)≠(c.masters.length:Int)):=by omega
 by_cases h4:0 < w.credit<;>by_cases h5:atI wants w.at_=true<;>simp[h3,h4,h5]
theorem Ybv (w:GWrr) (c:GConf) (who:Int) (h:wrrG w c=true):Zph w c who=some (Zst w c who):=by
 obtain⟨hc,hm,h1,h2⟩:=Zdd h
 have hl2:=Jv hc
 have ht:=Zow c w.at_
 unfold Zph Zh4 Zst
 rw[Zxf w c hl2,Option.bind_some,h,Zo8 c _ hl2,Option.bind_some,Zr (by omega) (by omega),Jq,Int.min_comm]
 by_cases h4:w.at_=who<;>simp[h4]
theorem Ydj (w:GWrr) (c:GConf) (who:Int) (h:wrrG w c=true):Zpr w c who=some (Zst w c who):=by
 obtain⟨hc,hm,h1,h2⟩:=Zdd h
 have hl2:=Jv hc
 have ht:=Zow c w.at_
 unfold Zpr Zg7 Zst
 rw[Zx7 w c hl2,Option.bind_some,h,Zv9 c _ hl2,Option.bind_some,Zr (by omega) (by omega),Jq]
 by_cases h4:w.at_=who
 ·simp[h4]
 ·have:¬who=w.at_:=fun h=>h4 h.symm
  simp[h4,this]
theorem Ymd {w:GWrr} {c:GConf} (who:Int) (h:wrrG w c=true):wrrG (Zst w c who) c=true:=by
 obtain⟨hc,hm,h1,h2⟩:=Zdd h
 unfold Zst
 split
 ·rename_i h4
  subst h4
  have ht:=Zow c w.at_
  simp only[wrrG,Bool.and_eq_true,decide_eq_true_eq]
  exact⟨hc,hm,by omega,by omega⟩
 ·exact h
theorem Yl3 {w:GWrr} {c:GConf} {wants:List Bool} (h:wrrG w c=true) (hn:wants.length=c.masters.length):∀(r:Nat) (k:Int),1≤k→wrrG (Ze1 w c wants r k).1 c=true∧((Ze1 w c wants r k).2=-1∨(Za c (Ze1 w c wants r k).2=true∧atI wants (Ze1 w c wants r k).2=true)):=by
 obtain⟨hc,hm,h1,h2⟩:=Zdd h
 have hl:=Wy hc
 intro r
 induction r with
 | zero=>
  intro k _
  refine⟨?_,.inl rfl⟩
  simp only[Ze1]
  simp only[wrrG,Bool.and_eq_true,decide_eq_true_eq]
  exact⟨hc,hm,by omega,by omega⟩
 | succ r ih=>
  intro k hk
  simp only[Ze1]
  split
  ·rename_i hq
   have h0:0≤(w.at_+k) % (wants.length:Int):=Int.emod_nonneg _ (by omega)
   have h0':(w.at_+k) % (wants.length:Int) < (wants.length:Int):=Int.emod_lt_of_pos _ (by omega)
   have hmm:Za c ((w.at_+k) % (wants.length:Int))=true:=by
    simp only[Za,decide_eq_true_eq];omega
   have ht:=Zvd hc hmm
   refine⟨?_,.inr ⟨hmm,hq⟩⟩
   simp only[wrrG,Bool.and_eq_true,decide_eq_true_eq]
   exact⟨hc,hmm,by omega,by omega⟩
  ·exact ih (k+1) (by omega)
theorem Yc9 {w:GWrr} {c:GConf} {wants:List Bool} (h:wrrG w c=true) (hn:wants.length=c.masters.length):wrrG (Qy w c wants).1 c=true∧((Qy w c wants).2=-1∨(Za c (Qy w c wants).2=true∧atI wants (Qy w c wants).2=true)):=by
 obtain⟨hc,hm,h1,h2⟩:=Zdd h
 unfold Qy
 split
 ·rename_i h3
  simp only[Bool.and_eq_true,decide_eq_true_eq] at h3
  refine⟨?_,.inr ⟨hm,h3.2⟩⟩
  simp only[wrrG,Bool.and_eq_true,decide_eq_true_eq]
  exact⟨hc,hm,by omega,by omega⟩
 ·exact Yl3 h hn _ _ (by omega)
def Z2 (s:Int):Int:=if s=0 then 1 else if s=1 then 2 else if s=2 then 4 else 0
def Zcy (s:Int):Int:=if s=0 then 256 else if s=1 then 65536 else if s=2 then 4294967296 else 0
def Yl (b:Int):Int:=if b=0 then 1 else if b=1 then 4 else if b=2 then 4 else if b=3 then 8 else 0
theorem Ze8 (s:Int):0≤Z2 s∧Z2 s≤4:=by unfold Z2;repeat' split<;>omega
theorem Zu9 (s:Int):0≤Zcy s∧Zcy s≤4294967296:=by unfold Zcy;repeat' split<;>omega
theorem Zdb (b:Int):0≤Yl b∧Yl b≤8:=by unfold Yl;repeat' split<;>omega
theorem Q4 (s:Int):W0 s=some (Z2 s):=by
 unfold W0
 rw[Yg,Option.bind_some]
 by_cases h:0≤s∧s≤2
 ·have:s=0∨s=1∨s=2:=by omega
  rcases this with rfl|rfl|rfl<;>rfl
 ·have:Z2 s=0:=by unfold Z2;repeat' split<;>omega
  simp[h,this]
theorem Zex (s:Int):Q5 s=some (Z2 s):=by
 rw[←Q4]
 unfold Q5 W0
 rw[Y0,Yg]
theorem Zbi (b:Int):Q0 b=some (Yl b):=by
 unfold Q0
 rw[Yg,Option.bind_some]
 by_cases h:0≤b∧b≤3
 ·have:b=0∨b=1∨b=2∨b=3:=by omega
  rcases this with rfl|rfl|rfl|rfl<;>rfl
 ·have:Yl b=0:=by unfold Yl;repeat' split<;>omega
  simp[h,this]
theorem Zna (b:Int):Zd5 b=some (Yl b):=by
 rw[←Zbi]
 unfold Zd5 Q0
 rw[Y0,Yg]
theorem Q7 (s:Int):Xi s=some (Zcy s):=by
 unfold Xi
 rw[Q4,Option.bind_some,Option.bind_some]
 by_cases h:s=0∨s=1∨s=2
 ·rcases h with rfl|rfl|rfl<;>rfl
 ·have h1:Z2 s=0:=by unfold Z2;repeat' split<;>omega
  have h2:Zcy s=0:=by unfold Zcy;repeat' split<;>omega
  simp[h1,h2]
theorem Z0h (s:Int):Zkq s=some (Zcy s):=by
 rw[←Q7]
 unfold Zkq Xi
 simp only[Zex,Q4]
def numG (v s:Int):Bool:=decide (0≤v∧v < Zcy s)
theorem Zfc (v s:Int):Za9 v s=some (numG v s):=by
 have:=Zu9 s
 unfold Za9 numG
 rw[Z0h,Option.bind_some,Y0,Option.bind_some,Z9 (by omega) (by omega)]
 congr 2
 apply propext
 omega
theorem Zl4 (v s:Int):Zk v 0 (subW (Zcy s) 1)=some (numG v s):=by
 have:=Zu9 s
 unfold numG
 rw[Yg,Z9 (by omega) (by omega)]
 congr 2
 apply propext
 omega
def Yv (a s:Int):Bool:=decide (0 < Z2 s)&&(decide (0≤a)&&decide (a % Z2 s=0))
theorem Zoh (a s:Int):Ks a s=some (Yv a s):=by
 unfold Ks Yv
 rw[Q4,Option.bind_some,Option.bind_some]
 by_cases h1:0 < Z2 s
 ·by_cases h2:0≤a
  ·rw[Zis (by omega),Zbg h2];simp[h1,h2]
  ·simp[h1,h2]
 ·simp[h1]
theorem Zin (s:Int):0 < Z2 s↔(0≤s∧s≤2):=by
 unfold Z2
 repeat' split<;>omega
theorem Zn1 (a s:Int):Zdy a s=some (Yv a s):=by
 unfold Zdy Yv
 rw[Y0,Option.bind_some,Zex,Option.bind_some]
 by_cases h1:0 < Z2 s
 ·have h3:=(Zin s).1 h1
  by_cases h2:0≤a
  ·rw[Zis (by omega),Zbg h2];simp[h1,h2,h3]
  ·simp[h1,h2,h3]
 ·have h3:¬(0≤s∧s≤2):=fun h=>h1 ((Zin s).2 h)
  simp[h1,h3]
def Zhy (a s b:Int):Int:=if (Yv a s=true∧a < 512)∧Yl b≠0 then (if b=2∧(a+Z2 s) % (4*Z2 s)=0 then a+Z2 s - 4*Z2 s else a+Z2 s) else -1
theorem Jb {a s:Int} (h:Yv a s=true):0 < Z2 s∧0≤a∧a % Z2 s=0:=by
 simpa [Yv,Bool.and_eq_true,decide_eq_true_eq] using h
theorem Z9s (a s b:Int):Zit a s b=some (Zhy a s b):=by
 have hb:=Ze8 s
 unfold Zit Zbt Zgh Zhy
 rw[Q4,Option.bind_some,Zoh,Option.bind_some,Yg,Option.bind_some,Zbi,Option.bind_some]
 by_cases h1:Yv a s=true
 ·obtain⟨h2,h3,h4⟩:=Jb h1
  by_cases h5:a < 512
  ·have h6:0≤a∧a≤511:=by omega
   rw[K8 (by omega) (by omega),Zr (by omega) (by omega),Z9 (by omega) (by omega),Zis (by omega),Zbg (by omega)]
   by_cases h7:Yl b=0
   ·simp[h1,h5,h6,h7]
   ·by_cases h8:b=2
    ·subst h8
     by_cases h9:(a+Z2 s) % (4*Z2 s)=0<;>simp[h1,h5,h6,h7,h9]
    ·simp[h1,h5,h6,h7,h8]
  ·have h6:¬(0≤a∧a≤511):=by omega
   simp[h1,h5,h6]
 ·simp[h1]
theorem Z9m (a s b:Int):Zog a s b=some (Zhy a s b):=by
 have hb:=Ze8 s
 unfold Zog Zby Zhy
 rw[Zn1,Option.bind_some,Zex,Option.bind_some,Option.bind_some,Zna,Option.bind_some]
 by_cases h1:Yv a s=true
 ·obtain⟨h2,h3,h4⟩:=Jb h1
  by_cases h5:a < 512
  ·have h6:¬a≥512:=by omega
   rw[K8 (by omega) (by omega),Zr (by omega) (by omega),Z9 (by omega) (by omega),Zis (by omega),Zbg (by omega)]
   by_cases h7:Yl b=0
   ·simp[h1,h5,h6,h7]
   ·by_cases h8:b=2
    ·subst h8
     by_cases h9:(a+Z2 s) % (4*Z2 s)=0<;>simp[h1,h5,h6,h7,h9]
    ·simp[h1,h5,h6,h7,h8]
  ·have h6:a≥512:=by omega
   simp[h1,h5,h6]
 ·simp[h1]
theorem Yes {a s b:Int} (h:0≤Zhy a s b):Yv a s=true∧a < 512:=by
 unfold Zhy at h
 split at h
 ·rename_i h1;exact h1.1
 ·omega
def Zaa (s b:Int):Nat→Int→Option (List Int)
 | 0,_=>some []
 | n+1,a=>if Zhy a s b < 0 then none else (Zaa s b n (Zhy a s b)).map (a::·)
def Qi (a s b:Int):List Int:=(Zaa s b (Yl b).toNat a).getD []
theorem Zvb (a s b:Int):Zeq a s b=some (Qi a s b):=by
 have hb:=Zdb b
 unfold Zeq
 rw[Zna,Option.bind_some]
 have key:∀(n m:Nat) (x:Int) (out:List Int) (k:Nat),n < m→(k:Int)+n=Yl b→out.length=k→Zdg a s b m x out (Yl b) k=some (match Zaa s b n x with|some l=>out++l|none=>[]):=by
  intro n
  induction n with
  | zero=>
   intro m x out k hm hk ho
   obtain⟨m,rfl⟩:∃m',m=m'+1:=⟨m - 1,by omega⟩
   show Jf a s b _ x out (Yl b) k=_
   unfold Jf
   rw[if_neg (by simp;omega)]
   simp[Zaa]
  | succ n ih=>
   intro m x out k hm hk ho
   obtain⟨m,rfl⟩:∃m',m=m'+1:=⟨m - 1,by omega⟩
   show Jf a s b _ x out (Yl b) k=_
   unfold Jf
   rw[if_pos (by simp;omega),Z9m,Option.bind_some]
   simp only[Zaa]
   by_cases h1:Zhy x s b < 0
   ·rw[if_pos (by simpa using h1),if_pos h1]
   ·rw[if_neg (by simpa using h1),if_neg h1,Ys (by simp;omega) (by simp;omega),Option.bind_some,Yo (by omega),ih m _ _ (k+1) (by omega) (by omega) (by simp[ho])]
    cases Zaa s b n (Zhy x s b)<;>simp
 have:=key (Yl b).toNat FU a [] 0 (by have:=Y5;omega) (by omega) rfl
 rw[show ((0:Nat):Int)=0 from rfl] at this
 rw[this]
 unfold Qi
 cases Zaa s b (Yl b).toNat a<;>simp
theorem Zug (a s b:Int):Zev a s b=some (Qi a s b):=by
 have hb:=Zdb b
 unfold Zev
 have key:∀(n m:Nat) (x:Int) (out:List Int),n < m→(out.length:Int)+n=Yl b→Zcs a s b m x out=some (match Zaa s b n x with|some l=>out++l|none=>[]):=by
  intro n
  induction n with
  | zero=>
   intro m x out hm hk
   obtain⟨m,rfl⟩:∃m',m=m'+1:=⟨m - 1,by omega⟩
   show Jg a s b _ x out=_
   unfold Jg J7
   have h1:¬((out.length:Int) < Yl b):=by omega
   simp[Zbi,h1,Zaa]
  | succ n ih=>
   intro m x out hm hk
   obtain⟨m,rfl⟩:∃m',m=m'+1:=⟨m - 1,by omega⟩
   show Jg a s b _ x out=_
   unfold Jg J7
   have h1:(out.length:Int) < Yl b:=by omega
   simp only[Zbi,Z9s,Option.bind_some,h1,decide_true,if_true,Zaa,decide_eq_true_eq]
   by_cases h2:Zhy x s b < 0
   ·have h3:¬(Zhy x s b≥0):=by omega
    rw[if_neg h3,if_pos h2]
   ·have h3:Zhy x s b≥0:=by omega
    rw[if_pos h3,if_neg h2,Ys (by simp;omega) (by simp;omega),Option.bind_some,ih m _ _ (by omega) (by simp;omega)]
    cases Zaa s b n (Zhy x s b)<;>simp
 have:=key (Yl b).toNat FU a [] (by have:=Y5;omega) (by simp;omega)
 rw[this]
 unfold Qi
 cases Zaa s b (Yl b).toNat a<;>simp
theorem Z82 {s b:Int}:∀{n:Nat} {a:Int} {l:List Int},Zaa s b n a=some l→l.length=n∧(∀x∈l,Yv x s=true∧x < 512)∧(0 < n→l.head?=some a):=by
 intro n
 induction n with
 | zero=>intro a l h;simp only[Zaa,Option.some.injEq] at h;subst h;simp
 | succ n ih=>
  intro a l h
  simp only[Zaa] at h
  split at h
  ·cases h
  ·rename_i h1
   obtain⟨l',h2,rfl⟩:=Option.map_eq_some_iff.1 h
   obtain⟨h3,h4,_⟩:=ih h2
   refine⟨by simp[h3],fun x hx=>?_,fun _=>rfl⟩
   rcases List.mem_cons.1 hx with rfl|hx
   ·exact Yes (s:=s) (b:=b) (by omega)
   ·exact h4 x hx
theorem Z54 (a s b:Int):Qi a s b=[]∨((Qi a s b).length:Int)=Yl b:=by
 unfold Qi
 have hb:=Zdb b
 cases h:Zaa s b (Yl b).toNat a with
 | none=>exact .inl rfl
 | some l=>
  have:=(Z82 h).1
  exact .inr (by simp only[Option.getD_some];omega)
theorem Zx8 {a s b x:Int} (h:x∈Qi a s b):Yv x s=true∧0≤x∧x < 512:=by
 unfold Qi at h
 cases h2:Zaa s b (Yl b).toNat a with
 | none=>rw[h2] at h;simp at h
 | some l=>
  rw[h2] at h
  have:=(Z82 h2).2.1 x h
  exact⟨this.1,(Jb this.1).2.1,this.2⟩
theorem Z87 (a s b:Int):(Qi a s b).length≤8:=by
 have:=Zdb b
 rcases Z54 a s b with h|h
 ·rw[h];simp
 ·omega
def Zk0 (a s b:Int):Bool:=(Qi a s b).all (fun x=>decide (x / 64=atI (Qi a s b) 0 / 64))&&decide (Qi a s b≠[])
theorem Z1j {x:Int} (h0:0≤x) (h1:x < 512):quoW x 64=x / 64:=Z1t h0 (by omega) (by omega)
theorem Yc1 (a s b:Int):Zpj a s b=some (Zk0 a s b):=by
 unfold Zpj Zk0
 rw[Zvb,Option.bind_some]
 generalize hA:Qi a s b=l
 have hm:∀x∈l,0≤x∧x < 512:=fun x hx=>by rw[←hA] at hx;exact (Zx8 hx).2
 have hl:l.length≤8:=by rw[←hA];exact Z87 a s b
 have key:∀(m k:Nat),k≤l.length→l.length - k < m→Zh3 a s b m l (l.length:Int) k=some ((l.drop k).all (fun x=>decide (x / 64=atI l 0 / 64))&&decide (l≠[])):=by
  intro m
  induction m with
  | zero=>intro k _ h;omega
  | succ m ih=>
   intro k hk hm2
   show Zl7 a s b _ l (l.length:Int) k=_
   unfold Zl7
   by_cases hc:k < l.length
   ·have h0:=hm _ (List.getElem_mem hc)
    have h1:=hm _ (List.getElem_mem (by omega:0 < l.length))
    rw[if_pos (by simpa using hc),Yc hc,Option.bind_some,show (0:Int)=((0:Nat):Int) from rfl,Yc (by omega:0 < l.length),Option.bind_some,Z1j h0.1 h0.2,Z1j h1.1 h1.2,Xb (by omega:0 < l.length),List.drop_eq_getElem_cons hc,List.all_cons]
    by_cases hq:(l[k]:Int) / (64:Int)=(l[0]:Int) / (64:Int)
    ·rw[if_neg (by simpa using hq),Yo (by omega),ih (k+1) (by omega) (by omega),show (0:Int)=((0:Nat):Int) from rfl,Xb (by omega:0 < l.length),decide_eq_true hq,Bool.true_and]
    ·rw[if_pos (by simpa using hq),decide_eq_false hq,Bool.false_and,Bool.false_and]
   ·rw[if_neg (by simpa using hc),List.drop_eq_nil_of_le (by omega)]
    simp[List.length_pos_iff]
 have:=key FU 0 (Nat.zero_le _) (by have:=Y5;omega)
 simpa using this
theorem Zzy (a s b:Int):Zk2 a s b=some (Zk0 a s b):=by
 unfold Zk2 Zk0
 rw[Zug,Option.bind_some]
 generalize hA:Qi a s b=l
 have hm:∀x∈l,0≤x∧x < 512:=fun x hx=>by rw[←hA] at hx;exact (Zx8 hx).2
 have hl:l.length≤8:=by rw[←hA];exact Z87 a s b
 have key:∀(m k:Nat),k≤l.length→l.length - k < m→Zho a s b m l k=some ((l.drop k).all (fun x=>decide (x / 64=atI l 0 / 64))&&decide (l≠[])):=by
  intro m
  induction m with
  | zero=>intro k _ h;omega
  | succ m ih=>
   intro k hk hm2
   show Zl1 a s b _ l k=_
   unfold Zl1
   by_cases hc:k < l.length
   ·have h0:=hm _ (List.getElem_mem hc)
    have h1:=hm _ (List.getElem_mem (by omega:0 < l.length))
    rw[if_pos (by simpa using hc),Yc hc,Option.bind_some,show (0:Int)=((0:Nat):Int) from rfl,Yc (by omega:0 < l.length),Option.bind_some,Z1j h0.1 h0.2,Z1j h1.1 h1.2,Xb (by omega:0 < l.length),List.drop_eq_getElem_cons hc,List.all_cons]
    by_cases hq:(l[k]:Int) / (64:Int)=(l[0]:Int) / (64:Int)
    ·rw[if_neg (by simpa using hq),Yo (by omega),ih (k+1) (by omega) (by omega),show (0:Int)=((0:Nat):Int) from rfl,Xb (by omega:0 < l.length),decide_eq_true hq,Bool.true_and]
    ·rw[if_pos (by simpa using hq),decide_eq_false hq,Bool.false_and,Bool.false_and]
   ·rw[if_neg (by simpa using hc),List.drop_eq_nil_of_le (by omega)]
    simp[List.length_pos_iff]
 have:=key FU 0 (Nat.zero_le _) (by have:=Y5;omega)
 simpa using this
instance:Inhabited GReq:=⟨GReq.z0⟩
def reqG (r:GReq):Bool:=Zk0 r.addr r.size r.burst&&(decide ((r.data_.length:Int)=if r.write then Yl r.burst else 0)&&r.data_.all fun v=>numG v r.size)
def GReq.sm (r:GReq):Prop:=r.data_.length < 1048577
theorem Zxt (r:GReq) (hs:r.sm):Zmb r=some (reqG r):=by
 unfold GReq.sm at hs
 have hf:Xf r.data_ r=some (!r.data_.all fun v=>numG v r.size):=by
  unfold Xf W6
  refine Zqp r.data_ (by omega) (fun v=>Zpc v r) (fun v=>numG v r.size) (fun v _=>?_) _ (fun m i=>rfl)
  unfold Zpc
  rw[Zfc];rfl
 unfold Zmb Zlb reqG
 rw[Zna,Option.bind_some,Yc1,Option.bind_some,hf,Option.bind_some,Bool.not_not]
 by_cases h1:Zk0 r.addr r.size r.burst=true
 ·by_cases h2:r.write=true
  ·by_cases h3:(r.data_.length:Int)=Yl r.burst<;>simp[h1,h2,h3]
  ·by_cases h3:r.data_=[]<;>simp[h1,h2,h3]
 ·by_cases h2:r.write=true<;>simp[h1,h2]
theorem Zyt (r:GReq) (hs:r.sm):Zmc r=some (reqG r):=by
 unfold GReq.sm at hs
 unfold Zmc
 rw[Zzy,Option.bind_some]
 have hb:=Zdb r.burst
 have key:∀(m k:Nat),k≤r.data_.length→r.data_.length - k < m→Zlp r m k=some (decide ((r.data_.length:Int)=if r.write then Yl r.burst else 0)&&(r.data_.drop k).all fun v=>numG v r.size):=by
  intro m
  induction m with
  | zero=>intro k _ h;omega
  | succ m ih=>
   intro k hk hm
   show Zok r _ k=_
   unfold Zok
   by_cases hc:k < r.data_.length
   ·rw[if_pos (by simpa using hc),Yc hc,Option.bind_some,Q7,Option.bind_some,Zl4,Option.bind_some,List.drop_eq_getElem_cons hc,List.all_cons]
    by_cases hq:numG r.data_[k] r.size=true
    ·rw[if_neg (by simp[hq]),Yo (by omega),ih (k+1) (by omega) (by omega)]
     simp[hq]
    ·rw[if_pos (by simp[hq])]
     simp[hq]
   ·rw[if_neg (by simpa using hc),List.drop_eq_nil_of_le (by omega),Zbi]
    cases h2:r.write<;>simp only[if_true,if_false,Bool.false_eq_true,Option.bind_some,List.all_nil,Bool.and_true]<;>generalize decide ((r.data_.length:Int)=0)=x<;>generalize decide ((r.data_.length:Int)=Yl r.burst)=y<;>cases x<;>cases y<;>rfl
 have:=key FU 0 (Nat.zero_le _) (by have:=Y5;omega)
 unfold reqG
 by_cases h1:Zk0 r.addr r.size r.burst=true
 ·rw[if_neg (by simp[h1]),show (0:Int)=((0:Nat):Int) from rfl,this]
  simp[h1]
 ·rw[if_pos (by simp[h1])]
  simp[h1]
theorem Zc2 {r:GReq} (h:reqG r=true):Zk0 r.addr r.size r.burst=true∧(r.data_.length:Int)=(if r.write then Yl r.burst else 0)∧∀v∈r.data_,numG v r.size=true:=by
 simp only[reqG,Bool.and_eq_true,decide_eq_true_eq,List.all_eq_true] at h
 exact⟨h.1,h.2.1,h.2.2⟩
theorem Zmg {a s b:Int} (h:Zk0 a s b=true):((Qi a s b).length:Int)=Yl b∧1≤Yl b:=by
 simp only[Zk0,Bool.and_eq_true,decide_eq_true_eq] at h
 rcases Z54 a s b with h1|h1
 ·exact absurd h1 h.2
 ·have:0 < (Qi a s b).length:=List.length_pos_iff.2 h.2
  omega
theorem Ykh {r:GReq} (h:reqG r=true):r.sm:=by
 have:=(Zc2 h).2.1
 have hb:=Zdb r.burst
 unfold GReq.sm
 split at this<;>omega
theorem Z0u (r:GReq) (hs:r.sm):Zfq r=some r:=by
 unfold GReq.sm at hs
 unfold Zfq Yd
 rw[Ys (by simp;omega) (by simp;omega)]
 rfl
theorem Z1b (r:GReq) (hs:r.sm):Zga r=some r:=by
 unfold GReq.sm at hs
 unfold Zga
 rw[Ys (by simp;omega) (by simp;omega)]
 rfl
instance:Inhabited GMst:=⟨GMst.z0⟩
def Zf (m:GMst):Int:=if m.queue=[] then 0 else Yl (atI m.queue 0).burst
theorem Zn4 (m:GMst):0≤Zf m∧Zf m≤8:=by
 unfold Zf
 have:=Zdb (atI m.queue 0).burst
 split<;>omega
def Zqd (m:GMst):Bool:=decide (m.queue.length≤4)&&(decide (0≤m.tries)&&(m.queue.all reqG&&
 (if m.queue=[] then decide (m.beat=0)&&(decide (m.done=0)&&(decide (m.tries=0)&&(!m.parted&&!m.broken))) else decide (0≤m.done∧m.done≤Zf m - 1)&&decide (m.done≤m.beat∧m.beat≤min (m.done+2) (Zf m)))))
def GMst.sm (m:GMst):Prop:=m.queue.length < 1048577∧∀r∈m.queue,r.sm
structure RightP (m:GMst):Prop where
 len:m.queue.length≤4
 tries:0≤m.tries
 reqs:∀r∈m.queue,reqG r=true
 none:m.queue=[]→m.beat=0∧m.done=0∧m.tries=0∧m.parted=false∧m.broken=false
 some:m.queue≠[]→0≤m.done∧m.done < Zf m∧m.done≤m.beat∧m.beat≤m.done+2∧m.beat≤Zf m
theorem Qd {m:GMst}:Zqd m=true↔RightP m:=by
 unfold Zqd
 by_cases h:m.queue=[]
 ·constructor
  ·intro h1
   simp only[h,if_true,Bool.and_eq_true,decide_eq_true_eq,Bool.not_eq_true'] at h1
   exact⟨by simp[h],h1.2.1,by simp[h],fun _=>⟨h1.2.2.2.1,h1.2.2.2.2.1,h1.2.2.2.2.2.1,h1.2.2.2.2.2.2.1,h1.2.2.2.2.2.2.2⟩,fun h2=>absurd h h2⟩
  ·intro h1
   obtain⟨h2,h3,h4,h5,h6⟩:=h1.none h
   simp[h,h2,h3,h4,h5,h6]
 ·constructor
  ·intro h1
   rw[if_neg h] at h1
   simp only[Bool.and_eq_true,decide_eq_true_eq,List.all_eq_true] at h1
   exact⟨h1.1,h1.2.1,h1.2.2.1,fun h2=>absurd h2 h,fun _=>by omega⟩
  ·intro h1
   have h2:=h1.some h
   rw[if_neg h]
   simp only[Bool.and_eq_true,decide_eq_true_eq,List.all_eq_true]
   exact⟨h1.len,h1.tries,h1.reqs,by omega,by omega⟩
theorem RightP.sm {m:GMst} (h:RightP m):m.sm:=⟨by have:=h.len;omega,fun r hr=>Ykh (h.reqs r hr)⟩
theorem Zr1 (m:GMst):Ja m=some (Zf m):=by
 unfold Ja Zf
 by_cases h:m.queue=[]
 ·simp[h]
 ·have h1:0 < m.queue.length:=List.length_pos_iff.2 h
  rw[if_neg (by simpa using h),if_neg h,Yi (by omega) (by omega),Option.bind_some,Zna]
  rfl
theorem Zr3 (m:GMst):Zad m=some (Zf m):=by
 unfold Zad Zf
 by_cases h:m.queue=[]
 ·simp[h]
 ·have h1:0 < m.queue.length:=List.length_pos_iff.2 h
  rw[if_neg (by simpa using h),if_neg h,Yi (by omega) (by omega),Option.bind_some,Zbi]
  rfl
theorem K6 (m:GMst) (hs:m.sm):Wu m=some (Zqd m):=by
 have hf:Yt m.queue=some (!m.queue.all reqG):=by
  unfold Yt X5
  refine Zqp m.queue (by have:=hs.1;omega) Zc8 reqG (fun r hr=>?_) _ (fun m i=>rfl)
  unfold Zc8
  rw[Zxt r (hs.2 r hr)];rfl
 have hb:=Zn4 m
 have hJ:Xg m false=some (if m.queue=[] then decide (m.beat=0)&&(decide (m.done=0)&&(decide (m.tries=0)&&(!m.parted&&!m.broken))) else decide (0≤m.done∧m.done≤Zf m - 1)&&decide (m.done≤m.beat∧m.beat≤min (m.done+2) (Zf m))):=by
  unfold Xg
  rw[Zr1,Option.bind_some,Option.bind_some,Y0,Option.bind_some,Y0,Option.bind_some,Z9 (by omega) (by omega)]
  by_cases h:m.queue=[]
  ·rw[if_neg (by simp),if_pos (by simpa using h),if_pos h]
   by_cases h1:m.beat=0<;>by_cases h2:m.done=0<;>by_cases h3:m.tries=0<;>by_cases h4:m.parted=true<;>simp[h1,h2,h3,h4]
  ·rw[if_neg (by simp),if_neg (by simpa using h),if_neg h]
   by_cases h1:0≤m.done∧m.done≤Zf m - 1
   ·rw[Zr (by omega) (by omega),Jq]
    simp[h1]
   ·simp[h1]
 unfold Wu Zqd
 rw[hf,Option.bind_some]
 by_cases h1:(m.queue.length:Int) > 4
 ·have h2:¬m.queue.length≤4:=by omega
  simp[h1,h2,Xg]
 ·have h2:m.queue.length≤4:=by omega
  by_cases h3:m.tries < 0
  ·have h4:¬0≤m.tries:=by omega
   simp[h1,h2,h3,h4,Xg]
  ·have h4:0≤m.tries:=by omega
   rw[if_neg (by simpa using h1),if_neg (by simpa using h3)]
   by_cases h5:m.queue.all reqG=true
   ·rw[h5,Bool.not_true,hJ]
    simp only[h2,h4,decide_true,Bool.true_and]
   ·have h6:m.queue.all reqG=false:=by simpa using h5
    rw[h6,Bool.not_false]
    simp[Xg]
theorem Zcq (m:GMst) (hs:m.sm):Ky m=some (Zqd m):=by
 have hb:=Zn4 m
 have hJ:Kg m false=some (if m.queue=[] then decide (m.beat=0)&&(decide (m.done=0)&&(decide (m.tries=0)&&(!m.parted&&!m.broken))) else decide (0≤m.done∧m.done≤Zf m - 1)&&decide (m.done≤m.beat∧m.beat≤min (m.done+2) (Zf m))):=by
  unfold Kg
  rw[Zr3,Option.bind_some,Option.bind_some,Yg,Option.bind_some,Yg,Option.bind_some,Z9 (by omega) (by omega)]
  by_cases h:m.queue=[]
  ·rw[if_neg (by simp),if_pos (by simpa using h),if_pos h]
   by_cases h1:m.beat=0<;>by_cases h2:m.done=0<;>by_cases h3:m.tries=0<;>by_cases h4:m.parted=true<;>simp[h1,h2,h3,h4]
  ·rw[if_neg (by simp),if_neg (by simpa using h),if_neg h]
   by_cases h1:0≤m.done∧m.done≤Zf m - 1
   ·rw[Zr (by omega) (by omega),Jq]
    simp[h1]
   ·simp[h1]
 unfold Ky
 have hl:=hs.1
 have key:∀(n k:Nat),k≤m.queue.length→m.queue.length - k < n→Zfy m n k=some (decide (m.queue.length≤4)&&(decide (0≤m.tries)&&((m.queue.drop k).all reqG&&
 (if m.queue=[] then decide (m.beat=0)&&(decide (m.done=0)&&(decide (m.tries=0)&&(!m.parted&&!m.broken))) else decide (0≤m.done∧m.done≤Zf m - 1)&&decide (m.done≤m.beat∧m.beat≤min (m.done+2) (Zf m)))))):=by
  intro n
  induction n with
  | zero=>intro k _ h;omega
  | succ n ih=>
   intro k hk hm
   show Zko m _ k=_
   unfold Zko
   by_cases hc:k < m.queue.length
   ·rw[if_pos (by simpa using hc),Yc hc,Option.bind_some,Zyt _ (hs.2 _ (List.getElem_mem hc)),Option.bind_some,List.drop_eq_getElem_cons hc,List.all_cons]
    by_cases hq:reqG m.queue[k]=true
    ·rw[if_neg (by simp[hq]),Yo (by omega),ih (k+1) (by omega) (by omega)]
     simp[hq]
    ·rw[if_pos (by simp[hq])]
     simp[hq]
   ·rw[if_neg (by simpa using hc),List.drop_eq_nil_of_le (by omega)]
    by_cases h1:(m.queue.length:Int) > 4
    ·have h2:¬m.queue.length≤4:=by omega
     simp[h1,h2,Kg]
    ·have h2:m.queue.length≤4:=by omega
     by_cases h3:m.tries < 0
     ·have h4:¬0≤m.tries:=by omega
      simp[h1,h2,h3,h4,Kg]
     ·have h4:0≤m.tries:=by omega
      rw[if_neg (by simpa using h1),decide_eq_false h3,hJ]
      simp only[h2,h4,decide_true,Bool.true_and,List.all_nil]
 have:=key FU 0 (Nat.zero_le _) (by have:=Y5;omega)
 simpa [Zqd] using this
theorem Zk7 (m:GMst) (hs:m.sm):Zc4 m=some m:=by
 unfold Zc4
 refine (Z86 64 (by decide) m.queue hs.1 Zfq (fun r hr=>Z0u r (hs.2 r hr)) (fun v=>some {m with queue:=v}) (Zj6 m) (fun n v i=>rfl)).trans ?_
 rfl
theorem Zi6 (m:GMst) (hs:m.sm):Za7 m=some m:=by
 unfold Za7
 refine (Z86 64 (by decide) m.queue hs.1 Zga (fun r hr=>Z1b r (hs.2 r hr)) (fun v=>some {m with queue:=v}) (Zh9 m) (fun n v i=>rfl)).trans ?_
 rfl
def X8 (m:GMst) (r:GReq):GMst:=if reqG r=true∧m.queue.length≠4 then {m with queue:=m.queue++[r]} else m
def Zgt (m:GMst):Bool:=decide (m.beat < Zf m)
def Zn (m:GMst) (b:Int):Int:=if 0≤b∧b≤Zf m - 1 then atI (Qi (atI m.queue 0).addr (atI m.queue 0).size (atI m.queue 0).burst) b else -1
def Yq (m:GMst):GMst:=if m.beat < Zf m∧m.beat≠m.done+2 then {m with beat:=m.beat+1} else m
def Qo (m:GMst):GMst:=if m.beat=m.done then m else {m with beat:=m.beat - 1}
def endG (m:GMst):GMst:=if m.beat=m.done then m else if m.done+1=Zf m then GMst.mk m.queue.tail 0 0 0 false false else GMst.mk m.queue m.beat (m.done+1) 0 false m.broken
theorem W9 {m:GMst} (h:RightP m):0≤m.done∧m.done≤8∧0≤m.beat∧m.beat≤8:=by
 have hb:=Zn4 m
 by_cases hq:m.queue=[]
 ·have:=h.none hq;omega
 ·have:=h.some hq;omega
theorem Zg0 {m:GMst} (h:RightP m) (hq:m.queue≠[]):reqG (atI m.queue 0)=true∧Zf m=Yl (atI m.queue 0).burst∧1≤Zf m:=by
 have h1:0 < m.queue.length:=List.length_pos_iff.2 hq
 have h2:reqG (atI m.queue 0)=true:=h.reqs _ (Zb3 (by omega) (by omega))
 have h3:Zf m=Yl (atI m.queue 0).burst:=by unfold Zf;rw[if_neg hq]
 exact⟨h2,h3,by rw[h3];exact (Zmg (Zc2 h2).1).2⟩
theorem Z3u {m:GMst} {b:Int} (h:RightP m) (h0:0≤b) (h1:b < Zf m):Zn m b∈Qi (atI m.queue 0).addr (atI m.queue 0).size (atI m.queue 0).burst∧Yv (Zn m b) (atI m.queue 0).size=true∧0≤Zn m b∧Zn m b < 512:=by
 have hq:m.queue≠[]:=by
  intro hq
  unfold Zf at h1
  rw[if_pos hq] at h1
  omega
 obtain⟨h2,h3,h4⟩:=Zg0 h hq
 have h5:=(Zmg (Zc2 h2).1).1
 have h6:Zn m b=atI (Qi (atI m.queue 0).addr (atI m.queue 0).size (atI m.queue 0).burst) b:=by
  unfold Zn;rw[if_pos (by omega)]
 have h7:=Zb3 (xs:=Qi (atI m.queue 0).addr (atI m.queue 0).size (atI m.queue 0).burst) h0 (by omega)
 rw[h6]
 have h8:=Zx8 h7
 exact⟨h7,h8.1,h8.2.1,h8.2.2⟩
theorem Zbo {m:GMst} (b:Int) (h:RightP m):Za3 m b=some (Zn m b):=by
 have hb:=Zn4 m
 unfold Za3 Zhp
 rw[K6 m h.sm,Option.bind_some,Qd.2 h,Zr1,Option.bind_some,Y0,Option.bind_some,Z9 (by omega) (by omega)]
 by_cases h1:0≤b∧b≤Zf m - 1
 ·have hq:m.queue≠[]:=by
   intro hq
   unfold Zf at h1
   rw[if_pos hq] at h1
   omega
  obtain⟨h2,h3,h4⟩:=Zg0 h hq
  have h5:=(Zmg (Zc2 h2).1).1
  have h6:0 < m.queue.length:=List.length_pos_iff.2 hq
  rw[Yi (by omega) (by omega),Option.bind_some,Zvb,Option.bind_some,Yi h1.1 (by omega)]
  simp[h1,Zn]
 ·simp[h1,Zn]
theorem Zes {m:GMst} (b:Int) (h:RightP m):Zdv m b=some (Zn m b):=by
 have hb:=Zn4 m
 unfold Zdv Zhn
 rw[Zcq m h.sm,Option.bind_some,Qd.2 h,Zr3,Option.bind_some,Yg,Option.bind_some,Z9 (by omega) (by omega)]
 by_cases h1:0≤b∧b≤Zf m - 1
 ·have hq:m.queue≠[]:=by
   intro hq
   unfold Zf at h1
   rw[if_pos hq] at h1
   omega
  obtain⟨h2,h3,h4⟩:=Zg0 h hq
  have h5:=(Zmg (Zc2 h2).1).1
  have h6:0 < m.queue.length:=List.length_pos_iff.2 hq
  rw[Yi (by omega) (by omega),Option.bind_some,Zug,Option.bind_some,Yi h1.1 (by omega)]
  simp[h1,Zn]
 ·simp[h1,Zn]
theorem Zy9 {m:GMst} (h:RightP m):Zim m=some (Zgt m):=by
 unfold Zim Zgt
 rw[K6 m h.sm,Option.bind_some,Qd.2 h,Zr1]
 rfl
theorem Zy1 {m:GMst} (h:RightP m):Zip m=some (Zgt m):=by
 unfold Zip Zgt
 rw[Zcq m h.sm,Option.bind_some,Qd.2 h,Zr3]
 rfl
theorem Yc0 {m:GMst} {r:GReq} (h:RightP m) (hr:r.sm):∃b,Zo1 m r=some (X8 m r,b):=by
 have hl:=h.len
 unfold Zo1 Zdh X8
 rw[Zk7 m h.sm,Option.bind_some,K6 m h.sm,Option.bind_some,Qd.2 h,Zxt r hr,Option.bind_some,Z0u r hr,Option.bind_some,Ys (by simp;omega) (by simp;omega),Option.bind_some]
 by_cases h1:reqG r=true
 ·by_cases h2:m.queue.length=4
  ·simp[h1,h2]
  ·have h3:¬((m.queue.length:Int)=4):=by omega
   simp[h1,h2,h3]
 ·simp[h1]
theorem Ybp {m:GMst} {r:GReq} (h:RightP m) (hr:r.sm):∃b,Zpm m r=some (X8 m r,b):=by
 have hl:=h.len
 unfold Zpm Zdf X8
 rw[Zi6 m h.sm,Option.bind_some,Zcq m h.sm,Option.bind_some,Qd.2 h,Zyt r hr,Option.bind_some,Z1b r hr,Option.bind_some,Ys (by simp;omega) (by simp;omega),Option.bind_some]
 by_cases h1:reqG r=true
 ·by_cases h2:m.queue.length=4
  ·simp[h1,h2]
  ·have h3:¬((m.queue.length:Int)=4):=by omega
   simp[h1,h2,h3]
 ·simp[h1]
theorem Z9v {m:GMst} (h:RightP m):∃b,Znb m=some (Yq m,b):=by
 have hb:=W9 h
 unfold Znb Zfv Yq
 rw[Zk7 m h.sm,Option.bind_some,Zy9 h,Option.bind_some,Zr (a:=m.done) (by omega) (by omega),Zr (by omega) (by omega)]
 unfold Zgt
 by_cases h1:m.beat < Zf m
 ·by_cases h2:m.beat=m.done+2<;>simp[h1,h2]
 ·simp[h1]
theorem Z97 {m:GMst} (h:RightP m):∃b,Zmp m=some (Yq m,b):=by
 have hb:=W9 h
 unfold Zmp Zf4 Yq
 rw[Zi6 m h.sm,Option.bind_some,Zy1 h,Option.bind_some,Zr (a:=m.done) (by omega) (by omega),Zr (by omega) (by omega)]
 unfold Zgt
 by_cases h1:m.beat < Zf m
 ·by_cases h2:m.beat=m.done+2<;>simp[h1,h2]
 ·simp[h1]
theorem Yb5 {m:GMst} (h:RightP m):∃b,Zpa m=some (Qo m,b):=by
 have hb:=W9 h
 unfold Zpa Zh8 Qo
 rw[Zk7 m h.sm,Option.bind_some,K6 m h.sm,Option.bind_some,Qd.2 h,Z9 (by omega) (by omega)]
 by_cases h1:m.beat=m.done<;>simp[h1]
theorem Ybf {m:GMst} (h:RightP m):∃b,Zpl m=some (Qo m,b):=by
 have hb:=W9 h
 unfold Zpl Zhb Qo
 rw[Zi6 m h.sm,Option.bind_some,Zcq m h.sm,Option.bind_some,Qd.2 h,Z9 (by omega) (by omega)]
 by_cases h1:m.beat=m.done<;>simp[h1]
theorem Zr4 {α:Type} (xs:List α) (h:xs≠[]) (hl:xs.length < 1048577):Q3 xs 1 (xs.length:Int)=some xs.tail:=by
 have h1:0 < xs.length:=List.length_pos_iff.2 h
 unfold Q3
 rw[if_pos ⟨by omega,by omega,by omega⟩]
 congr 1
 rw[List.take_of_length_le (by simp),←List.drop_one]
 rfl
theorem Zd2 {m:GMst} (h:RightP m) (hb:m.beat≠m.done):m.queue≠[]:=by
 intro hq;have:=h.none hq;omega
theorem Yem {m:GMst} (h:RightP m):∃b,Zrf m=some (endG m,b):=by
 have hb:=W9 h
 have hl:=h.len
 unfold Zrf Zjp endG
 rw[Zk7 m h.sm,Option.bind_some,K6 m h.sm,Option.bind_some,Qd.2 h,Zr (by omega) (by omega),Zr1,Option.bind_some]
 have e:Zf {m with done:=m.done+1}=Zf m:=rfl
 rw[e]
 by_cases h1:m.beat=m.done
 ·simp[h1]
 ·rw[Zr4 _ (Zd2 h h1) (by omega),Option.bind_some]
  by_cases h2:m.done+1=Zf m<;>simp[h1,h2]
theorem Ye6 {m:GMst} (h:RightP m):∃b,Zrx m=some (endG m,b):=by
 have hb:=W9 h
 have hl:=h.len
 unfold Zrx Zkg endG
 rw[Zi6 m h.sm,Option.bind_some,Zcq m h.sm,Option.bind_some,Qd.2 h,Zr (by omega) (by omega),Zr3,Option.bind_some]
 by_cases h1:m.beat=m.done
 ·simp[h1]
 ·rw[Zr4 _ (Zd2 h h1) (by omega),Option.bind_some]
  by_cases h2:m.done+1=Zf m<;>simp[h1,h2]
theorem Z2m {m:GMst} {r:GReq} (h:m.queue≠[]):atI (m.queue++[r]) 0=atI m.queue 0:=by
 cases hq:m.queue with
 | nil=>exact absurd hq h
 | cons a l=>rfl
theorem Yjb {m:GMst} {r:GReq} (h:RightP m):RightP (X8 m r):=by
 unfold X8
 split
 ·rename_i h1
  have hl:=h.len
  have hne:m.queue++[r]≠[]:=by simp
  refine⟨by simp;omega,h.tries,fun x hx=>?_,fun hx=>absurd hx hne,fun _=>?_⟩
  ·rcases List.mem_append.1 hx with hx|hx
   ·exact h.reqs x hx
   ·rw[List.mem_singleton.1 hx];exact h1.1
  ·by_cases hq:m.queue=[]
   ·obtain⟨h2,h3,h4,h5,h6⟩:=h.none hq
    have hm:Zf {m with queue:=m.queue++[r]}=Yl r.burst:=by
     unfold Zf;rw[if_neg hne];simp[hq,atI]
    have:=(Zmg (Zc2 h1.1).1).2
    rw[hm]
    simp only[h2,h3]
    omega
   ·have h2:=h.some hq
    have hm:Zf {m with queue:=m.queue++[r]}=Zf m:=by
     unfold Zf;rw[if_neg hne,if_neg hq];simp only[Z2m hq]
    rw[hm]
    exact h2
 ·exact h
theorem Yd7 {m:GMst} (h:RightP m):RightP (Yq m):=by
 unfold Yq
 split
 ·rename_i h1
  have hq:m.queue≠[]:=by
   intro hq
   unfold Zf at h1
   rw[if_pos hq] at h1
   have:=W9 h
   omega
  have h2:=h.some hq
  refine⟨h.len,h.tries,h.reqs,fun hx=>absurd hx hq,fun _=>?_⟩
  have hm:Zf {m with beat:=m.beat+1}=Zf m:=rfl
  rw[hm]
  simp only
  omega
 ·exact h
theorem Z6h {m:GMst} (h:RightP m):RightP (Qo m):=by
 unfold Qo
 split
 ·exact h
 ·rename_i h1
  have hq:=Zd2 h h1
  have h2:=h.some hq
  refine⟨h.len,h.tries,h.reqs,fun hx=>absurd hx hq,fun _=>?_⟩
  have hm:Zf {m with beat:=m.beat - 1}=Zf m:=rfl
  rw[hm]
  simp only
  omega
theorem Yko {m:GMst} (h:RightP m):RightP (endG m):=by
 unfold endG
 split
 ·exact h
 ·rename_i h1
  have hq:=Zd2 h h1
  have h2:=h.some hq
  split
  ·have hr:∀r∈m.queue.tail,reqG r=true:=fun r hr=>h.reqs r (List.mem_of_mem_tail hr)
   refine⟨by have:=h.len;simp;omega,by simp,hr,fun _=>by simp,fun hx=>?_⟩
   have h3:RightP (GMst.mk m.queue.tail 0 0 0 false false)→True:=fun _=>trivial
   have h4:0 < m.queue.tail.length:=List.length_pos_iff.2 hx
   have h5:reqG (atI m.queue.tail 0)=true:=hr _ (Zb3 (by omega) (by omega))
   have h6:=(Zmg (Zc2 h5).1).2
   have hm:Zf (GMst.mk m.queue.tail 0 0 0 false false)=Yl (atI m.queue.tail 0).burst:=by
    unfold Zf;rw[if_neg hx]
   rw[hm]
   simp only
   omega
  ·rename_i h3
   refine⟨h.len,by simp,h.reqs,fun hx=>absurd hx hq,fun _=>?_⟩
   have hm:Zf (GMst.mk m.queue m.beat (m.done+1) 0 false m.broken)=Zf m:=rfl
   rw[hm]
   simp only
   omega
theorem Yo3 {a b:Int} {k:Nat} (h0:0≤a) (h1:a < 2^k) (hb:0≤b) (hk:b*2^k+a < 9223372036854775808):orW a (b*2^k)=a+b*2^k:=by
 obtain⟨a,rfl⟩:=Int.eq_ofNat_of_zero_le h0
 obtain⟨b,rfl⟩:=Int.eq_ofNat_of_zero_le hb
 have e1:(b:Int)*2^k=((b*2^k:Nat):Int):=by simp
 rw[e1] at hk ⊢
 have h1':a < 2^k:=by
  have:((a:Nat):Int) < ((2^k:Nat):Int):=by simpa using h1
  exact Int.ofNat_lt.1 this
 have h2:a+b*2^k < 18446744073709551616:=by omega
 unfold orW
 show IntKind.i64.wrap (((BitVec.ofInt 64 ((a:Nat):Int) ||| BitVec.ofInt 64 ((b*2^k:Nat):Int)).toNat:Nat):Int)=_
 rw[BitVec.ofInt_natCast,BitVec.ofInt_natCast,BitVec.toNat_or,BitVec.toNat_ofNat,BitVec.toNat_ofNat,Nat.mod_eq_of_lt (by omega),Nat.mod_eq_of_lt (by omega)]
 have h3:a ||| b*2^k=a+b*2^k:=by
  rw[Nat.or_comm,←Nat.shiftLeft_eq,←Nat.shiftLeft_add_eq_or_of_lt h1',Nat.add_comm]
 rw[h3,Zp7 (by omega) (by omega)]
 simp
theorem Ym9 {a:Int} (h0:0≤a) (h1:a < 9223372036854775808):andW a 255=a % 256:=by
 obtain⟨a,rfl⟩:=Int.eq_ofNat_of_zero_le h0
 unfold andW
 show IntKind.i64.wrap (((BitVec.ofInt 64 ((a:Nat):Int) &&& BitVec.ofInt 64 ((255:Nat):Int)).toNat:Nat):Int)=_
 rw[BitVec.ofInt_natCast,BitVec.ofInt_natCast,BitVec.toNat_and,BitVec.toNat_ofNat,BitVec.toNat_ofNat,Nat.mod_eq_of_lt (by omega),Nat.mod_eq_of_lt (by omega)]
 have h3:a &&& 255=a % 256:=Nat.and_two_pow_sub_one_eq_mod a 8
 rw[h3,Zp7 (by omega) (by omega)]
 omega
theorem Yor {a:Int} {k:Nat} (hk:k≤64) (h0:0≤a) (h1:a*2^k < 9223372036854775808):shlW a (k:Int)=a*2^k:=by
 unfold shlW
 have:min ((k:Int).toNat) IntKind.i64.bits=k:=by
  show min ((k:Int).toNat) 64=k
  omega
 rw[this]
 have:0≤a*2^k:=Int.mul_nonneg h0 (Int.pow_nonneg (by omega))
 exact Zp7 (by omega) h1
theorem Ypf {a:Int} {k:Nat} (hk:k≤64) (h0:0≤a):shrW a (k:Int)=a / 2^k:=by
 unfold shrW
 have:min ((k:Int).toNat) IntKind.i64.bits=k:=by
  show min ((k:Int).toNat) 64=k
  omega
 rw[this,Int.fdiv_eq_ediv_of_nonneg _ (Int.pow_nonneg (by omega))]
def Jc (n:Int):Bool:=decide (0≤n∧n≤255)
def memG (mem:List Int):Bool:=decide (mem.length≤512)&&mem.all Jc
def Zh1 (mem:List Int) (a s:Int):Bool:=memG mem&&(Yv a s&&decide (a≤(mem.length:Int) - Z2 s))
theorem Z0y (mem:List Int) (a s:Int) (hl:mem.length < 1048577):Zoo mem a s=some (Zh1 mem a s):=by
 have hb:=Ze8 s
 have hf:Xl mem=some (!mem.all Jc):=by
  unfold Xl Qg
  refine Zqp mem (by omega) Zrm Jc (fun r hr=>?_) _ (fun m i=>rfl)
  unfold Zrm
  rw[Y0];rfl
 unfold Zoo Zh1 memG
 rw[hf,Option.bind_some,Zn1,Option.bind_some,Zex,Option.bind_some,Z9 (by omega) (by omega)]
 by_cases h1:mem.length≤512
 ·have h2:(mem.length:Int)≤512:=by omega
  by_cases h3:mem.all Jc=true
  ·by_cases h4:Yv a s=true<;>simp only[h1,h2,h3,h4,decide_true,if_true,Bool.not_true,Bool.not_false,Bool.true_and,Bool.and_self,Bool.false_and,Bool.false_eq_true,if_false]
  ·simp[h1,h2,h3]
 ·have h2:¬(mem.length:Int)≤512:=by omega
  simp[h1,h2]
theorem Z02 (mem:List Int) (hl:mem.length < 1048577):Zk8 mem=some (memG mem):=by
 unfold Zk8 memG
 have key:∀(n k:Nat),k≤mem.length→mem.length - k < n→Zia mem n k=some (decide (mem.length≤512)&&(mem.drop k).all Jc):=by
  intro n
  induction n with
  | zero=>intro k _ h;omega
  | succ n ih=>
   intro k hk hm
   show Zlv mem _ k=_
   unfold Zlv
   by_cases hc:k < mem.length
   ·rw[if_pos (by simpa using hc),Yc hc,Option.bind_some,Yg,Option.bind_some,List.drop_eq_getElem_cons hc,List.all_cons]
    by_cases hq:0≤mem[k]∧mem[k]≤255
    ·rw[if_neg (by simp[hq]),Yo (by omega),ih (k+1) (by omega) (by omega)]
     simp[hq,Jc]
    ·rw[if_pos (by simp[hq])]
     simp[hq,Jc]
   ·rw[if_neg (by simpa using hc),List.drop_eq_nil_of_le (by omega)]
    by_cases h1:mem.length≤512
    ·have h2:(mem.length:Int)≤512:=by omega
     simp[h1,h2]
    ·have h2:¬(mem.length:Int)≤512:=by omega
     simp[h1,h2]
 have:=key FU 0 (Nat.zero_le _) (by have:=Y5;omega)
 simpa using this
theorem Z3a (mem:List Int) (a s:Int) (hl:mem.length < 1048577):Znl mem a s=some (Zh1 mem a s):=by
 have hb:=Ze8 s
 unfold Znl Zh1
 rw[Z02 mem hl,Option.bind_some,Zoh,Option.bind_some,Q4,Option.bind_some,Z9 (by omega) (by omega)]
 by_cases h3:memG mem=true
 ·by_cases h4:Yv a s=true<;>simp only[h3,h4,if_true,Bool.true_and,Bool.false_and,Bool.false_eq_true,if_false]
 ·simp[h3]
def getL (mem:List Int):Nat→Int→Int
 | 0,_=>0
 | n+1,a=>atI mem a+256*getL mem n (a+1)
def putL:Nat→List Int→Int→Int→List Int
 | 0,l,_,_=>l
 | n+1,l,a,v=>putL n (l.set a.toNat (v % 256)) (a+1) (v / 256)
theorem Ynr:∀(n:Nat) (l:List Int) (a v:Int),(putL n l a v).length=l.length:=by
 intro n
 induction n with
 | zero=>intro l a v;rfl
 | succ n ih=>intro l a v;simp only[putL,ih,List.length_set]
theorem Yg3:∀(n:Nat) (l:List Int) (a v:Int),l.all Jc=true→(putL n l a v).all Jc=true:=by
 intro n
 induction n with
 | zero=>intro l a v h;exact h
 | succ n ih=>
  intro l a v h
  refine ih _ _ _ ?_
  rw[List.all_eq_true] at h ⊢
  intro x hx
  rcases List.mem_or_eq_of_mem_set hx with hx|rfl
  ·exact h x hx
  ·have h1:0≤v % 256:=Int.emod_nonneg _ (by omega)
   have h2:v % 256 < 256:=Int.emod_lt_of_pos _ (by omega)
   simp[Jc];omega
theorem Z8q (mem:List Int):∀(n:Nat) (a:Int),getL mem (n+1) a=getL mem n a+256^n*atI mem (a+n):=by
 intro n
 induction n with
 | zero=>intro a;simp[getL]
 | succ n ih=>
  intro a
  rw[getL,ih (a+1),getL]
  rw[Int.mul_add,←Int.mul_assoc,show (256:Int)*256^n=256^(n+1) by rw[Int.pow_succ,Int.mul_comm],show a+1+(n:Int)=a+((n+1:Nat):Int) by omega]
  omega
theorem Ygv {mem:List Int} (h:mem.all Jc=true):∀(n:Nat) (a:Int),0≤a→a+n≤(mem.length:Int)→0≤getL mem n a∧getL mem n a < 256^n:=by
 intro n
 induction n with
 | zero=>intro a _ _;simp[getL]
 | succ n ih=>
  intro a h0 h1
  have h2:=ih (a+1) (by omega) (by omega)
  have h3:=List.all_eq_true.1 h _ (Zb3 h0 (by omega:a < (mem.length:Int)))
  simp only[Jc,decide_eq_true_eq] at h3
  simp only[getL]
  have e:(256:Int)^(n+1)=256*256^n:=by rw[Int.pow_succ,Int.mul_comm]
  rw[e]
  omega
def getG (mem:List Int) (a s:Int):Int:=getL mem (Z2 s).toNat a
def putG (mem:List Int) (a s v:Int):List Int:=putL (Z2 s).toNat mem a v
theorem Zmu {mem:List Int} {a s:Int} (h:Zh1 mem a s=true):mem.length≤512∧mem.all Jc=true∧0 < Z2 s∧0≤a∧a+Z2 s≤(mem.length:Int):=by
 simp only[Zh1,memG,Bool.and_eq_true,decide_eq_true_eq] at h
 have:=Jb h.2.1
 exact⟨h.1.1,h.1.2,this.1,this.2.1,by omega⟩
theorem Yal (k:Nat) (h:k≤4):(256:Int)^k=2^(8*k)∧(256:Int)^k≤4294967296:=by
 have:k=0∨k=1∨k=2∨k=3∨k=4:=by omega
 rcases this with rfl|rfl|rfl|rfl|rfl<;>decide
theorem Yeo {mem:List Int} {a s:Int} (h:Zh1 mem a s=true):Zrd mem a s=some (getG mem a s,true):=by
 obtain⟨h1,h2,h3,h4,h5⟩:=Zmu h
 have hb:=Ze8 s
 unfold Zrd getG
 rw[Z0y mem a s (by omega),Option.bind_some,h,if_neg (by simp),Zex,Option.bind_some]
 have key:∀(r n k:Nat),r < n→(k:Int)+r=Z2 s→Zj0 mem a s n (getL mem k a) (Z2 s) k=some (getL mem (k+r) a,true):=by
  intro r
  induction r with
  | zero=>
   intro n k hn hk
   obtain⟨n,rfl⟩:∃m',n=m'+1:=⟨n - 1,by omega⟩
   show Zdi mem a s _ (getL mem k a) (Z2 s) k=_
   unfold Zdi
   rw[if_neg (by simp;omega)]
   rfl
  | succ r ih=>
   intro n k hn hk
   obtain⟨n,rfl⟩:∃m',n=m'+1:=⟨n - 1,by omega⟩
   show Zdi mem a s _ (getL mem k a) (Z2 s) k=_
   unfold Zdi
   have h6:0≤a+(k:Int):=by omega
   have h7:a+(k:Int) < (mem.length:Int):=by omega
   have h8:=List.all_eq_true.1 h2 _ (Zb3 h6 h7)
   simp only[Jc,decide_eq_true_eq] at h8
   have h9:=Ygv h2 k a h4 (by omega)
   have hp:=Yal k (by omega)
   have hp1:(0:Int) < 2^(8*k):=Int.pow_pos (by omega)
   have h10:atI mem (a+k)*2^(8*k)≤255*4294967296:=by
    rw[←hp.1]
    exact Int.mul_le_mul h8.2 hp.2 (by rw[hp.1];omega) (by omega)
   rw[if_pos (by simp;omega),Zr (by omega) (by omega),Yi h6 h7,Option.bind_some,K8 (by omega) (by omega),Yj4 (by omega),Option.bind_some,show (8:Int)*(k:Int)=((8*k:Nat):Int) by omega,Yor (by omega) h8.1 (by omega),Yo3 h9.1 (by rw[←hp.1];exact h9.2) h8.1 (by have:=h9.2;rw[hp.1] at this;have:=hp.2;rw[hp.1] at this;omega),Yo (by omega)]
   have e:getL mem k a+atI mem (a+k)*2^(8*k)=getL mem (k+1) a:=by
    rw[Z8q,hp.1,Int.mul_comm]
   rw[e,ih n (k+1) (by omega) (by omega),show k+1+r=k+(r+1) by omega]
 have:=key (Z2 s).toNat FU 0 (by have:=Y5;omega) (by omega)
 simpa [getL] using this
theorem Yd6 {mem:List Int} {a s:Int} (h:Zh1 mem a s=true):Zrg mem a s=some (getG mem a s,true):=by
 obtain⟨h1,h2,h3,h4,h5⟩:=Zmu h
 have hb:=Ze8 s
 unfold Zrg getG
 rw[Z3a mem a s (by omega),Option.bind_some,h,if_neg (by simp),Q4,Option.bind_some,Z9 (by omega) (by omega)]
 have key:∀(r n j:Nat) (v:Int),r < n→(r:Int)≤Z2 s→j+r≤4→0≤v→v < 256^j→Zjg mem a s n v ((r:Int) - 1)=some (v*256^r+getL mem r a,true):=by
  intro r
  induction r with
  | zero=>
   intro n j v hn hk _ _ _
   obtain⟨n,rfl⟩:∃m',n=m'+1:=⟨n - 1,by omega⟩
   show Zcx mem a s _ v _=_
   unfold Zcx
   rw[if_neg (by simp)]
   simp[getL]
  | succ r ih=>
   intro n j v hn hk hj hv hv2
   obtain⟨n,rfl⟩:∃m',n=m'+1:=⟨n - 1,by omega⟩
   show Zcx mem a s _ v _=_
   unfold Zcx
   have h6:0≤a+(r:Int):=by omega
   have h7:a+(r:Int) < (mem.length:Int):=by omega
   have h8:=List.all_eq_true.1 h2 _ (Zb3 h6 h7)
   simp only[Jc,decide_eq_true_eq] at h8
   have hp:=(Yal j (by omega)).2
   have e1:(256:Int)^(r+1)=256^r*256:=Int.pow_succ ..
   have e3:(256:Int)^(j+1)=256^j*256:=Int.pow_succ ..
   have e2:(((r+1:Nat):Int) - 1)=(r:Int):=by omega
   rw[e2,if_pos (by simp),Zr (by omega) (by omega),Yi h6 h7,Option.bind_some,K8 (by omega) (by omega),Zr (by omega) (by omega),Z9 (by omega) (by omega),ih n (j+1) _ (by omega) (by omega) (by omega) (by omega) (by rw[e3];omega)]
   rw[Z8q,Int.add_mul,e1,Int.mul_comm (256^r) 256,←Int.mul_assoc,Int.mul_comm (256^r) (atI mem (a+r))]
   congr 2
   omega
 have:=key (Z2 s).toNat FU 0 0 (by have:=Y5;omega) (by omega) (by omega) (by omega) (by simp)
 rw[show ((Z2 s).toNat:Int)=Z2 s by omega] at this
 simpa using this
theorem Zos (xs:List Int) (h:xs.length < 1048577):Yd xs=some xs:=by
 unfold Yd
 rw[Ys (by simp;omega) (by simp;omega)]
 rfl
theorem Zwj (xs:List Int) (h:xs.length < 1048577):appI 8 [] xs=some xs:=by
 rw[Ys (by simp;omega) (by simp;omega)]
 rfl
theorem Yf5 {mem:List Int} {a s v:Int} (h:Zh1 mem a s=true) (hv:numG v s=true):Zrj mem a s v=some (putG mem a s v,true):=by
 obtain⟨h1,h2,h3,h4,h5⟩:=Zmu h
 have hb:=Ze8 s
 have hl:=Zu9 s
 simp only[numG,decide_eq_true_eq] at hv
 unfold Zrj Zji putG
 rw[Zos mem (by omega),Option.bind_some,Z0y mem a s (by omega),Option.bind_some,h,if_neg (by simp),Zfc,Option.bind_some,Zex,Option.bind_some]
 have hn:numG v s=true:=by simp[numG,hv]
 rw[hn,if_neg (by simp)]
 have key:∀(r n k:Nat) (l:List Int),r < n→(k:Int)+r=Z2 s→l.length=mem.length→Zjk mem a s v n l (Z2 s) k=some (putL r l (a+k) (v / 256^k),true):=by
  intro r
  induction r with
  | zero=>
   intro n k l hn hk _
   obtain⟨n,rfl⟩:∃m',n=m'+1:=⟨n - 1,by omega⟩
   show Zdu mem a s v _ l (Z2 s) k=_
   unfold Zdu
   rw[if_neg (by simp;omega)]
   rfl
  | succ r ih=>
   intro n k l hn hk hl2
   obtain⟨n,rfl⟩:∃m',n=m'+1:=⟨n - 1,by omega⟩
   show Zdu mem a s v _ l (Z2 s) k=_
   unfold Zdu
   have h6:0≤a+(k:Int):=by omega
   have h7:a+(k:Int) < (l.length:Int):=by omega
   have hp:=Yal k (by omega)
   have hp1:(0:Int) < 256^k:=Int.pow_pos (by omega)
   have h8:0≤v / 256^k:=Int.ediv_nonneg hv.1 (by omega)
   have h9:v / 256^k≤v:=Int.ediv_le_self _ hv.1
   rw[if_pos (by simp;omega),K8 (by omega) (by omega),Yj4 (by omega),Option.bind_some,Zr (a:=a) (by omega) (by omega),Yi h6 h7,Option.bind_some,Y1,Option.bind_some,show (8:Int)*(k:Int)=((8*k:Nat):Int) by omega,Ypf (by omega) hv.1,←hp.1,Ym9 h8 (by omega),Yo (by omega),ih n (k+1) _ (by omega) (by omega) (by simp[hl2])]
   simp only[putL]
   rw[Int.ediv_ediv_of_nonneg (by omega),←Int.pow_succ,show a+((k+1:Nat):Int)=a+k+1 by omega]
 have:=key (Z2 s).toNat FU 0 mem (by have:=Y5;omega) (by omega) rfl
 simpa using this
theorem Yfy {mem:List Int} {a s v:Int} (h:Zh1 mem a s=true) (hv:numG v s=true):Zr6 mem a s v=some (putG mem a s v,true):=by
 obtain⟨h1,h2,h3,h4,h5⟩:=Zmu h
 have hb:=Ze8 s
 have hl:=Zu9 s
 unfold Zr6 Zjn putG
 rw[Zwj mem (by omega),Option.bind_some,Z3a mem a s (by omega),Option.bind_some,h,if_neg (by simp),Q7,Option.bind_some,Zl4,Option.bind_some,hv,if_neg (by simp)]
 simp only[numG,decide_eq_true_eq] at hv
 have key:∀(r n k:Nat) (l:List Int) (x:Int),r < n→(k:Int)+r=Z2 s→l.length=mem.length→0≤x→x < 9223372036854775808→Zkf mem a s v n x l k=some (putL r l (a+k) x,true):=by
  intro r
  induction r with
  | zero=>
   intro n k l x hn hk _ _ _
   obtain⟨n,rfl⟩:∃m',n=m'+1:=⟨n - 1,by omega⟩
   show Zds mem a s v _ x l k=_
   unfold Zds
   rw[Q4,Option.bind_some,if_neg (by simp;omega)]
   rfl
  | succ r ih=>
   intro n k l x hn hk hl2 hx hx2
   obtain⟨n,rfl⟩:∃m',n=m'+1:=⟨n - 1,by omega⟩
   show Zds mem a s v _ x l k=_
   unfold Zds
   have h6:0≤a+(k:Int):=by omega
   have h7:a+(k:Int) < (l.length:Int):=by omega
   rw[Q4,Option.bind_some,if_pos (by simp;omega),Zr (a:=a) (by omega) (by omega),Yi h6 h7,Option.bind_some,Y1,Option.bind_some,Zbg hx,Z1t hx hx2 (by omega),Yo (by omega),ih n (k+1) _ _ (by omega) (by omega) (by simp[hl2]) (by omega) (by omega)]
   simp only[putL]
   rw[show a+((k+1:Nat):Int)=a+k+1 by omega]
 have:=key (Z2 s).toNat FU 0 mem v (by have:=Y5;omega) (by omega) rfl hv.1 (by omega)
 simpa using this
def GDev.sm (d:GDev):Prop:=d.regs.length < 1048577∧d.fifo.length < 1048577
def devG (d:GDev):Bool:=decide (d.regs.length=4)&&(d.regs.all (fun v=>numG v 2)&&(numG d.timer 2&&(decide (d.fifo.length≤4)&&d.fifo.all fun v=>numG v 2)))
theorem Z5v (d:GDev) (hs:d.sm):Zqh d=some (devG d):=by
 have hf:∀xs:List Int,xs.length < 1048577→Yr xs=some (!xs.all fun v=>numG v 2):=by
  intro xs hl
  unfold Yr W5
  refine Zqp xs (by omega) Zo5 (fun v=>numG v 2) (fun r hr=>?_) _ (fun m i=>rfl)
  unfold Zo5
  rw[Zfc];rfl
 unfold Zqh devG
 rw[hf _ hs.1,Option.bind_some,hf _ hs.2,Option.bind_some,Zfc,Option.bind_some]
 by_cases h1:d.regs.length=4
 ·have h2:(d.regs.length:Int)=4:=by omega
  by_cases h3:d.fifo.length≤4
  ·have h4:(d.fifo.length:Int)≤4:=by omega
   cases h5:(d.regs.all fun v=>numG v 2)<;>cases h6:(d.fifo.all fun v=>numG v 2)<;>cases h7:numG d.timer 2<;>simp[h1,h2,h3,h4]
  ·have h4:¬(d.fifo.length:Int)≤4:=by omega
   simp[h1,h2,h3,h4]
 ·have h2:¬(d.regs.length:Int)=4:=by omega
  simp[h1,h2]
theorem Z0a (xs:List Int) (hl:xs.length < 1048577):Zk1 xs=some (xs.all fun v=>numG v 2):=by
 unfold Zk1
 have key:∀(n k:Nat),k≤xs.length→xs.length - k < n→Zhc xs n k=some ((xs.drop k).all fun v=>numG v 2):=by
  intro n
  induction n with
  | zero=>intro k _ h;omega
  | succ n ih=>
   intro k hk hm
   show Zl6 xs _ k=_
   unfold Zl6
   by_cases hc:k < xs.length
   ·rw[if_pos (by simpa using hc),Yc hc,Option.bind_some,Q7,Option.bind_some,Zl4,Option.bind_some,List.drop_eq_getElem_cons hc,List.all_cons]
    by_cases hq:numG xs[k] 2=true
    ·rw[if_neg (by simp[hq]),Yo (by omega),ih (k+1) (by omega) (by omega)]
     simp[hq]
    ·rw[if_pos (by simp[hq])]
     simp[hq]
   ·rw[if_neg (by simpa using hc),List.drop_eq_nil_of_le (by omega)]
    rfl
 have:=key FU 0 (Nat.zero_le _) (by have:=Y5;omega)
 simpa using this
theorem Z53 (d:GDev) (hs:d.sm):Zqs d=some (devG d):=by
 unfold Zqs devG
 rw[Z0a _ hs.1,Option.bind_some,Z0a _ hs.2,Option.bind_some,Q7,Option.bind_some,Zl4,Option.bind_some]
 by_cases h1:d.regs.length=4
 ·have h2:(d.regs.length:Int)=4:=by omega
  by_cases h3:d.fifo.length≤4
  ·have h4:(d.fifo.length:Int)≤4:=by omega
   cases h5:(d.regs.all fun v=>numG v 2)<;>cases h6:(d.fifo.all fun v=>numG v 2)<;>cases h7:numG d.timer 2<;>simp[h1,h2,h3,h4]
  ·have h4:¬(d.fifo.length:Int)≤4:=by omega
   cases h5:(d.regs.all fun v=>numG v 2)<;>cases h7:numG d.timer 2<;>simp[h1,h2,h3,h4]
 ·have h2:¬(d.regs.length:Int)=4:=by omega
  simp[h1,h2]
structure DevP (d:GDev):Prop where
 regs:d.regs.length=4
 nums:∀v∈d.regs,numG v 2=true
 timer:numG d.timer 2=true
 len:d.fifo.length≤4
 fifo:∀v∈d.fifo,numG v 2=true
theorem Z7j {d:GDev}:devG d=true↔DevP d:=by
 simp only[devG,Bool.and_eq_true,decide_eq_true_eq,List.all_eq_true]
 constructor
 ·intro h;exact⟨h.1,h.2.1,h.2.2.1,h.2.2.2.1,h.2.2.2.2⟩
 ·intro h;exact⟨h.regs,h.nums,h.timer,h.len,h.fifo⟩
theorem DevP.sm {d:GDev} (h:DevP d):d.sm:=⟨by have:=h.regs;omega,by have:=h.len;omega⟩
theorem Z10 (d:GDev) (hs:d.sm):Zml d=some d:=by
 unfold Zml
 rw[Zos _ hs.1,Option.bind_some,Zos _ hs.2]
 rfl
theorem Z1y (d:GDev) (hs:d.sm):Znw d=some d:=by
 unfold Znw
 rw[Zwj _ hs.1,Option.bind_some,Zwj _ hs.2]
 rfl
def K5 (d:GDev) (w:Bool) (a v:Int):GDev×Int×Bool:=
 if (w&&!numG v 2)=true then (d,0,false) else
 if a=16 then (if w then ({d with timer:=v},v,true) else ({d with timer:=(d.timer+1) % 4294967296},d.timer,true)) else
 if a=20 then (if w then (if d.fifo.length < 4 then ({d with fifo:=d.fifo++[v]},v,true) else (d,0,false)) else (if d.fifo=[] then (d,0,false) else ({d with fifo:=d.fifo.tail},atI d.fifo 0,true))) else
 if (0≤a∧a < 16)∧a % 4=0 then (if w then ({d with regs:=d.regs.set (a / 4).toNat v},v,true) else (d,atI d.regs (a / 4),true)) else (d,0,false)
theorem num2 {v:Int} (h:numG v 2=true):0≤v∧v < 4294967296:=by
 simpa [numG,Zcy] using h
theorem Yhn {d:GDev} (w:Bool) (a v:Int) (h:DevP d):Zur d w a v=some (K5 d w a v):=by
 have ht:=num2 h.timer
 have hl:=h.len
 have hr:=h.regs
 unfold Zur
 rw[Z10 d h.sm,Option.bind_some,Z5v d h.sm,Option.bind_some,Z7j.2 h,Zfc,Option.bind_some]
 have hJ:Zam d w a v d false=some (if a=16 then (if w then ({d with timer:=v},v,true) else ({d with timer:=(d.timer+1) % 4294967296},d.timer,true)) else
 if a=20 then (if w then (if d.fifo.length < 4 then ({d with fifo:=d.fifo++[v]},v,true) else (d,0,false)) else (if d.fifo=[] then (d,0,false) else ({d with fifo:=d.fifo.tail},atI d.fifo 0,true))) else
 if (0≤a∧a < 16)∧a % 4=0 then (if w then ({d with regs:=d.regs.set (a / 4).toNat v},v,true) else (d,atI d.regs (a / 4),true)) else (d,0,false)):=by
  unfold Zam Zls Zgo Zgk Zgr
  by_cases h16:a=16
  ·subst h16
   rw[Z0h,Option.bind_some,show Zcy 2=4294967296 from rfl,Zis (by omega),Zr (by omega) (by omega),Zbg (by omega)]
   cases w<;>simp
  ·by_cases h20:a=20
   ·subst h20
    cases w with
    | true=>
     by_cases h3:d.fifo.length < 4
     ·have h4:(d.fifo.length:Int) < 4:=by omega
      rw[Ys (by simp;omega) (by simp;omega)]
      simp[h3,h4]
     ·have h4:¬(d.fifo.length:Int) < 4:=by omega
      simp[h3,h4]
    | false=>
     by_cases h3:d.fifo=[]
     ·simp[h3]
     ·have h4:0 < d.fifo.length:=List.length_pos_iff.2 h3
      have h5:(d.fifo.length:Int) > 0:=by omega
      rw[Yi (by omega) (by omega),Option.bind_some,Zr4 _ h3 (by omega),Option.bind_some,Zos _ (by simp;omega)]
      simp[h3,h5]
   ·by_cases h3:(0≤a∧a < 16)∧a % 4=0
    ·obtain⟨⟨h4,h5⟩,h6⟩:=h3
     have h7:¬a≥16:=by omega
     have h8:¬a < 0:=by omega
     rw[Z1t h4 (by omega) (by omega),Yi (xs:=d.regs) (by omega) (by omega),Option.bind_some,Option.bind_some,Y1,Zbg h4]
     cases w<;>simp[h16,h20,h4,h5,h6,h7,h8]
    ·by_cases h4:a≥16
     ·have h5:¬a < 16:=by omega
      cases w<;>simp[h16,h20,h4,h5]
     ·by_cases h5:a < 0
      ·have h6:¬0≤a:=by omega
       cases w<;>simp[h16,h20,h4,h5,h6]
      ·have h6:a % 4≠0:=fun h=>h3 ⟨by omega,h⟩
       rw[Zbg (by omega)]
       cases w<;>simp[h16,h20,h4,h5,h6]
 unfold K5
 cases w with
 | false=>simp only[Bool.not_true,Bool.false_eq_true,if_false,Bool.false_and];exact hJ
 | true=>
  by_cases hv:numG v 2=true
  ·simp only[hv,Bool.not_true,Bool.false_eq_true,if_false,if_true,Bool.and_false]
   exact hJ
  ·simp[hv,Zam]
theorem Yi1 {d:GDev} (w:Bool) (a v:Int) (h:DevP d):Zve d w a v=some (K5 d w a v):=by
 have ht:=num2 h.timer
 have hl:=h.len
 have hr:=h.regs
 unfold Zve
 rw[Z1y d h.sm,Option.bind_some,Z53 d h.sm,Option.bind_some,Z7j.2 h,Q7,Option.bind_some,Zl4,Option.bind_some]
 have hJ:∀_:remW a 4=0,Q9 d w a v d false=some (if a=16 then (if w then ({d with timer:=v},v,true) else ({d with timer:=(d.timer+1) % 4294967296},d.timer,true)) else
 if a=20 then (if w then (if d.fifo.length < 4 then ({d with fifo:=d.fifo++[v]},v,true) else (d,0,false)) else (if d.fifo=[] then (d,0,false) else ({d with fifo:=d.fifo.tail},atI d.fifo 0,true))) else
 if (0≤a∧a < 16)∧a % 4=0 then (if w then ({d with regs:=d.regs.set (a / 4).toNat v},v,true) else (d,atI d.regs (a / 4),true)) else (d,0,false)):=by
  intro hrem
  unfold Q9 Zlo Zlm Zgu Zgn
  rw[Yg,Option.bind_some,Option.bind_some]
  by_cases h16:a=16
  ·subst h16
   rw[Q7,Option.bind_some,show Zcy 2=4294967296 from rfl,Zis (by omega),Zr (by omega) (by omega),Zbg (by omega)]
   cases w<;>simp
  ·by_cases h20:a=20
   ·subst h20
    cases w with
    | true=>
     by_cases h3:d.fifo.length < 4
     ·have h4:(d.fifo.length:Int) < 4:=by omega
      rw[Ys (by simp;omega) (by simp;omega)]
      simp[h3,h4]
     ·have h4:¬(d.fifo.length:Int) < 4:=by omega
      simp[h3,h4]
    | false=>
     by_cases h3:d.fifo=[]
     ·simp[h3]
     ·have h4:0 < d.fifo.length:=List.length_pos_iff.2 h3
      have h5:(d.fifo.length:Int) > 0:=by omega
      rw[Yi (xs:=d.fifo) (by omega) (by omega),Option.bind_some,Zr4 _ h3 (by omega),Option.bind_some]
      simp[h3,h5]
   ·by_cases h3:0≤a∧a < 16
    ·rw[Zbg h3.1] at hrem
     have h4:0≤a∧a≤12:=by omega
     rw[Z1t h3.1 (by omega) (by omega),Yi (xs:=d.regs) (by omega) (by omega),Option.bind_some,Option.bind_some,Y1]
     cases w<;>simp[h16,h20,h3,h4,hrem]
    ·have h4:¬(0≤a∧a≤12):=by omega
     cases w<;>simp[h16,h20,h3,h4]
 unfold K5
 by_cases hrem:remW a 4=0
 ·rw[if_neg (by simp),if_neg (by simp[hrem])]
  cases w with
  | false=>simp only[Bool.false_eq_true,if_false,Bool.false_and];exact hJ hrem
  | true=>
   by_cases hv:numG v 2=true
   ·simp only[hv,Bool.not_true,Bool.false_eq_true,if_false,if_true,Bool.and_false]
    exact hJ hrem
   ·simp[hv,Q9]
 ·have h16:a≠16:=fun h=>hrem (by subst h;rfl)
  have h20:a≠20:=fun h=>hrem (by subst h;rfl)
  have h3:¬((0≤a∧a < 16)∧a % 4=0):=fun h=>hrem (by rw[Zbg h.1.1];exact h.2)
  rw[if_neg (by simp),if_pos (by simp[hrem])]
  simp only[h16,h20,h3,if_false,Q9,if_true]
  split<;>rfl
theorem Ypd {xs:List Int} {p:Int→Prop} (h:∀x∈xs,p x) {k:Nat} {v:Int} (hv:p v):∀x∈xs.set k v,p x:=by
 intro x hx
 rcases List.mem_or_eq_of_mem_set hx with hx|rfl
 ·exact h x hx
 ·exact hv
theorem Ym5 {d:GDev} {w:Bool} {a v:Int} (h:DevP d):DevP (K5 d w a v).1∧((K5 d w a v).2.2=true→numG (K5 d w a v).2.1 2=true):=by
 have ht:=num2 h.timer
 have hl:=h.len
 unfold K5
 split
 ·exact⟨h,by simp⟩
 ·rename_i hw
  have hv:w=true→numG v 2=true:=by
   intro h1
   rw[h1] at hw
   simpa using hw
  split
  ·split
   ·rename_i h1
    exact⟨⟨h.regs,h.nums,hv h1,h.len,h.fifo⟩,fun _=>hv h1⟩
   ·refine⟨⟨h.regs,h.nums,?_,h.len,h.fifo⟩,fun _=>h.timer⟩
    have:Zcy 2=4294967296:=rfl
    simp only[numG,this,decide_eq_true_eq]
    omega
  ·split
   ·split
    ·rename_i h1
     split
     ·rename_i h2
      refine⟨⟨h.regs,h.nums,h.timer,by simp;omega,fun x hx=>?_⟩,fun _=>hv h1⟩
      rcases List.mem_append.1 hx with hx|hx
      ·exact h.fifo x hx
      ·rw[List.mem_singleton.1 hx];exact hv h1
     ·exact⟨h,by simp⟩
    ·split
     ·exact⟨h,by simp⟩
     ·rename_i h2
      have h4:0 < d.fifo.length:=List.length_pos_iff.2 h2
      refine⟨⟨h.regs,h.nums,h.timer,by simp;omega,fun x hx=>h.fifo x (List.mem_of_mem_tail hx)⟩,fun _=>h.fifo _ (Zb3 (by omega) (by omega))⟩
   ·split
    ·rename_i h3
     split
     ·rename_i h1
      exact⟨⟨by simp[h.regs],Ypd h.nums (hv h1),h.timer,h.len,h.fifo⟩,fun _=>hv h1⟩
     ·refine⟨h,fun _=>h.nums _ (Zb3 (by omega) (by have:=h.regs;omega))⟩
    ·exact⟨h,by simp⟩
def Zp (a:Int):Int:=if a < 0∨224≤a then 0 else if a < 128 then 1 else if a < 192 then 2 else 3
theorem Zs7 (a:Int):Zk9 a=some (Zp a):=by
 unfold Zk9 Zhr Zp
 by_cases h1:a < 0
 ·simp[h1]
 ·by_cases h2:a≥224
  ·simp[h1,h2]
  ·by_cases h3:a < 128
   ·simp[h1,h2,h3]
   ·by_cases h4:a < 192<;>simp[h1,h2,h3,h4]
theorem Z0w (a:Int):Zpy a=some (Zp a):=by
 rw[←Zs7]
 rfl
def GModel.sm (m:GModel):Prop:=m.mem.length < 1048577∧m.dev.sm
def Ztq (m:GModel):Bool:=decide (m.mem.length=192)&&(m.mem.all Jc&&devG m.dev)
structure ModelP (m:GModel):Prop where
 len:m.mem.length=192
 bytes:m.mem.all Jc=true
 dev:DevP m.dev
theorem Zqn {m:GModel}:Ztq m=true↔ModelP m:=by
 simp only[Ztq,Bool.and_eq_true,decide_eq_true_eq,Z7j]
 constructor
 ·intro h;exact⟨h.1,h.2.1,h.2.2⟩
 ·intro h;exact⟨h.len,h.bytes,h.dev⟩
theorem ModelP.sm {m:GModel} (h:ModelP m):m.sm:=⟨by have:=h.len;omega,h.dev.sm⟩
theorem Z0g (m:GModel) (hs:m.sm):Zd1 m=some (Ztq m):=by
 unfold Zd1 Ztq
 rw[Z0y m.mem 0 0 hs.1,Option.bind_some,Z5v m.dev hs.2,Option.bind_some]
 by_cases h1:m.mem.length=192
 ·have h2:(m.mem.length:Int)=192:=by omega
  have h3:Zh1 m.mem 0 0=m.mem.all Jc:=by
   simp[Zh1,memG,h1,Yv,Z2]
  rw[h3]
  cases h4:m.mem.all Jc<;>simp[h1,h2]
 ·have h2:¬(m.mem.length:Int)=192:=by omega
  simp[h1,h2]
theorem Z0k (m:GModel) (hs:m.sm):Zky m=some (Ztq m):=by
 unfold Zky Ztq
 rw[Z02 m.mem hs.1,Option.bind_some,Z53 m.dev hs.2,Option.bind_some]
 by_cases h1:m.mem.length=192
 ·have h2:(m.mem.length:Int)=192:=by omega
  have h3:memG m.mem=m.mem.all Jc:=by
   simp[memG,h1]
  rw[h3]
  cases h4:m.mem.all Jc<;>simp[h1,h2]
 ·have h2:¬(m.mem.length:Int)=192:=by omega
  simp[h1,h2]
theorem Zqw (m:GModel) (hs:m.sm):Ze0 m=some m:=by
 unfold Ze0
 rw[Zos _ hs.1,Option.bind_some,Z10 _ hs.2]
 rfl
theorem Z3g (m:GModel) (hs:m.sm):Znt m=some m:=by
 unfold Znt
 rw[Zwj _ hs.1,Option.bind_some,Z1y _ hs.2]
 rfl
def X7 (m:GModel) (w:Bool) (a s v:Int):GModel×Int×Int:=
 if (Yv a s&&!(w&&!numG v s))=true then
  (if Zp a=1∨Zp a=2 then (if w then ({m with mem:=putG m.mem a s v},v,0) else (m,getG m.mem a s,0))
  else if Zp a=3∧s=2 then (if (K5 m.dev w (a - 192) v).2.2=true then ({m with dev:=(K5 m.dev w (a - 192) v).1},(K5 m.dev w (a - 192) v).2.1,0) else (m,0,1))
  else (m,0,1))
 else (m,0,1)
theorem Ylm {a:Int} (h:Zp a=1∨Zp a=2):0≤a∧a < 192:=by
 unfold Zp at h
 repeat' split at h
 all_goals omega
theorem Z8j {a:Int} (h:Zp a=3):192≤a∧a < 224:=by
 unfold Zp at h
 repeat' split at h
 all_goals omega
theorem Z3q {m:GModel} {a s:Int} (h:ModelP m) (ha:Yv a s=true) (hs:Zp a=1∨Zp a=2):Zh1 m.mem a s=true:=by
 have h1:=Ylm hs
 have h2:=h.len
 have h3:=Jb ha
 have h4:a+Z2 s≤192:=by
  have h5:=(Zin s).1 h3.1
  have h6:s=0∨s=1∨s=2:=by omega
  have h7:=h3.2.2
  rcases h6 with rfl|rfl|rfl<;>simp[Z2] at h7 ⊢<;>omega
 simp only[Zh1,memG,Bool.and_eq_true,decide_eq_true_eq]
 exact⟨⟨by omega,h.bytes⟩,ha,by omega⟩
theorem Yb8 {m:GModel} (w:Bool) (a s v:Int) (h:ModelP m):Zp0 m w a s v=some (X7 m w a s v):=by
 unfold Zp0 X7
 rw[Zqw m h.sm,Option.bind_some,Z0g m h.sm,Option.bind_some,Zqn.2 h,Zn1,Option.bind_some,Zfc,Option.bind_some,if_neg (by simp)]
 by_cases ha:Yv a s=true
 ·rw[ha,if_neg (by simp)]
  have hJ:(w=true→numG v s=true)→W4 m w a s v m false=some (if Zp a=1∨Zp a=2 then (if w then ({m with mem:=putG m.mem a s v},v,0) else (m,getG m.mem a s,0))
  else if Zp a=3∧s=2 then (if (K5 m.dev w (a - 192) v).2.2=true then ({m with dev:=(K5 m.dev w (a - 192) v).1},(K5 m.dev w (a - 192) v).2.1,0) else (m,0,1))
  else (m,0,1)):=by
   intro hw
   unfold W4
   rw[if_neg (by simp),Zs7,Option.bind_some]
   unfold Zhu Zhv Zag
   rw[Zqw m h.sm,Option.bind_some]
   by_cases h1:Zp a=1∨Zp a=2
   ·have h3:¬Zp a=3:=by omega
    have hf:=Z3q h ha h1
    cases w with
    | true=>
     rw[Yf5 hf (hw rfl),Option.bind_some]
     rcases h1 with h1|h1<;>simp[h1,h3]
    | false=>
     rw[Yeo hf,Option.bind_some]
     rcases h1 with h1|h1<;>simp[h1,h3]
   ·have h2:¬Zp a=1:=fun h=>h1 (.inl h)
    have h4:¬Zp a=2:=fun h=>h1 (.inr h)
    by_cases h3:Zp a=3
    ·have h5:=Z8j h3
     rw[Z9 (by omega) (by omega),Yhn w _ v h.dev,Option.bind_some]
     by_cases h6:s=2
     ·by_cases h7:(K5 m.dev w (a - 192) v).2.2=true<;>simp[h3,h6,h7]
     ·simp[h3,h6]
    ·simp[h2,h3,h4]
  cases w with
  | false=>
   simp only[Bool.false_eq_true,if_false,Bool.false_and,Bool.not_false,Bool.and_true,if_true]
   exact hJ (by simp)
  | true=>
   by_cases hv:numG v s=true
   ·simp only[hv,Bool.not_true,if_true,Bool.and_false,Bool.not_false,Bool.and_true]
    exact hJ (fun _=>hv)
   ·simp[hv,W4]
 ·simp[ha,W4]
theorem Z0m {m:GModel} (w:Bool) (a s v:Int) (h:ModelP m):Zku m w a s v=some (X7 m w a s v):=by
 unfold Zku X7
 rw[Z3g m h.sm,Option.bind_some,Z0k m h.sm,Option.bind_some,Zqn.2 h,Zoh,Option.bind_some,Q7,Option.bind_some,Zl4,Option.bind_some,if_neg (by simp)]
 by_cases ha:Yv a s=true
 ·rw[ha,if_neg (by simp)]
  have hJ:(w=true→numG v s=true)→W3 m w a s v m false=some (if Zp a=1∨Zp a=2 then (if w then ({m with mem:=putG m.mem a s v},v,0) else (m,getG m.mem a s,0))
  else if Zp a=3∧s=2 then (if (K5 m.dev w (a - 192) v).2.2=true then ({m with dev:=(K5 m.dev w (a - 192) v).1},(K5 m.dev w (a - 192) v).2.1,0) else (m,0,1))
  else (m,0,1)):=by
   intro hw
   unfold W3
   rw[if_neg (by simp),Z0w,Option.bind_some]
   unfold Zh7 Zhm
   by_cases h1:Zp a=1∨Zp a=2
   ·have h3:¬Zp a=3:=by omega
    have hf:=Z3q h ha h1
    cases w with
    | true=>
     rw[Yfy hf (hw rfl),Option.bind_some]
     rcases h1 with h1|h1<;>simp[h1,h3]
    | false=>
     rw[Yd6 hf,Option.bind_some]
     rcases h1 with h1|h1<;>simp[h1,h3]
   ·have h2:¬Zp a=1:=fun h=>h1 (.inl h)
    have h4:¬Zp a=2:=fun h=>h1 (.inr h)
    by_cases h3:Zp a=3
    ·have h5:=Z8j h3
     rw[Z9 (by omega) (by omega),Yi1 w _ v h.dev,Option.bind_some]
     by_cases h6:s=2
     ·by_cases h7:(K5 m.dev w (a - 192) v).2.2=true<;>simp[h3,h6,h7]
     ·simp[h3,h6]
    ·simp[h2,h3,h4]
  cases w with
  | false=>
   simp only[Bool.false_eq_true,if_false,Bool.false_and,Bool.not_false,Bool.and_true,if_true]
   exact hJ (by simp)
  | true=>
   by_cases hv:numG v s=true
   ·simp only[hv,Bool.not_true,if_true,Bool.and_false,Bool.not_false,Bool.and_true]
    exact hJ (fun _=>hv)
   ·simp[hv,W3]
 ·simp[ha,W3]
theorem Ylo (s:Int) (h:0 < Z2 s):(256:Int)^(Z2 s).toNat=Zcy s:=by
 have h1:=(Zin s).1 h
 have:s=0∨s=1∨s=2:=by omega
 rcases this with rfl|rfl|rfl<;>decide
theorem Z4n {m:GModel} {w:Bool} {a s v:Int} (h:ModelP m) (hs:Yv a s=true):ModelP (X7 m w a s v).1∧numG (X7 m w a s v).2.1 s=true∧((X7 m w a s v).2.2=0∨(X7 m w a s v).2.2=1):=by
 have hp:=Jb hs
 have hz:numG 0 s=true:=by
  have h1:=(Zin s).1 hp.1
  have:s=0∨s=1∨s=2:=by omega
  rcases this with rfl|rfl|rfl<;>decide
 unfold X7
 split
 ·rename_i h1
  split
  ·rename_i h2
   have hf:=Z3q h hs h2
   split
   ·rename_i hw
    have hv:numG v s=true:=by
     rw[hw] at h1
     simpa [hs] using h1
    exact⟨⟨by simp only[putG,Ynr,h.len],Yg3 _ _ _ _ h.bytes,h.dev⟩,hv,.inl rfl⟩
   ·obtain⟨h3,h4,h5,h6,h7⟩:=Zmu hf
    have h8:=Ygv h4 (Z2 s).toNat a h6 (by omega)
    rw[Ylo s h5] at h8
    exact⟨h,by simp only[numG,getG];exact decide_eq_true h8,.inl rfl⟩
  ·split
   ·rename_i h3
    split
    ·rename_i h4
     have h5:=Ym5 (w:=w) (a:=a - 192) (v:=v) h.dev
     have h6:=h5.2 h4
     rw[h3.2]
     exact⟨⟨h.len,h.bytes,h5.1⟩,h6,.inl rfl⟩
    ·exact⟨h,hz,.inr rfl⟩
   ·exact⟨h,hz,.inr rfl⟩
 ·exact⟨h,hz,.inr rfl⟩
def Z5 (p:Option Bool) (P:Prop):Prop:=∃r,p=some r∧(r=true↔P)
theorem Z5.of {b:Bool} {P:Prop} (h:b=true↔P):Z5 (some b) P:=⟨b,rfl,h⟩
theorem Z5.iff {p:Option Bool} {P Q:Prop} (h:Z5 p P) (e:P↔Q):Z5 p Q:=by
 obtain⟨r,h1,h2⟩:=h;exact⟨r,h1,h2.trans e⟩
theorem Z5.yes {P:Prop} (h:P):Z5 (some true) P:=⟨true,rfl,by simp[h]⟩
theorem Z5.no {P:Prop} (h:¬P):Z5 (some false) P:=⟨false,rfl,by simp[h]⟩
theorem Z5.eq {p q:Option Bool} {P:Prop} (h:Z5 p P) (h':Z5 q P):∃r,p=some r∧q=some r∧(r=true↔P):=by
 obtain⟨r,h1,h2⟩:=h
 obtain⟨r',h3,h4⟩:=h'
 have:r=r':=by
  cases r<;>cases r'<;>simp_all
 subst this
 exact⟨r,h1,h3,h2⟩
theorem Z5.bnd {x:Option Bool} {P Q:Prop} {f:Bool→Option Bool} (h:Z5 x P) (h1:P→Z5 (f true) Q) (h2:¬P→Z5 (f false) Q):Z5 (x.bind f) Q:=by
 obtain⟨r,rfl,hr⟩:=h
 rw[Option.bind_some]
 cases r with
 | true=>exact h1 (hr.1 rfl)
 | false=>exact h2 (fun hp=>by simpa using hr.2 hp)
theorem Z5.and {x y:Option Bool} {P Q:Prop} (h:Z5 x P) (h1:P→Z5 y Q):Z5 (x.bind fun r=>if r=true then y else some false) (P∧Q):=by
 refine h.bnd (fun hp=>?_) (fun hp=>?_)
 ·rw[if_pos rfl];exact (h1 hp).iff ⟨fun q=>⟨hp,q⟩,fun q=>q.2⟩
 ·rw[if_neg (by simp)];exact .no fun q=>hp q.1
section
variable {σ:Type}
theorem Zrc {n:Nat} (hn:n < 4611686018427387904) {P:Nat→Prop} {Q:Prop} (st:Nat→σ) {B:(σ→Int→Option Bool)→σ→Int→Option Bool} {L:Nat→σ→Int→Option Bool} (hL:∀m s i,L (m+1) s i=B (L m) s i)
  (hs:∀k,k < n→(P k∧∀κ,B κ (st k) (k:Int)=κ (st (k+1)) (addW (k:Int) 1))∨(¬P k∧∀κ,B κ (st k) (k:Int)=some false))
  (hf:(∀k,k < n→P k)→∃r,(∀κ,B κ (st n) (n:Int)=some r)∧(r=true↔Q)):Z5 (L FU (st 0) 0) ((∀k,k < n→P k)∧Q):=by
 have key:∀(m k:Nat),k≤n→n - k < m→(∀j,j < k→P j)→Z5 (L m (st k) (k:Int)) ((∀j,j < n→P j)∧Q):=by
  intro m
  induction m with
  | zero=>intro k _ h;omega
  | succ m ih=>
   intro k hk hm hp
   rw[hL]
   by_cases hc:k < n
   ·rcases hs k hc with⟨h1,h2⟩|⟨h1,h2⟩
    ·rw[h2,Yo (by omega)]
     refine ih (k+1) (by omega) (by omega) fun j hj=>?_
     by_cases hjk:j=k
     ·subst hjk;exact h1
     ·exact hp j (by omega)
    ·rw[h2];exact .no fun q=>h1 (q.1 k hc)
   ·have:k=n:=by omega
    subst this
    obtain⟨r,hr,hq⟩:=hf hp
    rw[hr]
    exact .of ⟨fun h=>⟨hp,hq.1 h⟩,fun h=>hq.2 h.2⟩
 have:=key FU 0 (Nat.zero_le _) (by have:=Y5;omega) (fun j hj=>by omega)
 simpa using this
theorem Zk6 {n:Nat} (hn:n < 4611686018427387904) {P:Nat→Prop} {Q:Prop} {B:(Int→Option Bool)→Int→Option Bool} {L:Nat→Int→Option Bool} (hL:∀m i,L (m+1) i=B (L m) i)
  (hs:∀k,k < n→(P k∧∀κ,B κ (k:Int)=κ (addW (k:Int) 1))∨(¬P k∧∀κ,B κ (k:Int)=some false))
  (hf:(∀k,k < n→P k)→∃r,(∀κ,B κ (n:Int)=some r)∧(r=true↔Q)):Z5 (L FU 0) ((∀k,k < n→P k)∧Q):=
 Zrc (σ:=Unit) hn (fun _=>()) (B:=fun κ _ i=>B (κ ()) i) (L:=fun m _ i=>L m i) (fun m _ i=>hL m i) (fun k hk=>(hs k hk).imp (fun h=>⟨h.1,fun κ=>h.2 _⟩) fun h=>⟨h.1,fun κ=>h.2 _⟩)
  (fun h=>by obtain⟨r,h1,h2⟩:=hf h;exact⟨r,fun κ=>h1 _,h2⟩)
end
instance:Inhabited GDone:=⟨GDone.z0⟩
instance:Inhabited GBeat:=⟨GBeat.z0⟩
def Zx (m:GMst):Bool:=decide (m.queue≠[])&&((atI m.queue 0).lock&&!m.broken)
def flyG (b:GBus) (i:Int):Int:=(if b.addr.live=true∧b.addr.who=i then 1 else 0)+(if b.data_.live=true∧b.data_.who=i then 1 else 0)
structure MstP (c:GConf) (b:GBus) (i:Int):Prop where
 right:RightP (atI b.m i)
 tries:(atI b.m i).tries≤c.maxRetry
 bucket:Z0 (atI b.buckets i) (atI c.masters i)=true
 split:0≤atI b.splits i∧atI b.splits i≤c.maxSplit
def Kb (b:GBus) (x:GBeat):Prop:=Za b.conf x.who=true∧(1≤x.by_∧x.by_≤3)∧atI b.splits x.who=0
def Wc (b:GBus):Prop:=if b.addr.live=true then b.addr.beat=(atI b.m b.addr.who).beat - 1∧b.addr.left=0∧b.addr.resp=0∧b.addr.second=false else b.addr=GBeat.z0
def X2 (b:GBus):Prop:=if b.data_.live=true then
  (b.data_.beat=(atI b.m b.data_.who).done∧(0≤b.data_.left∧b.data_.left≤b.conf.maxWait+2)∧(0≤b.data_.resp∧b.data_.resp≤3))∧
  (b.data_.resp=2→(atI b.m b.data_.who).tries < b.conf.maxRetry)∧(b.data_.resp=3→(atI b.m b.data_.who).parted=false∧b.data_.who≠b.holder)∧
  (b.data_.second=true→b.data_.left=0∧b.data_.resp≠0∧b.addr.live=false)
 else b.data_=GBeat.z0
def Zfm (b:GBus):Prop:=(∀i,Za b.conf i=true→(atI b.m i).beat > 0→Zx (atI b.m i)=true→b.holder=i)∧
 (if b.holder=-1 then b.held=0 else Za b.conf b.holder=true∧Zx (atI b.m b.holder)=true∧atI b.splits b.holder=0∧(0≤b.held∧b.held≤b.conf.lockMost))
def Zyr (c:GConf) (now:Int) (d:GDone):Prop:=(0≤d.cycle∧d.cycle < now)∧Za c d.who=true∧Yv d.addr d.size=true∧d.addr < 512∧numG d.value d.size=true∧(d.resp=0∨d.resp=1)
def logP (b:GBus):Prop:=(∀d∈b.log,Zyr b.conf b.now d)∧b.log.Pairwise fun x y=>x.cycle < y.cycle
structure BusP (b:GBus):Prop where
 conf:Zz b.conf=true
 now:0≤b.now∧b.now≤4000
 ml:b.m.length=b.conf.masters.length
 bl:b.buckets.length=b.conf.masters.length
 sl:b.splits.length=b.conf.masters.length
 mst:∀i,Za b.conf i=true→MstP b.conf b i
 arb:wrrG b.arb b.conf=true
 last:b.last=-1∨Za b.conf b.last=true
 model:ModelP b.model
 picks:0≤b.picks∧b.picks≤b.now
 alive:b.addr.live=true→Kb b b.addr
 dlive:b.data_.live=true→Kb b b.data_
 fly:∀i,Za b.conf i=true→(atI b.m i).beat - (atI b.m i).done=flyG b i
 addr:Wc b
 data:X2 b
 held:Zfm b
 log:logP b
structure GBus.sm (b:GBus):Prop where
 conf:b.conf.masters.length < 1048577
 ml:b.m.length < 1048577
 mst:∀x∈b.m,x.sm
 bl:b.buckets.length < 1048577
 sl:b.splits.length < 1048577
 model:b.model.sm
 log:b.log.length < 1048577
theorem mas {c:GConf} {k:Nat} (h:k < c.masters.length):Za c (k:Int)=true:=by simp[Za,h]
theorem Zwk {c:GConf} {i:Int} (h:Za c i=true):∃k:Nat,i=(k:Int)∧k < c.masters.length:=by
 simp only[Za,decide_eq_true_eq] at h
 exact⟨i.toNat,by omega,by omega⟩
theorem Zr7 {c:GConf} {P:Int→Prop}:(∀i,Za c i=true→P i)↔∀k:Nat,k < c.masters.length→P (k:Int):=by
 constructor
 ·intro h k hk;exact h _ (mas hk)
 ·intro h i hi
  obtain⟨k,rfl,hk⟩:=Zwk hi
  exact h k hk
theorem Y2 {b:GBus} (hl:b.m.length=b.conf.masters.length) {i:Int} (h:Za b.conf i=true):idx b.m i=some (atI b.m i):=by
 simp only[Za,decide_eq_true_eq] at h;exact Yi h.1 (by omega)
theorem Z1p {b:GBus} (hl:b.buckets.length=b.conf.masters.length) {i:Int} (h:Za b.conf i=true):idx b.buckets i=some (atI b.buckets i):=by
 simp only[Za,decide_eq_true_eq] at h;exact Yi h.1 (by omega)
theorem Zlq {b:GBus} (hl:b.splits.length=b.conf.masters.length) {i:Int} (h:Za b.conf i=true):idx b.splits i=some (atI b.splits i):=by
 simp only[Za,decide_eq_true_eq] at h;exact Yi h.1 (by omega)
theorem Zub {c:GConf} {i:Int} (h:Za c i=true):idx c.masters i=some (atI c.masters i):=by
 simp only[Za,decide_eq_true_eq] at h;exact Yi h.1 h.2
theorem mem_m {b:GBus} (hl:b.m.length=b.conf.masters.length) {i:Int} (h:Za b.conf i=true):atI b.m i∈b.m:=by
 simp only[Za,decide_eq_true_eq] at h;exact Zb3 h.1 (by omega)
theorem Z40 (x:GBeat):((x.live == false)&&(decide (x.who=0)&&(decide (x.beat=0)&&((x.first == false)&&(decide (x.by_=0)&&(decide (x.left=0)&&(decide (x.resp=0)&&((x.second == false)&&true))))))))=true↔x=GBeat.z0:=by
 obtain⟨a1,a2,a3,a4,a5,a6,a7,a8⟩:=x
 simp only[Bool.and_eq_true,beq_iff_eq,decide_eq_true_eq,GBeat.mk.injEq,and_true]
theorem Zxy (m:GMst):Zma m=some (Zx m):=by
 unfold Zma Zx
 by_cases h:m.queue=[]
 ·simp[h]
 ·have h1:0 < m.queue.length:=List.length_pos_iff.2 h
  rw[Yi (by omega) (by omega),Option.bind_some,if_pos (by simp;omega)]
  cases h2:(atI m.queue 0).lock<;>simp[h]
theorem Zqm (b:GBus) (hs:b.sm) (hc:Zz b.conf=true):Z5 (Zdp b) (b.m.length=b.conf.masters.length∧b.buckets.length=b.conf.masters.length∧b.splits.length=b.conf.masters.length∧∀i,Za b.conf i=true→MstP b.conf b i):=by
 unfold Zdp
 by_cases h1:b.m.length=b.conf.masters.length
 ·rw[if_neg (by simp;omega)]
  by_cases h2:b.buckets.length=b.conf.masters.length
  ·rw[if_neg (by simp;omega)]
   unfold X4
   by_cases h3:b.splits.length=b.conf.masters.length
   ·rw[if_neg (by simp;omega)]
    have:=Wy hc
    refine (Zk6 (n:=b.m.length) (P:=fun k=>MstP b.conf b (k:Int)) (Q:=True) (by omega) (B:=Jd b) (fun m i=>rfl) (fun k hk=>?_) fun _=>⟨true,fun κ=>?_,by simp⟩).iff ?_
    ·have hm:=mas (c:=b.conf) (k:=k) (by omega)
     have hms:=hs.mst _ (mem_m h1 hm)
     unfold Jd
     simp only[if_pos (show decide ((k:Int) < (b.m.length:Int))=true by simpa using hk),Y2 h1 hm,Z1p h2 hm,Zlq h3 hm,Zub hm,Option.bind_some,K6 _ hms,Zy0,Y0]
     by_cases e1:Zqd (atI b.m (k:Int))=true
     ·by_cases e2:(atI b.m (k:Int)).tries≤b.conf.maxRetry
      ·by_cases e3:Z0 (atI b.buckets (k:Int)) (atI b.conf.masters (k:Int))=true
       ·by_cases e4:0≤atI b.splits (k:Int)∧atI b.splits (k:Int)≤b.conf.maxSplit
        ·refine .inl ⟨⟨Qd.1 e1,e2,e3,e4⟩,fun κ=>?_⟩
         have e5:¬(atI b.m (k:Int)).tries > b.conf.maxRetry:=by omega
         simp[e1,e3,e4,e5]
        ·refine .inr ⟨fun h=>e4 h.split,fun κ=>?_⟩
         simp[e1,e3,e4]
       ·refine .inr ⟨fun h=>e3 h.bucket,fun κ=>?_⟩
        simp[e1,e3]
      ·refine .inr ⟨fun h=>e2 h.tries,fun κ=>?_⟩
       have e5:(atI b.m (k:Int)).tries > b.conf.maxRetry:=by omega
       simp[e1,e5]
     ·refine .inr ⟨fun h=>e1 (Qd.2 h.right),fun κ=>?_⟩
      simp[e1]
    ·unfold Jd
     rw[if_neg (by simp)]
    ·rw[and_true,h1,←Zr7]
     exact⟨fun h=>⟨rfl,h2,h3,h⟩,fun h=>h.2.2.2⟩
   ·rw[if_pos (by simp;omega)]
    exact .no fun h=>h3 h.2.2.1
  ·rw[if_pos (by simp;omega)]
   unfold X4
   rw[if_pos rfl]
   exact .no fun h=>h2 h.2.1
 ·rw[if_pos (by simp;omega)]
  unfold X4
  rw[if_pos rfl]
  exact .no fun h=>h1 h.1
theorem Ylw (b:GBus):Znv b=some ([b.addr,b.data_].filter (·.live)):=by
 unfold Znv
 have:Y4 [b.addr,b.data_]=some ([b.addr,b.data_].filter (·.live)):=by
  unfold Y4 Wf
  exact Yfb [b.addr,b.data_] GBeat.z0 (by simp) Zke (·.live) (fun a _=>rfl) _ (fun m i=>rfl) _ (fun m v i j=>rfl)
 rw[this]
 rfl
def flyL:List GBeat→List Int→List Int
 | [],l=>l
 | x::xs,l=>flyL xs (l.set x.who.toNat (atI l x.who+1))
theorem Yk9:∀(xs:List GBeat) (x:GBeat) (l:List Int),flyL (xs++[x]) l=(flyL xs l).set x.who.toNat (atI (flyL xs l) x.who+1):=by
 intro xs
 induction xs with
 | nil=>intro x l;rfl
 | cons y xs ih=>intro x l;exact ih x _
theorem Yb7:∀(xs:List GBeat) (l:List Int),(flyL xs l).length=l.length:=by
 intro xs
 induction xs with
 | nil=>intro l;rfl
 | cons y xs ih=>intro l;rw[flyL,ih,List.length_set]
theorem Ypn:∀(xs:List GBeat) (l:List Int) (i:Int),0≤i→i < (l.length:Int)→(∀x∈xs,0≤x.who∧x.who < (l.length:Int))→atI (flyL xs l) i=atI l i+(xs.countP fun x=>decide (x.who=i):Nat):=by
 intro xs
 induction xs with
 | nil=>intro l i _ _ _;simp[flyL]
 | cons y xs ih=>
  intro l i h0 h1 hx
  have hy:=hx y (List.mem_cons_self ..)
  rw[flyL,ih _ i h0 (by simpa using h1) (fun x hxm=>by simpa using hx x (List.mem_cons_of_mem _ hxm)),List.countP_cons]
  by_cases h:y.who=i
  ·subst h
   rw[Zg1 _ hy.1 hy.2]
   simp;omega
  ·rw[Zz5 _ hy.1 h0 h]
   simp[h]
theorem Yjw (b:GBus) (i:Int):(([b.addr,b.data_].filter (·.live)).countP fun x=>decide (x.who=i):Nat)=flyG b i:=by
 unfold flyG
 by_cases h1:b.addr.live=true<;>by_cases h2:b.data_.live=true<;>by_cases h3:b.addr.who=i<;>by_cases h4:b.data_.who=i<;>simp[h1,h2,h3,h4]
theorem Ym2 {b:GBus} {P:GBeat→Prop}:(∀k (h:k < ([b.addr,b.data_].filter (·.live)).length),P (([b.addr,b.data_].filter (·.live))[k]))↔(b.addr.live=true→P b.addr)∧(b.data_.live=true→P b.data_):=by
 have:(∀k (h:k < ([b.addr,b.data_].filter (·.live)).length),P (([b.addr,b.data_].filter (·.live))[k]))↔∀x∈[b.addr,b.data_].filter (·.live),P x:=by
  constructor
  ·intro h x hx
   obtain⟨k,hk,rfl⟩:=List.getElem_of_mem hx
   exact h k hk
  ·intro h k hk;exact h _ (List.getElem_mem hk)
 rw[this]
 constructor
 ·intro h;exact⟨fun h1=>h _ (by simp[h1]),fun h1=>h _ (by simp[h1])⟩
 ·intro h x hx
  simp only[List.mem_filter,List.mem_cons,List.not_mem_nil,or_false] at hx
  rcases hx with⟨rfl|rfl,hx⟩
  ·exact h.1 hx
  ·exact h.2 hx
theorem Z4z (b:GBus):Z5 (X1 b false) (b.data_.second=true→b.data_.left=0∧b.data_.resp≠0∧b.addr.live=false):=by
 unfold X1
 rw[if_neg (by simp)]
 by_cases h1:b.data_.second=true
 ·rw[if_neg (by simp[h1])]
  by_cases h2:b.data_.left=0
  ·rw[if_pos (by simpa using h2)]
   by_cases h3:b.data_.resp=0
   ·rw[if_neg (by simpa using h3)];exact .no fun h=>(h h1).2.1 h3
   ·rw[if_pos (by simpa using h3)]
    exact .of (by simp[h1,h2,h3])
  ·rw[if_neg (by simpa using h2)];exact .no fun h=>h2 (h h1).1
 ·rw[if_pos (by simpa using h1)];exact .yes fun h=>absurd h h1
theorem Ym {c:GConf} (hc:Zz c=true):(0≤c.maxRetry∧c.maxRetry≤3)∧(0≤c.maxWait∧c.maxWait≤3)∧(1≤c.lockMost∧c.lockMost≤40)∧(1≤c.maxSplit∧c.maxSplit≤12):=by
 simp only[Zz,Bool.and_eq_true,decide_eq_true_eq] at hc
 have h3:=hc.1.2
 have h4:Zct c≠0:=fun h=>h3 (by unfold Wi;rw[if_pos h])
 have h5:1≤c.lockMost∧c.lockMost≤40:=by
  unfold Wi at h3
  rw[if_neg h4] at h3
  by_cases h6:1≤c.lockMost∧c.lockMost≤40
  ·exact h6
  ·rw[if_neg h6] at h3;exact absurd rfl h3
 have h6:(0≤c.maxRetry∧c.maxRetry≤3)∧(0≤c.maxWait∧c.maxWait≤3):=by
  unfold Zct at h4
  by_cases h7:(0≤c.maxRetry∧c.maxRetry≤3)∧(0≤c.maxWait∧c.maxWait≤3)
  ·exact h7
  ·rw[if_neg h7] at h4;exact absurd rfl h4
 exact⟨h6.1,h6.2,h5,hc.1.1.2⟩
theorem Yjh (b:GBus) (hc:Zz b.conf=true) (h1:b.m.length=b.conf.masters.length) (hl:b.data_.live=true→Kb b b.data_):Z5 (Yf b false) (X2 b):=by
 have hw:=(Ym hc).2.1
 unfold Yf X2
 rw[if_neg (by simp)]
 by_cases hd:b.data_.live=true
 ·obtain⟨hm,hby,hsp⟩:=hl hd
  rw[if_neg (by simp[hd]),Y2 h1 hm,Option.bind_some,if_pos hd,Y0,Option.bind_some,Y0,Option.bind_some,Zr (by omega) (by omega)]
  have hJ6:∀v,Z5 (Kw b (atI b.m b.data_.who) v) (v=false∧(b.data_.resp=3→(atI b.m b.data_.who).parted=false∧b.data_.who≠b.holder)∧(b.data_.second=true→b.data_.left=0∧b.data_.resp≠0∧b.addr.live=false)):=by
   intro v
   unfold Kw
   cases v with
   | true=>rw[if_pos rfl];exact .no fun h=>by simp at h
   | false=>
    rw[if_neg (by simp)]
    by_cases h3:b.data_.resp=3
    ·rw[if_pos (by simpa using h3)]
     by_cases h4:(atI b.m b.data_.who).parted=true
     ·rw[if_pos h4]
      unfold X1
      rw[if_pos rfl]
      exact .no fun h=>by have:=(h.2.1 h3).1;rw[h4] at this;cases this
     ·rw[if_neg h4]
      by_cases h5:b.data_.who=b.holder
      ·rw[decide_eq_true h5]
       unfold X1
       rw[if_pos rfl]
       exact .no fun h=>(h.2.1 h3).2 h5
      ·rw[decide_eq_false h5]
       exact (Z4z b).iff ⟨fun h=>⟨rfl,fun _=>⟨by simpa using h4,h5⟩,h⟩,fun h=>h.2.2⟩
    ·rw[if_neg (by simpa using h3)]
     exact (Z4z b).iff ⟨fun h=>⟨rfl,fun h6=>absurd h6 h3,h⟩,fun h=>h.2.2⟩
  have hJ5:∀v,Z5 (Qm b (atI b.m b.data_.who) v) (v=false∧(b.data_.resp=2→(atI b.m b.data_.who).tries < b.conf.maxRetry)∧(b.data_.resp=3→(atI b.m b.data_.who).parted=false∧b.data_.who≠b.holder)∧(b.data_.second=true→b.data_.left=0∧b.data_.resp≠0∧b.addr.live=false)):=by
   intro v
   unfold Qm
   cases v with
   | true=>rw[if_pos rfl];exact .no fun h=>by simp at h
   | false=>
    rw[if_neg (by simp)]
    by_cases h3:b.data_.resp=2
    ·rw[if_pos (by simpa using h3)]
     refine (hJ6 _).iff ?_
     simp[h3]
    ·rw[if_neg (by simpa using h3)]
     refine (hJ6 _).iff ?_
     simp[h3]
  by_cases h3:b.data_.beat=(atI b.m b.data_.who).done
  ·rw[if_neg (by simpa using h3)]
   by_cases h4:0≤b.data_.left∧b.data_.left≤b.conf.maxWait+2
   ·rw[if_neg (by simpa using h4)]
    refine (hJ5 _).iff ?_
    simp[h3,h4]
   ·rw[if_pos (by rw[decide_eq_false h4];rfl)]
    exact (hJ5 _).iff ⟨fun h=>by simp at h,fun h=>absurd h.1.2.1 h4⟩
  ·rw[if_pos (by simpa using h3)]
   exact (hJ5 _).iff ⟨fun h=>by simp at h,fun h=>absurd h.1.1 h3⟩
 ·rw[if_pos (by simpa using hd),if_neg hd]
  exact .of (Z40 _)
theorem Yk0 {l:List Int} {N:Int} (hN:0≤N) (h:∀v∈l,0≤v∧v≤N) (i:Int):0≤atI l i∧atI l i≤N:=by
 unfold atI
 rw[List.getD_eq_getElem?_getD]
 cases hg:l[i.toNat]? with
 | none=>exact⟨Int.le_refl _,hN⟩
 | some v=>exact h v (List.mem_of_getElem? hg)
theorem Ymp:∀(xs:List GBeat) (l:List Int) (N:Int),0≤N→(∀v∈l,0≤v∧v≤N)→∀v∈flyL xs l,0≤v∧v≤N+xs.length:=by
 intro xs
 induction xs with
 | nil=>intro l N _ h v hv;have:=h v hv;simpa using this
 | cons x xs ih=>
  intro l N hN h v hv
  have h2:=Yk0 hN h x.who
  have:=ih (l.set x.who.toNat (atI l x.who+1)) (N+1) (by omega) (fun y hy=>by
   rcases List.mem_or_eq_of_mem_set hy with hy|rfl
   ·have:=h y hy;omega
   ·omega) v hv
  simp only[List.length_cons]
  omega
theorem Z36 (b:GBus) (hc:Zz b.conf=true) (h1:b.m.length=b.conf.masters.length) (h3:b.splits.length=b.conf.masters.length) (hr:∀i,Za b.conf i=true→RightP (atI b.m i)):
  Z5 (Jt b) (((b.addr.live=true→Kb b b.addr)∧(b.data_.live=true→Kb b b.data_))∧(∀i,Za b.conf i=true→(atI b.m i).beat - (atI b.m i).done=flyG b i)∧Wc b∧X2 b):=by
 have hlen:=Wy hc
 have hlt:=Jv hc
 unfold Jt
 rw[Ybn (by omega) (by omega),Option.bind_some,Ylw,Option.bind_some]
 generalize hLs:[b.addr,b.data_].filter (·.live)=ls
 have hls:ls.length≤2:=by
  rw[←hLs]
  exact Nat.le_trans (List.length_filter_le ..) (by simp)
 have hmast:∀x:GBeat,Za b.conf x.who=true→0≤x.who∧x.who < (b.m.length:Int):=fun x h=>by
  simp only[Za,decide_eq_true_eq] at h;omega
 have hL2:(∀x∈ls,Za b.conf x.who=true)→((b.addr.live=true→Kb b b.addr)∧(b.data_.live=true→Kb b b.data_))→Z5 (Kv b FU (flyL ls (List.replicate b.m.length 0)) 0) ((∀i,Za b.conf i=true→(atI b.m i).beat - (atI b.m i).done=flyG b i)∧Wc b∧X2 b):=by
  intro hml hlive
  have hfa:∀i,Za b.conf i=true→atI (flyL ls (List.replicate b.m.length 0)) i=flyG b i:=by
   intro i hi
   simp only[Za,decide_eq_true_eq] at hi
   rw[Ypn _ _ i hi.1 (by simp;omega) (fun x hx=>by have:=hmast x (hml x hx);simpa using this),←Yjw,hLs]
   have:atI (List.replicate b.m.length (0:Int)) i=0:=by
    unfold atI
    rw[List.getD_eq_getElem?_getD,List.getElem?_replicate]
    split<;>rfl
   rw[this];simp
  have hQ:∃r,(∀κ,Y7 b κ (flyL ls (List.replicate b.m.length 0)) (b.m.length:Int)=some r)∧(r=true↔Wc b∧X2 b):=by
   obtain⟨r,h4,h5⟩:=Yjh b hc h1 hlive.2
   have hJ4t:Yf b true=some false:=by unfold Yf;rw[if_pos rfl]
   by_cases ha:b.addr.live=true
   ·obtain⟨hm,hby,hsp⟩:=hlive.1 ha
    have hrb:=W9 (hr _ hm)
    by_cases e1:b.addr.beat=(atI b.m b.addr.who).beat - 1∧b.addr.left=0∧b.addr.resp=0∧b.addr.second=false
    ·refine⟨r,fun κ=>?_,?_⟩
     ·unfold Y7
      obtain⟨f1,f2,f3,f4⟩:=e1
      rw[if_neg (by simp),if_pos ha,Y2 h1 hm,Option.bind_some,Z9 (by omega) (by omega)]
      simp only[f1,f2,f3,f4,ha,ne_eq,not_true_eq_false,decide_false,Bool.false_eq_true,if_false,Bool.not_true,h4]
     ·rw[h5];unfold Wc;rw[if_pos ha];exact⟨fun h=>⟨e1,h⟩,fun h=>h.2⟩
    ·refine⟨false,fun κ=>?_,?_⟩
     ·unfold Y7
      rw[if_neg (by simp),if_pos ha,Y2 h1 hm,Option.bind_some,Z9 (by omega) (by omega)]
      by_cases f1:b.addr.beat=(atI b.m b.addr.who).beat - 1
      ·by_cases f2:b.addr.left=0
       ·by_cases f3:b.addr.resp=0
        ·have f4:b.addr.second=true:=by
          cases hs:b.addr.second with
          | true=>rfl
          | false=>exact absurd ⟨f1,f2,f3,hs⟩ e1
         rw[if_neg (by simpa using f1),if_neg (by simpa using f2),if_neg (by simpa using f3),if_pos f4,hJ4t]
        ·rw[if_neg (by simpa using f1),if_neg (by simpa using f2),if_pos (by simpa using f3),hJ4t]
       ·rw[if_neg (by simpa using f1),if_pos (by simpa using f2),hJ4t]
      ·rw[if_pos (by simpa using f1),hJ4t]
     ·unfold Wc;rw[if_pos ha];simp[e1]
   ·by_cases e1:b.addr=GBeat.z0
    ·refine⟨r,fun κ=>?_,?_⟩
     ·unfold Y7
      rw[if_neg (by simp),if_neg ha,if_pos (by simpa using ha),(Z40 b.addr).2 e1]
      exact h4
     ·rw[h5];unfold Wc;rw[if_neg ha];exact⟨fun h=>⟨e1,h⟩,fun h=>h.2⟩
    ·refine⟨false,fun κ=>?_,?_⟩
     ·unfold Y7
      rw[if_neg (by simp),if_neg ha,if_pos (by simpa using ha)]
      have:((b.addr.live == false)&&(decide (b.addr.who=0)&&(decide (b.addr.beat=0)&&((b.addr.first == false)&&(decide (b.addr.by_=0)&&(decide (b.addr.left=0)&&(decide (b.addr.resp=0)&&((b.addr.second == false)&&true))))))))=false:=by
       rw[←Bool.not_eq_true,Z40];exact e1
      rw[this,Bool.not_false,hJ4t]
     ·unfold Wc;rw[if_neg ha];simp[e1]
  obtain⟨r,hr1,hr2⟩:=hQ
  refine (Zrc (σ:=List Int) (n:=b.m.length) (by omega) (P:=fun k=>(atI b.m (k:Int)).beat - (atI b.m (k:Int)).done=flyG b (k:Int)) (Q:=Wc b∧X2 b) (fun _=>flyL ls (List.replicate b.m.length 0)) (B:=Y7 b) (L:=Kv b) (fun m s i=>rfl) (fun k hk=>?_) fun _=>⟨r,hr1,hr2⟩).iff ?_
  ·have hm:=mas (c:=b.conf) (k:=k) (by omega)
   have hrb:=W9 (hr _ hm)
   have hfl:=Yb7 ls (List.replicate b.m.length 0)
   rw[List.length_replicate] at hfl
   have hi:idx (flyL ls (List.replicate b.m.length 0)) (k:Int)=some (flyG b (k:Int)):=by
    rw[Yi (by omega) (by omega),hfa _ hm]
   by_cases e1:(atI b.m (k:Int)).beat - (atI b.m (k:Int)).done=flyG b (k:Int)
   ·refine .inl ⟨e1,fun κ=>?_⟩
    unfold Y7
    rw[if_pos (by simpa using hk),Y2 h1 hm,Option.bind_some,hi,Option.bind_some,Z9 (by omega) (by omega),if_neg (by simpa using e1)]
   ·refine .inr ⟨e1,fun κ=>?_⟩
    unfold Y7
    rw[if_pos (by simpa using hk),Y2 h1 hm,Option.bind_some,hi,Option.bind_some,Z9 (by omega) (by omega),if_pos (by simpa using e1)]
  ·rw[h1,←Zr7 (P:=fun i=>(atI b.m i).beat - (atI b.m i).done=flyG b i)]
 have hlv:(∀k,k < ls.length→Kb b (atI ls (k:Int)))↔((b.addr.live=true→Kb b b.addr)∧(b.data_.live=true→Kb b b.data_)):=by
  rw[←Ym2 (P:=Kb b),hLs]
  constructor
  ·intro h k hk;have:=h k hk;rwa [Xb hk] at this
  ·intro h k hk;rw[Xb hk];exact h k hk
 have hstep:∀k,k < ls.length→(Kb b (atI ls (k:Int))∧∀κ,Y8 b κ (flyL (ls.take k) (List.replicate b.m.length 0)) ls (ls.length:Int) (k:Int)=κ (flyL (ls.take (k+1)) (List.replicate b.m.length 0)) ls (ls.length:Int) (addW (k:Int) 1))∨(¬Kb b (atI ls (k:Int))∧∀κ,Y8 b κ (flyL (ls.take k) (List.replicate b.m.length 0)) ls (ls.length:Int) (k:Int)=some false):=by
  intro k hk
  have hfl:=Yb7 (ls.take k) (List.replicate b.m.length 0)
  rw[List.length_replicate] at hfl
  have hJ3:∀κ x,Wr b κ x (flyL (ls.take k) (List.replicate b.m.length 0)) ls (ls.length:Int) (k:Int) true=some false:=fun κ x=>by unfold Wr;rw[if_pos rfl]
  by_cases e1:Za b.conf (atI ls (k:Int)).who=true
  ·by_cases e2:1≤(atI ls (k:Int)).by_∧(atI ls (k:Int)).by_≤3
   ·by_cases e3:atI b.splits (atI ls (k:Int)).who=0
    ·refine .inl ⟨⟨e1,e2,e3⟩,fun κ=>?_⟩
     unfold Y8
     have hw:=hmast _ e1
     rw[if_pos (by simpa using hk),Yi (by omega) (by omega),Option.bind_some,Qk _ _ hlt,Option.bind_some,e1,if_neg (by simp),Y0,Option.bind_some,if_neg (by simpa using e2),Zlq h3 e1,Option.bind_some,e3]
     unfold Wr
     have hb:=Yk0 (by omega) (Ymp (ls.take k) (List.replicate b.m.length 0) 0 (by omega) (fun v hv=>by rw[List.eq_of_mem_replicate hv];omega)) (atI ls (k:Int)).who
     have hk2:(ls.take k).length≤2:=by rw[List.length_take];omega
     rw[if_neg (by simp),Yi hw.1 (by omega),Option.bind_some,Zr (a:=atI (flyL (ls.take k) (List.replicate b.m.length 0)) (atI ls (k:Int)).who) (by omega) (by omega),Y1,Option.bind_some,List.take_succ_eq_append_getElem hk,Yk9,Xb hk]
    ·refine .inr ⟨fun h=>e3 h.2.2,fun κ=>?_⟩
     unfold Y8
     rw[if_pos (by simpa using hk),Yi (by omega) (by omega),Option.bind_some,Qk _ _ hlt,Option.bind_some,e1,if_neg (by simp),Y0,Option.bind_some,if_neg (by simpa using e2),Zlq h3 e1,Option.bind_some,decide_eq_true e3,hJ3]
   ·refine .inr ⟨fun h=>e2 h.2.1,fun κ=>?_⟩
    unfold Y8
    rw[if_pos (by simpa using hk),Yi (by omega) (by omega),Option.bind_some,Qk _ _ hlt,Option.bind_some,e1,if_neg (by simp),Y0,Option.bind_some,if_pos (by rw[decide_eq_false e2];rfl),hJ3]
  ·refine .inr ⟨fun h=>e1 h.1,fun κ=>?_⟩
   unfold Y8
   rw[if_pos (by simpa using hk),Yi (by omega) (by omega),Option.bind_some,Qk _ _ hlt,Option.bind_some,if_pos (by simpa using e1),hJ3]
 have hl1:=Zrc (σ:=List Int×List GBeat×Int) (n:=ls.length) (by omega) (P:=fun k=>Kb b (atI ls (k:Int)))
  (Q:=(∀i,Za b.conf i=true→(atI b.m i).beat - (atI b.m i).done=flyG b i)∧Wc b∧X2 b)
  (fun k=>(flyL (ls.take k) (List.replicate b.m.length 0),ls,(ls.length:Int))) (B:=fun κ s i=>Y8 b (fun v l n i=>κ (v,l,n) i) s.1 s.2.1 s.2.2 i) (L:=fun m s i=>Zaz b m s.1 s.2.1 s.2.2 i) (fun m s i=>rfl)
  (fun k hk=>(hstep k hk).imp (fun h=>⟨h.1,fun κ=>h.2 _⟩) fun h=>⟨h.1,fun κ=>h.2 _⟩)
 have hml:(∀k,k < ls.length→Kb b (atI ls (k:Int)))→∀x∈ls,Za b.conf x.who=true:=by
  intro h x hx
  obtain⟨k,hk,rfl⟩:=List.getElem_of_mem hx
  have:=(h k hk).1
  rwa [Xb hk] at this
 have hl2:=hl1 fun hall=>by
  obtain⟨r,hr1,hr2⟩:=hL2 (hml hall) (hlv.1 hall)
  refine⟨r,fun κ=>?_,hr2⟩
  unfold Y8
  rw[if_neg (by simp),List.take_length]
  exact hr1
 simp only[List.take_zero,flyL] at hl2
 exact hl2.iff (by rw[hlv])
theorem Z7o (b:GBus) (hc:Zz b.conf=true) (h1:b.m.length=b.conf.masters.length) (h3:b.splits.length=b.conf.masters.length):Z5 (Zbc b) (Zfm b):=by
 have hlen:=Wy hc
 have hlt:=Jv hc
 unfold Zbc Zfm
 refine (Zk6 (n:=b.m.length) (by omega) (P:=fun k=>(atI b.m (k:Int)).beat > 0→Zx (atI b.m (k:Int))=true→b.holder=(k:Int))
  (Q:=if b.holder=-1 then b.held=0 else Za b.conf b.holder=true∧Zx (atI b.m b.holder)=true∧atI b.splits b.holder=0∧(0≤b.held∧b.held≤b.conf.lockMost))
  (B:=Zb8 b) (fun m i=>rfl) (fun k hk=>?_) fun _=>?_).iff ?_
 ·have hm:=mas (c:=b.conf) (k:=k) (by omega)
  unfold Zb8
  simp only[if_pos (show decide ((k:Int) < (b.m.length:Int))=true by simpa using hk),Y2 h1 hm,Option.bind_some,Zxy]
  by_cases e1:(atI b.m (k:Int)).beat > 0
  ·by_cases e2:Zx (atI b.m (k:Int))=true
   ·by_cases e3:b.holder=(k:Int)
    ·exact .inl ⟨fun _ _=>e3,fun κ=>by simp[e1,e2,e3]⟩
    ·exact .inr ⟨fun h=>e3 (h e1 e2),fun κ=>by simp[e1,e2,e3]⟩
   ·exact .inl ⟨fun _ h=>absurd h e2,fun κ=>by simp[e1,e2]⟩
  ·exact .inl ⟨fun h=>absurd h e1,fun κ=>by simp[e1]⟩
 ·unfold Zb8
  simp only[Int.lt_irrefl,decide_false,Bool.false_eq_true,if_false]
  by_cases e1:b.holder=-1
  ·exact⟨decide (b.held=0),fun κ=>by simp[e1],by simp[e1]⟩
  ·simp only[e1,decide_false,Bool.false_eq_true,if_false,Qk _ _ hlt,Option.bind_some]
   by_cases e2:Za b.conf b.holder=true
   ·simp only[e2,if_true,Y2 h1 e2,Zlq h3 e2,Option.bind_some,Zxy,Y0]
    by_cases e3:Zx (atI b.m b.holder)=true
    ·by_cases e4:atI b.splits b.holder=0
     ·exact⟨decide (0≤b.held∧b.held≤b.conf.lockMost),fun κ=>by simp only[e3,e4,decide_true,if_true],by simp[e3,e4]⟩
     ·exact⟨false,fun κ=>by simp[e3,e4],by simp[e4]⟩
    ·exact⟨false,fun κ=>by simp[e3],by simp[e3]⟩
   ·exact⟨false,fun κ=>by simp[e2],by simp[e2]⟩
 ·rw[h1,←Zr7 (P:=fun i=>(atI b.m i).beat > 0→Zx (atI b.m i)=true→b.holder=i)]
def Zaj (l:List GDone):Nat→Int
 | 0=>-1
 | k+1=>(atI l (k:Int)).cycle
theorem Ydh {l:List GDone}:(l.Pairwise fun x y=>x.cycle < y.cycle)↔∀k,k+1 < l.length→(atI l (k:Int)).cycle < (atI l ((k+1:Nat):Int)).cycle:=by
 constructor
 ·intro h k hk
  rw[Xb (by omega),Xb hk]
  exact List.pairwise_iff_getElem.1 h k (k+1) (by omega) hk (by omega)
 ·intro h
  rw[List.pairwise_iff_getElem]
  have key:∀(d i:Nat) (hj:i+d+1 < l.length),(l[i]'(by omega)).cycle < (l[i+d+1]'hj).cycle:=by
   intro d
   induction d with
   | zero=>
    intro i hj
    have:=h i hj
    rw[Xb (by omega),Xb hj] at this
    exact this
   | succ d ih=>
    intro i hj
    have h4:=ih i (by omega)
    have h5:=h (i+d+1) (by omega)
    rw[Xb (by omega),Xb (by omega)] at h5
    exact Int.lt_trans h4 h5
  intro i j hi hj hij
  have:=key (j - i - 1) i (by omega)
  have e:i+(j - i - 1)+1=j:=by omega
  simp only[e] at this
  exact this
theorem Ygs {b:GBus}:logP b↔∀k,k < b.log.length→Zyr b.conf b.now (atI b.log (k:Int))∧Zaj b.log k < (atI b.log (k:Int)).cycle:=by
 unfold logP
 constructor
 ·intro h k hk
  have h1:=h.1 _ (Zb3 (xs:=b.log) (i:=(k:Int)) (by omega) (by omega))
  refine⟨h1,?_⟩
  cases k with
  | zero=>have:=h1.1.1;simp only[Zaj];omega
  | succ k=>exact Ydh.1 h.2 k hk
 ·intro h
  refine⟨fun d hd=>?_,Ydh.2 fun k hk=>?_⟩
  ·obtain⟨k,hk,rfl⟩:=List.getElem_of_mem hd
   have:=(h k hk).1
   rwa [Xb hk] at this
  ·exact (h (k+1) hk).2
def doneQ (c:GConf) (now:Int) (d:GDone):Prop:=d.cycle < now∧Za c d.who=true∧Yv d.addr d.size=true∧d.addr < 512∧numG d.value d.size=true∧(d.resp=0∨d.resp=1)
theorem Ynh {b:GBus}:logP b↔∀k,k < b.log.length→doneQ b.conf b.now (atI b.log (k:Int))∧Zaj b.log k < (atI b.log (k:Int)).cycle:=by
 rw[Ygs]
 constructor
 ·intro h k hk
  have:=h k hk
  exact⟨⟨this.1.1.2,this.1.2⟩,this.2⟩
 ·intro h
  have h0:∀k,k≤b.log.length→-1≤Zaj b.log k:=by
   intro k
   induction k with
   | zero=>intro _;simp[Zaj]
   | succ k ih=>
    intro hk
    have h1:=ih (by omega)
    have h2:=(h k (by omega)).2
    simp only[Zaj]
    omega
  intro k hk
  have h1:=h k hk
  have h2:=h0 k (by omega)
  exact⟨⟨⟨by omega,h1.1.1⟩,h1.1.2⟩,h1.2⟩
theorem Z3h (b:GBus) (hc:Zz b.conf=true) (hl:b.log.length < 1048577) (hn:0≤b.now∧b.now≤4000):Z5 (Jr b) (logP b):=by
 have hlt:=Jv hc
 unfold Jr
 have:=Zrc (σ:=Int) (n:=b.log.length) (by omega) (P:=fun k=>doneQ b.conf b.now (atI b.log (k:Int))∧Zaj b.log k < (atI b.log (k:Int)).cycle) (Q:=True)
  (Zaj b.log) (B:=Zaf b) (L:=Za2 b) (fun m s i=>rfl) (fun k hk=>?_) fun _=>⟨true,fun κ=>?_,by simp⟩
 ·exact this.iff (by rw[and_true,Ynh])
 ·have e0:Zaj b.log (k+1)=(atI b.log (k:Int)).cycle:=rfl
  rw[e0]
  unfold Zaf
  simp only[if_pos (show decide ((k:Int) < (b.log.length:Int))=true by simpa using hk),Yi (xs:=b.log) (i:=(k:Int)) (by omega) (by omega),Option.bind_some,Qk _ _ hlt,Zn1,Zfc]
  generalize atI b.log (k:Int)=d
  by_cases e1:Zaj b.log k < d.cycle
  ·have e1':¬d.cycle≤Zaj b.log k:=by omega
   by_cases e2:d.cycle < b.now
   ·have e2':¬d.cycle≥b.now:=by omega
    by_cases e3:Za b.conf d.who=true
    ·by_cases e4:Yv d.addr d.size=true
     ·by_cases e5:d.addr < 512
      ·have e5':¬d.addr≥512:=by omega
       by_cases e6:numG d.value d.size=true
       ·by_cases e7:d.resp=0
        ·exact .inl ⟨⟨⟨e2,e3,e4,e5,e6,.inl e7⟩,e1⟩,fun κ=>by simp[e1',e2',e3,e4,e5',e6,e7]⟩
        ·by_cases e8:d.resp=1
         ·exact .inl ⟨⟨⟨e2,e3,e4,e5,e6,.inr e8⟩,e1⟩,fun κ=>by simp[e1',e2',e3,e4,e5',e6,e8]⟩
         ·exact .inr ⟨fun h=>by have:=h.1.2.2.2.2.2;omega,fun κ=>by simp[e1',e2',e3,e4,e5',e6,e7,e8]⟩
       ·exact .inr ⟨fun h=>e6 h.1.2.2.2.2.1,fun κ=>by simp[e1',e2',e3,e4,e5',e6]⟩
      ·have e5':d.addr≥512:=by omega
       exact .inr ⟨fun h=>e5 h.1.2.2.2.1,fun κ=>by simp[e1',e2',e3,e4,e5']⟩
     ·exact .inr ⟨fun h=>e4 h.1.2.2.1,fun κ=>by simp[e1',e2',e3,e4]⟩
    ·exact .inr ⟨fun h=>e3 h.1.2.1,fun κ=>by simp[e1',e2',e3]⟩
   ·have e2':d.cycle≥b.now:=by omega
    exact .inr ⟨fun h=>e2 h.1.1,fun κ=>by simp[e1',e2']⟩
  ·have e1':d.cycle≤Zaj b.log k:=by omega
   exact .inr ⟨fun h=>e1 h.2,fun κ=>by simp[e1']⟩
 ·unfold Zaf
  rw[if_neg (by simp)]
theorem Z9l (b:GBus) (hs:b.sm):Z5 (Zmf b) (BusP b):=by
 unfold Zmf
 rw[Zpb _ hs.conf,Option.bind_some]
 by_cases hc:Zz b.conf=true
 ·rw[if_pos hc,Y0,Option.bind_some]
  by_cases hn:0≤b.now∧b.now≤4000
  ·rw[if_pos (decide_eq_true hn)]
   have hrest:b.m.length=b.conf.masters.length→b.buckets.length=b.conf.masters.length→b.splits.length=b.conf.masters.length→(∀i,Za b.conf i=true→MstP b.conf b i)→
     Z5 ((Zd1 b.model).bind fun r133=>if r133=true then (Z1 b.picks 0 b.now).bind fun r140=>if r140=true then (Jt b).bind fun r143=>if r143=true then (Zbc b).bind fun r146=>if r146=true then (Jr b).bind fun r149=>some r149 else some false else some false else some false else some false)
      (ModelP b.model∧(0≤b.picks∧b.picks≤b.now)∧(((b.addr.live=true→Kb b b.addr)∧(b.data_.live=true→Kb b b.data_))∧(∀i,Za b.conf i=true→(atI b.m i).beat - (atI b.m i).done=flyG b i)∧Wc b∧X2 b)∧Zfm b∧logP b):=by
    intro h1 h2 h3 hm
    rw[Z0g _ hs.model]
    refine Z5.and (Z5.of Zqn) fun _=>?_
    rw[Y0]
    refine Z5.and (Z5.of (decide_eq_true_iff)) fun _=>?_
    refine Z5.and (Z36 b hc h1 h3 fun i hi=>(hm i hi).right) fun _=>?_
    refine Z5.and (Z7o b hc h1 h3) fun _=>?_
    obtain⟨r,h4,h5⟩:=Z3h b hc hs.log hn
    rw[h4]
    exact .of h5
   have hw:Z5 (Zig b.arb b.conf) (wrrG b.arb b.conf=true):=by rw[Zx7 _ _ hs.conf];exact .of Iff.rfl
   by_cases hla:b.last=-1
   ·simp only[hla,decide_true,if_true]
    refine (Z5.and (Zqm b hs hc) fun hm=>Z5.and hw fun _=>hrest hm.1 hm.2.1 hm.2.2.1 hm.2.2.2).iff ⟨fun h=>?_,fun h=>?_⟩
    ·obtain⟨⟨h1,h2,h3,h4⟩,h5,h6,h7,⟨⟨h8,h9⟩,h10,h11,h12⟩,h13,h14⟩:=h
     exact⟨hc,hn,h1,h2,h3,h4,h5,.inl hla,h6,h7,h8,h9,h10,h11,h12,h13,h14⟩
    ·exact⟨⟨h.ml,h.bl,h.sl,h.mst⟩,h.arb,h.model,h.picks,⟨⟨h.alive,h.dlive⟩,h.fly,h.addr,h.data⟩,h.held,h.log⟩
   ·have e:decide (b.last=-1)=false:=decide_eq_false hla
    simp only[e,Bool.false_eq_true,if_false]
    have hi:Z5 (Qh b.conf b.last) (Za b.conf b.last=true):=by rw[Qk _ _ hs.conf];exact .of Iff.rfl
    refine (Z5.and (Zqm b hs hc) fun hm=>Z5.and hw fun _=>Z5.and hi fun _=>hrest hm.1 hm.2.1 hm.2.2.1 hm.2.2.2).iff ⟨fun h=>?_,fun h=>?_⟩
    ·obtain⟨⟨h1,h2,h3,h4⟩,h5,hx,h6,h7,⟨⟨h8,h9⟩,h10,h11,h12⟩,h13,h14⟩:=h
     exact⟨hc,hn,h1,h2,h3,h4,h5,.inr hx,h6,h7,h8,h9,h10,h11,h12,h13,h14⟩
    ·exact⟨⟨h.ml,h.bl,h.sl,h.mst⟩,h.arb,h.last.resolve_left hla,h.model,h.picks,⟨⟨h.alive,h.dlive⟩,h.fly,h.addr,h.data⟩,h.held,h.log⟩
  ·rw[if_neg (by simpa using hn)]
   exact .no fun h=>hn h.now
 ·rw[if_neg hc]
  exact .no fun h=>hc h.conf
theorem Yk3 (b:GBus) (i:Int):Zpz b i=some (flyG b i):=by
 unfold Zpz Zg6 Zg5 flyG
 by_cases h1:b.addr.live=true<;>by_cases h2:b.data_.live=true<;>by_cases h3:b.addr.who=i<;>by_cases h4:b.data_.who=i<;>simp[h1,h2,h3,h4]<;>rfl
theorem Z9y (n:Int):∃w,Znu n=some w∧((!(w.toList == ByteArray.empty.toList))=true↔(0≤n∧n≤3)):=by
 unfold Znu
 rw[Yg,Option.bind_some]
 by_cases h:0≤n∧n≤3
 ·have:n=0∨n=1∨n=2∨n=3:=by omega
  rcases this with rfl|rfl|rfl|rfl<;>exact⟨_,rfl,by rw[Z8s,Z8s];decide⟩
 ·rw[if_pos (by rw[decide_eq_false h];rfl)]
  exact⟨_,rfl,by simp[h]⟩
theorem Zgs {b:GBus} (h1:b.m.length=b.conf.masters.length) (hlt:b.conf.masters.length < 1048577) (i:Int):Zk i 0 (subW (b.m.length:Int) 1)=some (Za b.conf i):=by
 rw[Yg,h1,Zwl i hlt]
theorem Z6y (b:GBus) (hs:b.sm) (hc:Zz b.conf=true) (h1:b.m.length=b.conf.masters.length) (h3:b.splits.length=b.conf.masters.length) (hm:∀i,Za b.conf i=true→MstP b.conf b i):
  Z5 (J1 b b.addr false) ((b.addr.live=true→Kb b b.addr)∧Wc b):=by
 have hlt:=Jv hc
 have hJ1:Wh b b.addr false true=some false:=by unfold Wh;rw[if_pos rfl]
 unfold J1 Wc
 by_cases ha:b.addr.live=true
 ·rw[if_neg (by simp[ha]),if_pos ha,Zgs h1 hlt,Option.bind_some,Yg,Option.bind_some]
  by_cases e1:Za b.conf b.addr.who=true
  ·rw[e1,if_neg (by simp)]
   by_cases e2:1≤b.addr.by_∧b.addr.by_≤3
   ·rw[if_neg (by simpa using e2),Zlq h3 e1,Option.bind_some]
    have hsp:=(hm _ e1).split
    by_cases e3:atI b.splits b.addr.who=0
    ·rw[decide_eq_false (by omega)]
     have hrb:=W9 (hm _ e1).right
     unfold Wh
     rw[if_neg (by simp),Y2 h1 e1,Option.bind_some,if_pos (by simp),Z9 (by omega) (by omega)]
     by_cases f1:b.addr.beat=(atI b.m b.addr.who).beat - 1
     ·by_cases f2:b.addr.left=0
      ·by_cases f3:b.addr.resp=0
       ·rw[if_pos (by simpa using f1),if_pos (by simpa using f2),if_pos (by simpa using f3)]
        refine .of ⟨fun h=>⟨fun _=>⟨e1,e2,e3⟩,f1,f2,f3,by simpa using h⟩,fun h=>by simpa using h.2.2.2.2⟩
       ·rw[if_pos (by simpa using f1),if_pos (by simpa using f2),if_neg (by simpa using f3)]
        exact .no fun h=>f3 h.2.2.2.1
      ·rw[if_pos (by simpa using f1),if_neg (by simpa using f2)]
       exact .no fun h=>f2 h.2.2.1
     ·rw[if_neg (by simpa using f1)]
      exact .no fun h=>f1 h.2.1
    ·rw[decide_eq_true (by omega),hJ1]
     exact .no fun h=>e3 (h.1 ha).2.2
   ·rw[if_pos (by rw[decide_eq_false e2];rfl),hJ1]
    exact .no fun h=>e2 (h.1 ha).2.1
  ·rw[if_pos (by simpa using e1),hJ1]
   exact .no fun h=>e1 (h.1 ha).1
 ·rw[if_pos (by simpa using ha),if_neg ha]
  exact (Z5.of (Z40 _)).iff ⟨fun h=>⟨fun h2=>absurd h2 ha,h⟩,fun h=>h.2⟩
theorem Z63 (b:GBus) (hs:b.sm) (hc:Zz b.conf=true) (h1:b.m.length=b.conf.masters.length) (h3:b.splits.length=b.conf.masters.length) (hm:∀i,Za b.conf i=true→MstP b.conf b i):
  Z5 (J1 b b.data_ true) ((b.data_.live=true→Kb b b.data_)∧X2 b):=by
 have hlt:=Jv hc
 have hw:=(Ym hc).2.1
 have hJ1:Wh b b.data_ true true=some false:=by unfold Wh;rw[if_pos rfl]
 unfold J1 X2
 by_cases ha:b.data_.live=true
 ·rw[if_neg (by simp[ha]),if_pos ha,Zgs h1 hlt,Option.bind_some,Yg,Option.bind_some]
  by_cases e1:Za b.conf b.data_.who=true
  ·rw[e1,if_neg (by simp)]
   by_cases e2:1≤b.data_.by_∧b.data_.by_≤3
   ·rw[if_neg (by simpa using e2),Zlq h3 e1,Option.bind_some]
    have hsp:=(hm _ e1).split
    by_cases e3:atI b.splits b.data_.who=0
    ·rw[decide_eq_false (by omega)]
     have hrb:=W9 (hm _ e1).right
     have hJ2:Z5 (Zu b b.data_ true (atI b.m b.data_.who) false) ((b.data_.beat=(atI b.m b.data_.who).done∧(0≤b.data_.left∧b.data_.left≤b.conf.maxWait+2)∧(0≤b.data_.resp∧b.data_.resp≤3))∧(b.data_.second=true→b.data_.left=0∧b.data_.resp≠0)):=by
      unfold Zu
      obtain⟨w,hw1,hw2⟩:=Z9y b.data_.resp
      rw[if_neg (by simp),Yg,Option.bind_some,hw1,Option.bind_some,Zr (by omega) (by omega)]
      by_cases f1:b.data_.beat=(atI b.m b.data_.who).done
      ·rw[if_pos (by simpa using f1)]
       by_cases f2:0≤b.data_.left∧b.data_.left≤b.conf.maxWait+2
       ·rw[if_pos (by simpa using f2)]
        by_cases f3:0≤b.data_.resp∧b.data_.resp≤3
        ·rw[if_pos (hw2.2 f3)]
         by_cases f4:b.data_.second=true
         ·rw[if_neg (by simp[f4])]
          by_cases f5:b.data_.resp=0
          ·rw[if_neg (by simpa using f5)]
           exact .no fun h=>(h.2 f4).2 f5
          ·rw[if_pos (by simpa using f5)]
           refine .of ⟨fun h=>⟨⟨f1,f2,f3⟩,fun _=>⟨by simpa using h,f5⟩⟩,fun h=>by simpa using (h.2 f4).1⟩
         ·rw[if_pos (by simpa using f4)]
          exact .yes ⟨⟨f1,f2,f3⟩,fun h=>absurd h f4⟩
        ·rw[if_neg (fun h=>f3 (hw2.1 h))]
         exact .no fun h=>f3 h.1.2.2
       ·rw[if_neg (by rw[decide_eq_false f2];simp)]
        exact .no fun h=>f2 h.1.2.1
      ·rw[if_neg (by simpa using f1)]
       exact .no fun h=>f1 h.1.1
     have hJ2t:Zu b b.data_ true (atI b.m b.data_.who) true=some false:=by unfold Zu;rw[if_pos rfl]
     have hS:Z5 (if b.data_.second=true then Zu b b.data_ true (atI b.m b.data_.who) b.addr.live else Zu b b.data_ true (atI b.m b.data_.who) false)
       ((b.data_.beat=(atI b.m b.data_.who).done∧(0≤b.data_.left∧b.data_.left≤b.conf.maxWait+2)∧(0≤b.data_.resp∧b.data_.resp≤3))∧(b.data_.second=true→b.data_.left=0∧b.data_.resp≠0∧b.addr.live=false)):=by
      by_cases f4:b.data_.second=true
      ·rw[if_pos f4]
       by_cases f5:b.addr.live=true
       ·rw[f5,hJ2t]
        exact .no fun h=>by have:=(h.2 f4).2.2;cases this
       ·have f6:b.addr.live=false:=by simpa using f5
        rw[f6]
        exact hJ2.iff ⟨fun h=>⟨h.1,fun h2=>⟨(h.2 h2).1,(h.2 h2).2,rfl⟩⟩,fun h=>⟨h.1,fun h2=>⟨(h.2 h2).1,(h.2 h2).2.1⟩⟩⟩
      ·rw[if_neg f4]
       exact hJ2.iff ⟨fun h=>⟨h.1,fun h2=>absurd h2 f4⟩,fun h=>⟨h.1,fun h2=>absurd h2 f4⟩⟩
     have hT:Z5 (if decide (b.data_.resp=3)=true then if (atI b.m b.data_.who).parted=true then Zu b b.data_ true (atI b.m b.data_.who) true else if decide (b.holder=b.data_.who)=true then Zu b b.data_ true (atI b.m b.data_.who) true else if b.data_.second=true then Zu b b.data_ true (atI b.m b.data_.who) b.addr.live else Zu b b.data_ true (atI b.m b.data_.who) false
       else if b.data_.second=true then Zu b b.data_ true (atI b.m b.data_.who) b.addr.live else Zu b b.data_ true (atI b.m b.data_.who) false)
       ((b.data_.resp=3→(atI b.m b.data_.who).parted=false∧b.data_.who≠b.holder)∧(b.data_.beat=(atI b.m b.data_.who).done∧(0≤b.data_.left∧b.data_.left≤b.conf.maxWait+2)∧(0≤b.data_.resp∧b.data_.resp≤3))∧(b.data_.second=true→b.data_.left=0∧b.data_.resp≠0∧b.addr.live=false)):=by
      by_cases f3:b.data_.resp=3
      ·rw[if_pos (by simpa using f3)]
       by_cases f4:(atI b.m b.data_.who).parted=true
       ·rw[if_pos f4,hJ2t]
        exact .no fun h=>by have:=(h.1 f3).1;rw[f4] at this;cases this
       ·rw[if_neg f4]
        by_cases f5:b.holder=b.data_.who
        ·rw[if_pos (by simpa using f5),hJ2t]
         exact .no fun h=>(h.1 f3).2 f5.symm
        ·rw[if_neg (by simpa using f5)]
         exact hS.iff ⟨fun h=>⟨fun _=>⟨by simpa using f4,fun h2=>f5 h2.symm⟩,h⟩,fun h=>h.2⟩
      ·rw[if_neg (by simpa using f3)]
       exact hS.iff ⟨fun h=>⟨fun h2=>absurd h2 f3,h⟩,fun h=>h.2⟩
     unfold Wh
     rw[if_neg (by simp),Y2 h1 e1,Option.bind_some,if_neg (by simp)]
     by_cases f2:b.data_.resp=2
     ·rw[if_pos (by simpa using f2)]
      by_cases f3:(atI b.m b.data_.who).tries≥b.conf.maxRetry
      ·rw[if_pos (by simpa using f3),hJ2t]
       exact .no fun h=>by have:=h.2.2.1 f2;omega
      ·rw[if_neg (by simpa using f3)]
       exact hT.iff ⟨fun h=>⟨fun _=>⟨e1,e2,e3⟩,h.2.1,fun _=>by omega,h.1,h.2.2⟩,fun h=>⟨h.2.2.2.1,h.2.1,h.2.2.2.2⟩⟩
     ·rw[if_neg (by simpa using f2)]
      exact hT.iff ⟨fun h=>⟨fun _=>⟨e1,e2,e3⟩,h.2.1,fun h2=>absurd h2 f2,h.1,h.2.2⟩,fun h=>⟨h.2.2.2.1,h.2.1,h.2.2.2.2⟩⟩
    ·rw[decide_eq_true (by omega),hJ1]
     exact .no fun h=>e3 (h.1 ha).2.2
   ·rw[if_pos (by rw[decide_eq_false e2];rfl),hJ1]
    exact .no fun h=>e2 (h.1 ha).2.1
  ·rw[if_pos (by simpa using e1),hJ1]
   exact .no fun h=>e1 (h.1 ha).1
 ·rw[if_pos (by simpa using ha),if_neg ha]
  exact (Z5.of (Z40 _)).iff ⟨fun h=>⟨fun h2=>absurd h2 ha,h⟩,fun h=>h.2⟩
theorem Z43 (b:GBus) (hc:Zz b.conf=true) (h1:b.m.length=b.conf.masters.length) (h3:b.splits.length=b.conf.masters.length) (hm:∀i,Za b.conf i=true→MstP b.conf b i):Z5 (Zkw b) (Zfm b):=by
 have hlen:=Wy hc
 have hlt:=Jv hc
 unfold Zkw Zfm
 refine (Zk6 (n:=b.m.length) (by omega) (P:=fun k=>(atI b.m (k:Int)).beat > 0→Zx (atI b.m (k:Int))=true→b.holder=(k:Int))
  (Q:=if b.holder=-1 then b.held=0 else Za b.conf b.holder=true∧Zx (atI b.m b.holder)=true∧atI b.splits b.holder=0∧(0≤b.held∧b.held≤b.conf.lockMost))
  (B:=Zge b) (fun m i=>rfl) (fun k hk=>?_) fun _=>?_).iff ?_
 ·have hmk:=mas (c:=b.conf) (k:=k) (by omega)
  have hr:=(hm _ hmk).right
  unfold Zge
  simp only[if_pos (show decide ((k:Int) < (b.m.length:Int))=true by simpa using hk),Y2 h1 hmk,Option.bind_some]
  by_cases e1:(atI b.m (k:Int)).beat > 0
  ·have hq:(atI b.m (k:Int)).queue≠[]:=by
    intro hq;have:=hr.none hq;omega
   have hq2:0 < (atI b.m (k:Int)).queue.length:=List.length_pos_iff.2 hq
   rw[Yi (xs:=(atI b.m (k:Int)).queue) (by omega) (by omega)]
   simp only[Option.bind_some,e1,decide_true,if_true]
   by_cases e2:(atI (atI b.m (k:Int)).queue 0).lock=true
   ·by_cases e4:(atI b.m (k:Int)).broken=true
    ·exact .inl ⟨fun _ h=>by simp[Zx,e4] at h,fun κ=>by simp[e2,e4]⟩
    ·by_cases e3:b.holder=(k:Int)
     ·exact .inl ⟨fun _ _=>e3,fun κ=>by simp[e2,e3,e4]⟩
     ·exact .inr ⟨fun h=>e3 (h trivial (by simp[Zx,hq,e2,e4])),fun κ=>by simp[e2,e3,e4]⟩
   ·exact .inl ⟨fun _ h=>by simp[Zx,e2] at h,fun κ=>by simp[e2]⟩
  ·exact .inl ⟨fun h=>absurd h e1,fun κ=>by simp[e1]⟩
 ·unfold Zge
  simp only[Int.lt_irrefl,decide_false,Bool.false_eq_true,if_false]
  by_cases e1:b.holder=-1
  ·exact⟨decide (b.held=0),fun κ=>by simp[e1],by simp[e1]⟩
  ·simp only[e1,decide_false,Bool.false_eq_true,if_false,Zgs h1 hlt,Option.bind_some,Yg]
   have hJt:K1 b true=some false:=by unfold K1;rw[if_pos rfl]
   by_cases e2:Za b.conf b.holder=true
   ·simp only[e2,Bool.not_true,Bool.false_eq_true,if_false]
    by_cases e5:0≤b.held∧b.held≤b.conf.lockMost
    ·have hJ:Z5 (K1 b false) (Zx (atI b.m b.holder)=true∧atI b.splits b.holder=0):=by
      unfold K1
      rw[if_neg (by simp),Y2 h1 e2,Option.bind_some]
      by_cases hq:(atI b.m b.holder).queue=[]
      ·rw[if_neg (by simp[hq])]
       exact .no fun h=>by simp[Zx,hq] at h
      ·have hq2:0 < (atI b.m b.holder).queue.length:=List.length_pos_iff.2 hq
       rw[if_pos (by simp;omega),Yi (xs:=(atI b.m b.holder).queue) (by omega) (by omega),Option.bind_some,Zlq h3 e2,Option.bind_some]
       by_cases e6:(atI (atI b.m b.holder).queue 0).lock=true
       ·rw[if_pos e6]
        by_cases e7:(atI b.m b.holder).broken=true
        ·rw[if_neg (by simp[e7])]
         exact .no fun h=>by simp[Zx,e7] at h
        ·rw[if_pos (by simp[e7])]
         exact .of (by simp[Zx,hq,e6,e7])
       ·rw[if_neg e6]
        exact .no fun h=>by simp[Zx,e6] at h
     obtain⟨r,hr1,hr2⟩:=hJ
     refine⟨r,fun κ=>by rw[decide_eq_true e5,Bool.not_true,hr1],?_⟩
     rw[hr2]
     exact⟨fun h=>⟨trivial,h.1,h.2,e5⟩,fun h=>⟨h.2.1,h.2.2.1⟩⟩
    ·refine⟨false,fun κ=>by rw[decide_eq_false e5,Bool.not_false,hJt],by simp[e5]⟩
   ·exact⟨false,fun κ=>by simp[e2,hJt],by simp[e2]⟩
 ·rw[h1,←Zr7 (P:=fun i=>(atI b.m i).beat > 0→Zx (atI b.m i)=true→b.holder=i)]
def doneR (c:GConf) (d:GDone):Prop:=Za c d.who=true∧Yv d.addr d.size=true∧d.addr < 512∧numG d.value d.size=true∧(d.resp=0∨d.resp=1)
theorem Z21 {b:GBus} (h1:b.m.length=b.conf.masters.length) (hlt:b.conf.masters.length < 1048577) (d:GDone):(doneR b.conf d∧∀x:Option Bool,((Zk d.who 0 (subW (b.m.length:Int) 1)).bind fun r530=>if (!r530)=true then some false else (Ks d.addr d.size).bind fun r538=>if (!r538)=true then some false else (Zk d.addr 0 511).bind fun r544=>if (!r544)=true then some false else (Xi d.size).bind fun r552=>(Zk d.value 0 (subW r552 1)).bind fun r554=>if (!r554)=true then some false else (Zk d.resp 0 1).bind fun r560=>if (!r560)=true then some false else x)=x)
  ∨ (¬doneR b.conf d∧∀x:Option Bool,((Zk d.who 0 (subW (b.m.length:Int) 1)).bind fun r530=>if (!r530)=true then some false else (Ks d.addr d.size).bind fun r538=>if (!r538)=true then some false else (Zk d.addr 0 511).bind fun r544=>if (!r544)=true then some false else (Xi d.size).bind fun r552=>(Zk d.value 0 (subW r552 1)).bind fun r554=>if (!r554)=true then some false else (Zk d.resp 0 1).bind fun r560=>if (!r560)=true then some false else x)=some false):=by
 simp only[Zgs h1 hlt,Zoh,Q7,Zl4,Yg d.addr,Yg d.resp,Option.bind_some]
 by_cases e3:Za b.conf d.who=true
 ·by_cases e4:Yv d.addr d.size=true
  ·have e0:=(Jb e4).2.1
   by_cases e5:d.addr < 512
   ·have e5':0≤d.addr∧d.addr≤511:=by omega
    by_cases e6:numG d.value d.size=true
    ·by_cases e7:d.resp=0∨d.resp=1
     ·have e7':0≤d.resp∧d.resp≤1:=by omega
      exact .inl ⟨⟨e3,e4,e5,e6,e7⟩,fun x=>by simp[e3,e4,e5',e6,e7']⟩
     ·have e7':¬(0≤d.resp∧d.resp≤1):=by omega
      exact .inr ⟨fun h=>e7 h.2.2.2.2,fun x=>by simp only[e3,e4,e5',e6,decide_eq_false e7',Bool.not_true,Bool.not_false,Bool.false_eq_true,if_false,if_true,and_self,decide_true]⟩
    ·exact .inr ⟨fun h=>e6 h.2.2.2.1,fun x=>by simp[e3,e4,e5',e6]⟩
   ·have e5':¬(0≤d.addr∧d.addr≤511):=by omega
    exact .inr ⟨fun h=>e5 h.2.2.1,fun x=>by simp only[e3,e4,decide_eq_false e5',Bool.not_true,Bool.not_false,Bool.false_eq_true,if_false,if_true]⟩
  ·exact .inr ⟨fun h=>e4 h.2.1,fun x=>by simp[e3,e4]⟩
 ·exact .inr ⟨fun h=>e3 h.1,fun x=>by simp[e3]⟩
theorem Z7n (b:GBus) (hc:Zz b.conf=true) (h1:b.m.length=b.conf.masters.length) (hl:b.log.length < 1048577) (hn:0≤b.now∧b.now≤4000):Z5 (Zmt b) (logP b):=by
 have hlt:=Jv hc
 unfold Zmt
 have:=Zk6 (n:=b.log.length) (by omega) (P:=fun k=>Zyr b.conf b.now (atI b.log (k:Int))∧(0 < k→Zaj b.log k < (atI b.log (k:Int)).cycle)) (Q:=True)
  (B:=Zhl b) (L:=Zjf b) (fun m i=>rfl) (fun k hk=>?_) fun _=>⟨true,fun κ=>?_,by simp⟩
 ·refine this.iff ?_
  rw[and_true,Ygs]
  constructor
  ·intro h k hk
   refine⟨(h k hk).1,?_⟩
   cases k with
   | zero=>have:=(h 0 hk).1.1.1;simp only[Zaj];omega
   | succ k=>exact (h (k+1) hk).2 (by omega)
  ·intro h k hk
   exact⟨(h k hk).1,fun _=>(h k hk).2⟩
 ·unfold Zhl
  simp only[if_pos (show decide ((k:Int) < (b.log.length:Int))=true by simpa using hk),Yi (xs:=b.log) (i:=(k:Int)) (by omega) (by omega),Option.bind_some,Yg (atI b.log (k:Int)).cycle,Z9 (a:=b.now) (b:=1) (by omega) (by omega)]
  by_cases e1:0≤(atI b.log (k:Int)).cycle∧(atI b.log (k:Int)).cycle < b.now
  ·have e1':0≤(atI b.log (k:Int)).cycle∧(atI b.log (k:Int)).cycle≤b.now - 1:=by omega
   simp only[e1',and_self,decide_true,Bool.not_true,Bool.false_eq_true,if_false]
   cases k with
   | zero=>
    simp only[show ¬(((0:Nat):Int) > 0) by omega,decide_false,Bool.false_eq_true,if_false]
    rcases Z21 h1 hlt (atI b.log ((0:Nat):Int)) with⟨h2,h3⟩|⟨h2,h3⟩
    ·exact .inl ⟨⟨⟨e1,h2⟩,fun h=>by omega⟩,fun κ=>h3 _⟩
    ·exact .inr ⟨fun h=>h2 h.1.2,fun κ=>h3 _⟩
   | succ k=>
    have ek:((k+1:Nat):Int) - 1=(k:Int):=by omega
    simp only[show ((k+1:Nat):Int) > 0 by omega,decide_true,if_true,Z9 (a:=((k+1:Nat):Int)) (b:=1) (by omega) (by omega),ek,Yi (xs:=b.log) (i:=(k:Int)) (by omega) (by omega),Option.bind_some]
    by_cases e2:(atI b.log (k:Int)).cycle < (atI b.log ((k+1:Nat):Int)).cycle
    ·have e2':¬(atI b.log ((k+1:Nat):Int)).cycle≤(atI b.log (k:Int)).cycle:=by omega
     simp only[e2',decide_false,Bool.false_eq_true,if_false]
     rcases Z21 h1 hlt (atI b.log ((k+1:Nat):Int)) with⟨h2,h3⟩|⟨h2,h3⟩
     ·exact .inl ⟨⟨⟨e1,h2⟩,fun h=>e2⟩,fun κ=>h3 _⟩
     ·exact .inr ⟨fun h=>h2 h.1.2,fun κ=>h3 _⟩
    ·have e2':(atI b.log ((k+1:Nat):Int)).cycle≤(atI b.log (k:Int)).cycle:=by omega
     exact .inr ⟨fun h=>e2 (h.2 (by omega)),fun κ=>by simp only[e2',decide_true,if_true]⟩
  ·have e1':¬(0≤(atI b.log (k:Int)).cycle∧(atI b.log (k:Int)).cycle≤b.now - 1):=by omega
   exact .inr ⟨fun h=>e1 h.1.1,fun κ=>by simp only[decide_eq_false e1',Bool.not_false,if_true]⟩
 ·unfold Zhl
  rw[if_neg (by simp)]
theorem Z9u (b:GBus) (hs:b.sm):Z5 (Zik b) (BusP b):=by
 have hJt:Xm b true=some false:=by unfold Xm;rw[if_pos rfl]
 unfold Zik
 rw[Zd3 _ hs.conf,Option.bind_some]
 by_cases hc:Zz b.conf=true
 ·have hlen:=Wy hc
  rw[hc,if_neg (by simp),Yg,Option.bind_some]
  by_cases hn:0≤b.now∧b.now≤4000
  ·rw[if_neg (by simpa using hn)]
   by_cases h1:b.m.length=b.conf.masters.length
   ·rw[if_neg (by simp;omega)]
    by_cases h2:b.buckets.length=b.conf.masters.length
    ·rw[if_neg (by simp;omega)]
     by_cases h3:b.splits.length=b.conf.masters.length
     ·rw[if_neg (by simp;omega),Zxf _ _ hs.conf,Option.bind_some]
      by_cases h4:wrrG b.arb b.conf=true
      ·rw[h4,if_neg (by simp),Yg,Option.bind_some,Z9 (by omega) (by omega)]
       by_cases h5:b.last=-1∨Za b.conf b.last=true
       ·have h5':-1≤b.last∧b.last≤(b.conf.masters.length:Int) - 1:=by
         rcases h5 with h5|h5
         ·omega
         ·simp only[Za,decide_eq_true_eq] at h5;omega
        rw[if_neg (by simpa using h5'),Z0k _ hs.model,Option.bind_some]
        by_cases h6:Ztq b.model=true
        ·rw[h6,if_neg (by simp)]
         by_cases h7:0≤b.picks
         ·rw[if_neg (by simpa using h7)]
          by_cases h8:b.picks≤b.now
          ·rw[decide_eq_false (by omega)]
           unfold Xm
           rw[if_neg (by simp)]
           have hloop:=Zk6 (n:=b.conf.masters.length) (by omega) (P:=fun k=>MstP b.conf b (k:Int)∧(atI b.m (k:Int)).beat - (atI b.m (k:Int)).done=flyG b (k:Int))
            (Q:=((b.data_.live=true→Kb b b.data_)∧X2 b)∧((b.addr.live=true→Kb b b.addr)∧Wc b)∧Zfm b∧logP b) (B:=Zj7 b) (L:=Zli b) (fun m i=>rfl) (fun k hk=>?_) fun hP=>?_
           ·refine hloop.iff ⟨fun h=>?_,fun h=>?_⟩
            ·obtain⟨h9,h10,h11,h12,h13⟩:=h
             have hm:=(Zr7 (c:=b.conf) (P:=fun i=>MstP b.conf b i∧(atI b.m i).beat - (atI b.m i).done=flyG b i)).2 h9
             exact⟨hc,hn,h1,h2,h3,fun i hi=>(hm i hi).1,h4,h5,Zqn.1 h6,⟨h7,h8⟩,h11.1,h10.1,fun i hi=>(hm i hi).2,h11.2,h10.2,h12,h13⟩
            ·exact⟨fun k hk=>⟨h.mst _ (mas hk),h.fly _ (mas hk)⟩,⟨h.dlive,h.data⟩,⟨h.alive,h.addr⟩,h.held,h.log⟩
           ·have hm:=mas (c:=b.conf) (k:=k) hk
            have hms:=hs.mst _ (mem_m h1 hm)
            have hme:=Za5 (Zez hc hm)
            unfold Zj7
            simp only[if_pos (show decide ((k:Int) < (b.conf.masters.length:Int))=true by simpa using hk),Y2 h1 hm,Z1p h2 hm,Zlq h3 hm,Zub hm,Option.bind_some,Zla _ ⟨hme.1,hme.2.1⟩,Yg,Yk3]
            unfold Zzn
            simp only[Zd3 _ hs.conf,hc,if_true,Option.bind_some,Zcq _ hms]
            by_cases e1:Zqd (atI b.m (k:Int))=true
            ·by_cases e2:(atI b.m (k:Int)).tries≤b.conf.maxRetry
             ·by_cases e3:Z0 (atI b.buckets (k:Int)) (atI b.conf.masters (k:Int))=true
              ·by_cases e4:0≤atI b.splits (k:Int)∧atI b.splits (k:Int)≤b.conf.maxSplit
               ·have hrb:=W9 (Qd.1 e1)
                rw[Z9 (by omega) (by omega)]
                by_cases e5:(atI b.m (k:Int)).beat - (atI b.m (k:Int)).done=flyG b (k:Int)
                ·refine .inl ⟨⟨⟨Qd.1 e1,e2,e3,e4⟩,e5⟩,fun κ=>?_⟩
                 simp[e1,e2,e3,e4,e5]
                ·refine .inr ⟨fun h=>e5 h.2,fun κ=>?_⟩
                 simp[e1,e2,e3,e4,e5]
               ·refine .inr ⟨fun h=>e4 h.1.split,fun κ=>?_⟩
                simp[e1,e2,e3,e4]
              ·refine .inr ⟨fun h=>e3 h.1.bucket,fun κ=>?_⟩
               simp[e1,e2,e3]
             ·refine .inr ⟨fun h=>e2 h.1.tries,fun κ=>?_⟩
              simp[e1,e2]
            ·refine .inr ⟨fun h=>e1 (Qd.2 h.1.right),fun κ=>?_⟩
             simp[e1]
           ·have hm:=(Zr7 (c:=b.conf) (P:=fun i=>MstP b.conf b i∧(atI b.m i).beat - (atI b.m i).done=flyG b i)).2 hP
            have hm1:∀i,Za b.conf i=true→MstP b.conf b i:=fun i hi=>(hm i hi).1
            have hT:Z5 ((J1 b b.data_ true).bind fun r903=>if r903=true then (J1 b b.addr false).bind fun r908=>if r908=true then (Zkw b).bind fun r912=>if r912=true then (Zmt b).bind fun r916=>some r916 else some false else some false else some false)
              (((b.data_.live=true→Kb b b.data_)∧X2 b)∧((b.addr.live=true→Kb b b.addr)∧Wc b)∧Zfm b∧logP b):=by
             refine Z5.and (Z63 b hs hc h1 h3 hm1) fun _=>?_
             refine Z5.and (Z6y b hs hc h1 h3 hm1) fun _=>?_
             refine Z5.and (Z43 b hc h1 h3 hm1) fun _=>?_
             obtain⟨r,h9,h10⟩:=Z7n b hc h1 hs.log hn
             rw[h9]
             exact .of h10
            obtain⟨r,h9,h10⟩:=hT
            refine⟨r,fun κ=>?_,h10⟩
            unfold Zj7
            rw[if_neg (by simp)]
            exact h9
          ·rw[decide_eq_true (by omega),hJt]
           exact .no fun h=>h8 h.picks.2
         ·rw[if_pos (by simpa using h7),hJt]
          exact .no fun h=>h7 h.picks.1
        ·rw[if_pos (by simpa using h6),hJt]
         exact .no fun h=>h6 (Zqn.2 h.model)
       ·have h5':¬(-1≤b.last∧b.last≤(b.conf.masters.length:Int) - 1):=by
         intro h6
         apply h5
         simp only[Za,decide_eq_true_eq]
         omega
        rw[if_pos (by rw[decide_eq_false h5'];rfl),hJt]
        exact .no fun h=>h5 h.last
      ·rw[if_pos (by simpa using h4),hJt]
       exact .no fun h=>h4 h.arb
     ·rw[if_pos (by simp;omega),hJt]
      exact .no fun h=>h3 h.sl
    ·rw[if_pos (by simp;omega),hJt]
     exact .no fun h=>h2 h.bl
   ·rw[if_pos (by simp;omega),hJt]
    exact .no fun h=>h1 h.ml
  ·rw[if_pos (by rw[decide_eq_false hn];rfl),hJt]
   exact .no fun h=>hn h.now
 ·rw[if_pos (by simpa using hc),hJt]
  exact .no fun h=>hc h.conf
theorem Z35 (b:GBus) (hs:b.sm):∃r,Zmf b=some r∧Zik b=some r∧(r=true↔BusP b):=(Z9l b hs).eq (Z9u b hs)
def Zb9 (l:List Int) (k:Int):Int:=if l=[]∨k < 0 then 0 else atI l (k % (l.length:Int))
def Zae (c:GConf) (s:GScript) (k:Int):Int:=max 0 (min (Zb9 s.waits k) c.maxWait)
def Kq (s:GScript) (k:Int):Int:=if Zb9 s.says k=2∨Zb9 s.says k=3 then Zb9 s.says k else 0
def K4 (c:GConf) (s:GScript) (k:Int):Int:=max 1 (min (max 0 (min (Zb9 s.waits k) 99)+1) c.maxSplit)
def Zeh (b:GBus):GWave:=
 GWave.mk b.now (if b.addr.live then Zn (atI b.m b.addr.who) b.addr.beat else -1) (if b.addr.live then (if b.addr.first then 2 else 3) else 0) (if b.addr.live then b.addr.who else -1)
  (if b.data_.live then Zn (atI b.m b.data_.who) b.data_.beat else -1) (if b.data_.live then b.data_.who else -1) true 0 (-1)
def Z8 (s:GScript) (t:Int):List GPost:=s.posts.filter fun p=>decide (p.at_=t)
def Xr (b:GBus) (p:GPost):GBus:=if Za b.conf p.who=true then {b with m:=b.m.set p.who.toNat (X8 (atI b.m p.who) p.req)} else b
def Z7 (b:GBus) (ps:List GPost):GBus:=ps.foldl Xr b
def Z4 (b:GBus):GBus:={b with splits:=b.splits.map fun n=>max (n - 1) 0,buckets:=List.zipWith Zoa b.buckets b.conf.masters}
def W7 (b:GBus):GBus:=if b.holder=-1 then b else {b with held:=min (b.held+1) b.conf.lockMost}
def Yi9 (b:GBus):GBus:={b with holder:=-1,held:=0}
def Zt (b:GBus) (x:GBeat):GBus:=
 if x.by_=1 then {b with m:=b.m.set x.who.toNat (Qo (atI b.m x.who)),buckets:=b.buckets.set x.who.toNat (Zt3 (atI b.buckets x.who) (atI b.conf.masters x.who))}
 else if x.by_=2 then {b with m:=b.m.set x.who.toNat (Qo (atI b.m x.who)),arb:=Zst b.arb b.conf x.who}
 else {b with m:=b.m.set x.who.toNat (Qo (atI b.m x.who))}
def Zbf (m:GMst) (k:Int):Int:=if (atI m.queue 0).write then atI (atI m.queue 0).data_ k else 0
def doG (b:GBus) (x:GBeat):GModel×Int×Int:=X7 b.model (atI (atI b.m x.who).queue 0).write (Zn (atI b.m x.who) x.beat) (atI (atI b.m x.who).queue 0).size (Zbf (atI b.m x.who) x.beat)
def Zhe (b:GBus) (x:GBeat):GDone:=GDone.mk b.now x.who (atI (atI b.m x.who).queue 0).write (Zn (atI b.m x.who) x.beat) (atI (atI b.m x.who).queue 0).size (if x.resp=0 then (doG b x).2.1 else 0) x.resp
def Zdq (b:GBus) (x:GBeat):GBus:=
 {b with model:=if x.resp=0 then (doG b x).1 else b.model,log:=b.log++[Zhe b x],m:=b.m.set x.who.toNat (endG (atI b.m x.who)),holder:=if b.holder=x.who∧(atI b.m x.who).done+1=Zf (atI b.m x.who) then -1 else b.holder,held:=if b.holder=x.who∧(atI b.m x.who).done+1=Zf (atI b.m x.who) then 0 else b.held}
def Zc (b:GBus) (s:GScript):GBus×Bool×Int:=
 if b.data_.live=false then (b,true,0)
 else if b.data_.left > 0 then ({b with data_:={b.data_ with left:=b.data_.left - 1}},false,0)
 else if b.data_.resp≠0∧b.data_.second=false then
  (if b.addr.live then {Zt {b with data_:={b.data_ with second:=true}} b.addr with addr:=GBeat.z0} else {b with data_:={b.data_ with second:=true}},false,b.data_.resp)
 else if b.data_.resp=2 then (Zt {b with data_:=GBeat.z0,m:=b.m.set b.data_.who.toNat {atI b.m b.data_.who with tries:=(atI b.m b.data_.who).tries+1}} b.data_,true,b.data_.resp)
 else if b.data_.resp=3 then (Zt {b with data_:=GBeat.z0,m:=b.m.set b.data_.who.toNat {atI b.m b.data_.who with parted:=true},splits:=b.splits.set b.data_.who.toNat (K4 b.conf s b.picks)} b.data_,true,b.data_.resp)
 else (Zdq {b with data_:=GBeat.z0} b.data_,true,b.data_.resp)
def Zs (b:GBus):GBus:=if b.holder≠-1∧b.held=b.conf.lockMost then Yi9 {b with m:=b.m.set b.holder.toNat {atI b.m b.holder with broken:=true}} else b
def Xd (b:GBus) (s:GScript) (x:GBeat):Int×Int:=
 if (atI b.m x.who).broken=true∨Zp (Zn (atI b.m x.who) x.beat)=0 then (1,0) else
 (if Kq s b.picks=2∧Zp (Zn (atI b.m x.who) x.beat)≠3∧(atI b.m x.who).tries < b.conf.maxRetry then 2
  else if Kq s b.picks=3∧Zp (Zn (atI b.m x.who) x.beat)=2∧(atI b.m x.who).parted=false∧x.who≠b.holder then 3 else (doG b x).2.2,if Zp (Zn (atI b.m x.who) x.beat)=3 then Zae b.conf s b.picks+2 else Zae b.conf s b.picks)
def Ya (b:GBus) (s:GScript):GBus:=if b.addr.live then {b with data_:={b.addr with left:=(Xd b s b.addr).2,resp:=(Xd b s b.addr).1},addr:=GBeat.z0,picks:=b.picks+1} else b
def Xq (b:GBus) (i:Int):Bool:=Zgt (atI b.m i)&&(decide (atI b.splits i=0)&&(decide (b.holder=-1)||decide (b.holder=i)))
def Xu (b:GBus):List Bool:=(List.range b.m.length).map fun k:Nat=>Xq b (k:Int)
def Kn (b:GBus) (k:Nat):Bool:=Xq b (k:Int)&&(Zc7 (atI b.buckets (k:Int)) (atI b.conf.masters (k:Int))).2
def Z6 (b:GBus):Int×Int×GBus:=
 if b.holder≠-1∧Xq b b.holder=true then (b.holder,3,b)
 else match (List.range b.m.length).find? (Kn b) with
  | some k=>((k:Int),1,{b with buckets:=b.buckets.set k (Zc7 (atI b.buckets (k:Int)) (atI b.conf.masters (k:Int))).1})
  | none=>if b.holder≠-1 then (-1,0,b) else ((Qy b.arb b.conf (Xu b)).2,2,{b with arb:=(Qy b.arb b.conf (Xu b)).1})
def Zu0 (b:GBus) (who by_:Int):GBus:=
 {b with addr:=GBeat.mk true who (atI b.m who).beat (decide ((atI b.m who).beat=0)||decide (b.last≠who)) by_ 0 0 false,holder:=if Zx (atI b.m who)=true∧b.holder=-1 then who else b.holder,held:=if Zx (atI b.m who)=true∧b.holder=-1 then 0 else b.held,m:=b.m.set who.toNat (Yq (atI b.m who)),last:=who}
def Y3 (b:GBus):Int×GBus:=if (Z6 b).1 < 0 then (-1,(Z6 b).2.2) else ((Z6 b).1,Zu0 (Z6 b).2.2 (Z6 b).1 (Z6 b).2.1)
def Zm (b:GBus) (s:GScript):Int×GBus:=Y3 (Ya (Zs b) s)
def Zi (b:GBus) (s:GScript):GBus:=W7 (Z4 (Z7 b (Z8 s b.now)))
def Ze (b:GBus) (s:GScript):GBus×GWave:=
 if (Zc (Zi b s) s).2.1=true then
  ({(Zm (Zc (Zi b s) s).1 s).2 with now:=b.now+1},{Zeh b with resp:=(Zc (Zi b s) s).2.2,got:=(Zm (Zc (Zi b s) s).1 s).1})
 else ({(Zc (Zi b s) s).1 with now:=b.now+1},{Zeh b with ready:=false,resp:=(Zc (Zi b s) s).2.2})
structure BusI (n:Int) (b:GBus):Prop where
 conf:Zz b.conf=true
 ml:b.m.length=b.conf.masters.length
 bl:b.buckets.length=b.conf.masters.length
 sl:b.splits.length=b.conf.masters.length
 mst:∀i,Za b.conf i=true→MstP b.conf b i
 arb:wrrG b.arb b.conf=true
 last:b.last=-1∨Za b.conf b.last=true
 model:ModelP b.model
 alive:b.addr.live=true→Kb b b.addr
 dlive:b.data_.live=true→Kb b b.data_
 fly:∀i,Za b.conf i=true→(atI b.m i).beat - (atI b.m i).done=flyG b i
 addr:Wc b
 data:X2 b
 held:Zfm b
 log:(∀d∈b.log,Zyr b.conf n d)∧b.log.Pairwise fun x y=>x.cycle < y.cycle
theorem BusP.i {b:GBus} (h:BusP b):BusI b.now b:=⟨h.conf,h.ml,h.bl,h.sl,h.mst,h.arb,h.last,h.model,h.alive,h.dlive,h.fly,h.addr,h.data,h.held,h.log⟩
theorem Zsq {α:Type} [Inhabited α] {xs:List α} {w i:Int} (a:α) (h0:0≤w) (h1:w < (xs.length:Int)) (hi:0≤i):atI (xs.set w.toNat a) i=if i=w then a else atI xs i:=by
 split
 ·rename_i h;subst h;exact Zg1 a h0 h1
 ·rename_i h;exact Zz5 a h0 hi (fun h2=>h h2.symm)
theorem Ye {c:GConf} {i:Int} (h:Za c i=true):0≤i∧i < (c.masters.length:Int):=by simpa [Za] using h
theorem BusI.at_m {n:Int} {b:GBus} (h:BusI n b) {w:Int} (hw:Za b.conf w=true) (x:GMst) {i:Int} (hi:Za b.conf i=true):atI (b.m.set w.toNat x) i=if i=w then x else atI b.m i:=by
 have h1:=Ye hw
 have h2:=Ye hi
 exact Zsq x h1.1 (by have:=h.ml;omega) h2.1
theorem X6 {n:Int} {b:GBus} (h:BusI n b) (hl:b.addr.live=true):Za b.conf b.addr.who=true:=(h.alive hl).1
theorem Yk {n:Int} {b:GBus} (h:BusI n b) (hl:b.data_.live=true):Za b.conf b.data_.who=true:=(h.dlive hl).1
theorem Yk4 {m:GMst} {r:GReq} (hq:m.queue≠[]):(X8 m r).queue≠[]∧atI (X8 m r).queue 0=atI m.queue 0:=by
 unfold X8
 split
 ·exact⟨by simp,Z2m hq⟩
 ·exact⟨hq,rfl⟩
theorem Z8e (m:GMst) (r:GReq):(X8 m r).beat=m.beat∧(X8 m r).done=m.done∧(X8 m r).tries=m.tries∧(X8 m r).parted=m.parted∧(X8 m r).broken=m.broken:=by
 unfold X8;split<;>exact⟨rfl,rfl,rfl,rfl,rfl⟩
theorem Yji {m:GMst} {r:GReq} (hq:m.queue≠[]):Zx (X8 m r)=Zx m:=by
 have h:=Yk4 (r:=r) hq
 have h2:=Z8e m r
 unfold Zx
 rw[h.2,h2.2.2.2.2]
 simp[h.1,hq]
theorem Yct {m:GMst} (h:Zx m=true):m.queue≠[]:=by
 intro hq;simp[Zx,hq] at h
theorem Zyb {n:Int} {b:GBus} {p:GPost} (h:BusI n b):BusI n (Xr b p):=by
 unfold Xr
 split
 ·rename_i hw
  have ha:=fun {i} hi=>h.at_m hw (X8 (atI b.m p.who) p.req) (i:=i) hi
  have hs:=Z8e (atI b.m p.who) p.req
  have hbd:∀i,Za b.conf i=true→(atI (b.m.set p.who.toNat (X8 (atI b.m p.who) p.req)) i).beat=(atI b.m i).beat∧(atI (b.m.set p.who.toNat (X8 (atI b.m p.who) p.req)) i).done=(atI b.m i).done∧(atI (b.m.set p.who.toNat (X8 (atI b.m p.who) p.req)) i).tries=(atI b.m i).tries∧(atI (b.m.set p.who.toNat (X8 (atI b.m p.who) p.req)) i).parted=(atI b.m i).parted:=by
   intro i hi
   rw[ha hi]
   split
   ·rename_i e;subst e;exact⟨hs.1,hs.2.1,hs.2.2.1,hs.2.2.2.1⟩
   ·exact⟨rfl,rfl,rfl,rfl⟩
  have hlk:∀i,Za b.conf i=true→(atI b.m i).queue≠[]→Zx (atI (b.m.set p.who.toNat (X8 (atI b.m p.who) p.req)) i)=Zx (atI b.m i):=by
   intro i hi hq
   rw[ha hi]
   split
   ·rename_i e;subst e;exact Yji hq
   ·rfl
  refine⟨h.conf,by simp[h.ml],h.bl,h.sl,fun i hi=>?_,h.arb,h.last,h.model,h.alive,h.dlive,fun i hi=>?_,?_,?_,?_,h.log⟩
  ·have hm:=h.mst i hi
   refine⟨?_,by have:=(hbd i hi).2.2.1;simp only at this ⊢;rw[this];exact hm.tries,hm.bucket,hm.split⟩
   show RightP (atI (b.m.set p.who.toNat (X8 (atI b.m p.who) p.req)) i)
   rw[ha hi]
   split
   ·exact Yjb (h.mst _ hw).right
   ·exact hm.right
  ·show (atI (b.m.set p.who.toNat (X8 (atI b.m p.who) p.req)) i).beat - (atI (b.m.set p.who.toNat (X8 (atI b.m p.who) p.req)) i).done=flyG b i
   rw[(hbd i hi).1,(hbd i hi).2.1]
   exact h.fly i hi
  ·have:=h.addr
   unfold Wc at this ⊢
   simp only
   by_cases hl:b.addr.live=true
   ·rw[if_pos hl] at this ⊢
    rw[(hbd _ (X6 h hl)).1];exact this
   ·rw[if_neg hl] at this ⊢;exact this
  ·have:=h.data
   unfold X2 at this ⊢
   simp only
   by_cases hl:b.data_.live=true
   ·rw[if_pos hl] at this ⊢
    have e:=hbd _ (Yk h hl)
    rw[e.2.1,e.2.2.1,e.2.2.2];exact this
   ·rw[if_neg hl] at this ⊢;exact this
  ·obtain⟨h1,h2⟩:=h.held
   refine⟨fun i hi hb hk=>?_,?_⟩
   ·simp only at hb hk
    have hi2:Za b.conf i=true:=hi
    rw[(hbd i hi2).1] at hb
    have hq:(atI b.m i).queue≠[]:=by
     intro hq
     have:=(h.mst i hi2).right.none hq
     omega
    rw[hlk i hi2 hq] at hk
    exact h1 i hi2 hb hk
   ·simp only
    split
    ·rename_i e;rw[if_pos e] at h2;exact h2
    ·rename_i e
     rw[if_neg e] at h2
     exact⟨h2.1,by rw[hlk _ h2.1 (Yct h2.2.1)];exact h2.2.1,h2.2.2⟩
 ·exact h
theorem Zkb {n:Int} {b:GBus} (h:BusI n b) (ps:List GPost):BusI n (Z7 b ps):=by
 induction ps generalizing b with
 | nil=>exact h
 | cons p ps ih=>exact ih (Zyb h)
theorem Zzk (b:GBus) (p:GPost):(Xr b p).conf=b.conf∧(Xr b p).now=b.now∧(Xr b p).picks=b.picks∧(Xr b p).log=b.log∧(Xr b p).model=b.model∧(Xr b p).holder=b.holder∧(Xr b p).held=b.held∧(Xr b p).addr=b.addr∧(Xr b p).data_=b.data_∧(Xr b p).splits=b.splits∧(Xr b p).buckets=b.buckets∧(Xr b p).arb=b.arb∧(Xr b p).last=b.last:=by
 unfold Xr;split<;>exact⟨rfl,rfl,rfl,rfl,rfl,rfl,rfl,rfl,rfl,rfl,rfl,rfl,rfl⟩
theorem Zek (b:GBus) (ps:List GPost):(Z7 b ps).conf=b.conf∧(Z7 b ps).now=b.now∧(Z7 b ps).picks=b.picks∧(Z7 b ps).log=b.log∧(Z7 b ps).model=b.model∧(Z7 b ps).holder=b.holder∧(Z7 b ps).held=b.held∧(Z7 b ps).addr=b.addr∧(Z7 b ps).data_=b.data_∧(Z7 b ps).splits=b.splits∧(Z7 b ps).buckets=b.buckets∧(Z7 b ps).arb=b.arb∧(Z7 b ps).last=b.last:=by
 induction ps generalizing b with
 | nil=>exact⟨rfl,rfl,rfl,rfl,rfl,rfl,rfl,rfl,rfl,rfl,rfl,rfl,rfl⟩
 | cons p ps ih=>
  have h1:=ih (Xr b p)
  have h2:=Zzk b p
  simp only[h2] at h1
  exact h1
theorem Yc4 {α β:Type} [Inhabited α] [Inhabited β] (f:α→β) {xs:List α} {i:Int} (h0:0≤i) (h1:i < (xs.length:Int)):atI (xs.map f) i=f (atI xs i):=by
 obtain⟨k,rfl⟩:∃k:Nat,i=k:=⟨i.toNat,by omega⟩
 have hk:k < xs.length:=by omega
 rw[Xb hk,Xb (by simpa using hk)];simp
theorem at_zip {α β γ:Type} [Inhabited α] [Inhabited β] [Inhabited γ] (f:α→β→γ) {xs:List α} {ys:List β} {i:Int} (h0:0≤i) (h1:i < (xs.length:Int)) (h2:i < (ys.length:Int)):atI (List.zipWith f xs ys) i=f (atI xs i) (atI ys i):=by
 obtain⟨k,rfl⟩:∃k:Nat,i=k:=⟨i.toNat,by omega⟩
 have hk:k < xs.length:=by omega
 have hk2:k < ys.length:=by omega
 rw[Xb hk,Xb hk2,Xb (by simp;omega)];simp
theorem Zxo {n:Int} {b:GBus} (h:BusI n b):BusI n (Z4 b):=by
 have hsp:∀i,Za b.conf i=true→atI (b.splits.map fun n=>max (n - 1) 0) i=max (atI b.splits i - 1) 0:=fun i hi=>by
  have:=Ye hi
  exact Yc4 _ this.1 (by have:=h.sl;omega)
 have hbu:∀i,Za b.conf i=true→atI (List.zipWith Zoa b.buckets b.conf.masters) i=Zoa (atI b.buckets i) (atI b.conf.masters i):=fun i hi=>by
  have:=Ye hi
  exact at_zip _ this.1 (by have:=h.bl;omega) this.2
 have h0:∀i,Za b.conf i=true→atI b.splits i=0→atI (b.splits.map fun n=>max (n - 1) 0) i=0:=fun i hi e=>by rw[hsp i hi,e];rfl
 refine⟨h.conf,h.ml,by simp[Z4,h.bl],by simp[Z4,h.sl],fun i hi=>?_,h.arb,h.last,h.model,fun hl=>?_,fun hl=>?_,h.fly,h.addr,h.data,?_,h.log⟩
 ·have hm:=h.mst i hi
  refine⟨hm.right,hm.tries,?_,?_⟩
  ·show Z0 (atI (List.zipWith Zoa b.buckets b.conf.masters) i) _=true
   rw[hbu i hi]
   exact Ypj hm.bucket (Zez h.conf hi)
  ·show 0≤atI (b.splits.map fun n=>max (n - 1) 0) i∧_
   have:=hm.split
   have hx:=(Ym h.conf).2.2.2
   show 0≤atI (b.splits.map fun n=>max (n - 1) 0) i∧atI (b.splits.map fun n=>max (n - 1) 0) i≤b.conf.maxSplit
   rw[hsp i hi]
   omega
 ·obtain⟨h1,h2,h3⟩:=h.alive hl
  exact⟨h1,h2,h0 _ h1 h3⟩
 ·obtain⟨h1,h2,h3⟩:=h.dlive hl
  exact⟨h1,h2,h0 _ h1 h3⟩
 ·obtain⟨h1,h2⟩:=h.held
  refine⟨h1,?_⟩
  show if b.holder=-1 then b.held=0 else _
  split
  ·rename_i e;rw[if_pos e] at h2;exact h2
  ·rename_i e
   rw[if_neg e] at h2
   exact⟨h2.1,h2.2.1,h0 _ h2.1 h2.2.2.1,h2.2.2.2⟩
theorem Yhb {n:Int} {b:GBus} (h:BusI n b):BusI n (W7 b):=by
 unfold W7
 split
 ·exact h
 ·rename_i e
  refine⟨h.conf,h.ml,h.bl,h.sl,fun i hi=>?_,h.arb,h.last,h.model,h.alive,h.dlive,h.fly,h.addr,h.data,?_,h.log⟩
  ·have hm:=h.mst i hi;exact⟨hm.right,hm.tries,hm.bucket,hm.split⟩
  ·obtain⟨h1,h2⟩:=h.held
   refine⟨h1,?_⟩
   rw[if_neg e] at h2
   show if b.holder=-1 then _ else _
   rw[if_neg e]
   have hl:=(Ym h.conf).2.2.1
   refine⟨h2.1,h2.2.1,h2.2.2.1,?_⟩
   have:=h2.2.2.2
   show 0≤min (b.held+1) b.conf.lockMost∧min (b.held+1) b.conf.lockMost≤b.conf.lockMost
   omega
theorem Z9c {b b':GBus} (h:Zfm b) (hc:b'.conf=b.conf) (hh:b'.holder=b.holder) (hd:b'.held=b.held)
  (hm:∀i,Za b.conf i=true→Zx (atI b'.m i)=Zx (atI b.m i)∧((atI b'.m i).beat > 0→(atI b.m i).beat > 0)) (hs:b.holder≠-1→atI b.splits b.holder=0→atI b'.splits b.holder=0):Zfm b':=by
 obtain⟨h1,h2⟩:=h
 unfold Zfm
 rw[hc,hh,hd]
 refine⟨fun i hi hb hk=>h1 i hi ((hm i hi).2 hb) (by rw[←(hm i hi).1];exact hk),?_⟩
 split
 ·rename_i e;rw[if_pos e] at h2;exact h2
 ·rename_i e
  rw[if_neg e] at h2
  exact⟨h2.1,by rw[(hm _ h2.1).1];exact h2.2.1,hs e h2.2.2.1,h2.2.2.2⟩
theorem Ziq (m:GMst):(Qo m).queue=m.queue∧(Qo m).done=m.done∧(Qo m).tries=m.tries∧(Qo m).parted=m.parted∧(Qo m).broken=m.broken:=by
 unfold Qo;split<;>exact⟨rfl,rfl,rfl,rfl,rfl⟩
theorem Znc {m m':GMst} (h1:m'.queue=m.queue) (h2:m'.broken=m.broken):Zx m'=Zx m:=by
 unfold Zx;rw[h1,h2]
structure Revoked (b r:GBus) (x:GBeat):Prop where
 conf:r.conf=b.conf
 m:r.m=b.m.set x.who.toNat (Qo (atI b.m x.who))
 bl:r.buckets.length=b.conf.masters.length
 bk:∀i,Za b.conf i=true→Z0 (atI r.buckets i) (atI b.conf.masters i)=true
 arb:wrrG r.arb b.conf=true
 splits:r.splits=b.splits
 holder:r.holder=b.holder
 held:r.held=b.held
 addr:r.addr=b.addr
 data:r.data_=b.data_
 model:r.model=b.model
 log:r.log=b.log
 last:r.last=b.last
 now:r.now=b.now
 picks:r.picks=b.picks
theorem Z08 {b:GBus} {x:GBeat} (hc:Zz b.conf=true) (hw:Za b.conf x.who=true) (hbl:b.buckets.length=b.conf.masters.length) (hbk:∀i,Za b.conf i=true→Z0 (atI b.buckets i) (atI b.conf.masters i)=true) (har:wrrG b.arb b.conf=true):Revoked b (Zt b x) x:=by
 have hb:=Ye hw
 unfold Zt
 split
 ·refine⟨rfl,rfl,by simp[hbl],fun i hi=>?_,har,rfl,rfl,rfl,rfl,rfl,rfl,rfl,rfl,rfl,rfl⟩
  show Z0 (atI (b.buckets.set x.who.toNat _) i) _=true
  rw[Zsq _ hb.1 (by omega) (Ye hi).1]
  split
  ·rename_i e;subst e;exact Yn2 (hbk _ hi) (Zez hc hi)
  ·exact hbk i hi
 ·split
  ·exact⟨rfl,rfl,hbl,hbk,Ymd _ har,rfl,rfl,rfl,rfl,rfl,rfl,rfl,rfl,rfl,rfl⟩
  ·exact⟨rfl,rfl,hbl,hbk,har,rfl,rfl,rfl,rfl,rfl,rfl,rfl,rfl,rfl,rfl⟩
theorem BusI.mono {n:Int} {b:GBus} (h:BusI n b):BusI (n+1) b:=
 ⟨h.conf,h.ml,h.bl,h.sl,h.mst,h.arb,h.last,h.model,h.alive,h.dlive,h.fly,h.addr,h.data,h.held,fun d hd=>by have:=h.log.1 d hd;exact⟨⟨this.1.1,by have:=this.1.2;omega⟩,this.2⟩,h.log.2⟩
theorem Yf9 {n:Int} {b:GBus} (h:BusI n b) (hl:b.addr.live=true):(atI b.m b.addr.who).beat - (atI b.m b.addr.who).done≥1:=by
 rw[h.fly _ (X6 h hl)]
 unfold flyG
 rw[if_pos ⟨hl,rfl⟩]
 split<;>omega
theorem Zl0 {n:Int} {b:GBus} (h:BusI n b) (hl:b.data_.live=true):(atI b.m b.data_.who).beat - (atI b.m b.data_.who).done≥1:=by
 rw[h.fly _ (Yk h hl)]
 unfold flyG
 rw[if_pos (⟨hl,rfl⟩:b.data_.live=true∧b.data_.who=b.data_.who)]
 split<;>omega
theorem Yg5 {n:Int} {b:GBus} (h:BusI n b) (hd:b.data_.live=true) (hl:b.data_.left > 0):BusI n {b with data_:={b.data_ with left:=b.data_.left - 1}}:=by
 refine⟨h.conf,h.ml,h.bl,h.sl,fun i hi=>?_,h.arb,h.last,h.model,h.alive,fun _=>h.dlive hd,fun i hi=>?_,h.addr,?_,h.held,h.log⟩
 ·have hm:=h.mst i hi;exact⟨hm.right,hm.tries,hm.bucket,hm.split⟩
 ·have:=h.fly i hi
  unfold flyG at this ⊢
  exact this
 ·have:=h.data
  unfold X2 at this ⊢
  rw[if_pos hd] at this
  simp only
  rw[if_pos hd]
  refine⟨⟨this.1.1,by have:=this.1.2.1;omega,this.1.2.2⟩,this.2.1,this.2.2.1,fun hs=>?_⟩
  have:=(this.2.2.2 hs).1
  omega
theorem Yi0 {n:Int} {b:GBus} (h:BusI n b) (hd:b.data_.live=true) (hl:b.data_.left=0) (hr:b.data_.resp≠0):
  BusI n (if b.addr.live then {Zt {b with data_:={b.data_ with second:=true}} b.addr with addr:=GBeat.z0} else {b with data_:={b.data_ with second:=true}}):=by
 have hdat:=h.data
 unfold X2 at hdat
 rw[if_pos hd] at hdat
 by_cases ha:b.addr.live=true
 ·rw[if_pos ha]
  have hw:=X6 h ha
  have hb:=Ye hw
  have hf:=Z08 (b:={b with data_:={b.data_ with second:=true}}) (x:=b.addr) h.conf hw h.bl (fun i hi=>(h.mst i hi).bucket) h.arb
  generalize Zt {b with data_:={b.data_ with second:=true}} b.addr=r at hf
  have hat:∀i,Za b.conf i=true→atI r.m i=if i=b.addr.who then Qo (atI b.m b.addr.who) else atI b.m i:=fun i hi=>by
   rw[hf.m];exact h.at_m hw _ hi
  have hs:=Ziq (atI b.m b.addr.who)
  have hsm:∀i,Za b.conf i=true→(atI r.m i).queue=(atI b.m i).queue∧(atI r.m i).done=(atI b.m i).done∧(atI r.m i).tries=(atI b.m i).tries∧(atI r.m i).parted=(atI b.m i).parted∧(atI r.m i).broken=(atI b.m i).broken:=fun i hi=>by
   rw[hat i hi]
   split
   ·rename_i e;subst e;exact hs
   ·exact⟨rfl,rfl,rfl,rfl,rfl⟩
  have hp:=Yf9 h ha
  have hbt:(Qo (atI b.m b.addr.who)).beat=(atI b.m b.addr.who).beat - 1:=by
   unfold Qo;rw[if_neg (by omega)]
  refine⟨by rw[show ({r with addr:=GBeat.z0}:GBus).conf=r.conf from rfl,hf.conf];exact h.conf,?_,?_,?_,fun i hi=>?_,?_,?_,?_,fun hx=>?_,fun hx=>?_,fun i hi=>?_,?_,?_,?_,?_⟩
  ·show r.m.length=r.conf.masters.length
   rw[hf.m,hf.conf];simp[h.ml]
  ·show r.buckets.length=r.conf.masters.length
   rw[hf.bl,hf.conf]
  ·show r.splits.length=r.conf.masters.length
   rw[hf.splits,hf.conf];exact h.sl
  ·have hi':Za b.conf i=true:=by rw[←show r.conf=b.conf from hf.conf];exact hi
   have hm:=h.mst i hi'
   refine⟨?_,?_,?_,?_⟩
   ·show RightP (atI r.m i)
    rw[hat i hi']
    split
    ·exact Z6h (h.mst _ hw).right
    ·exact hm.right
   ·show (atI r.m i).tries≤r.conf.maxRetry
    rw[(hsm i hi').2.2.1,hf.conf];exact hm.tries
   ·show Z0 (atI r.buckets i) (atI r.conf.masters i)=true
    rw[hf.conf];exact hf.bk i hi'
   ·show 0≤atI r.splits i∧atI r.splits i≤r.conf.maxSplit
    rw[hf.splits,hf.conf];exact hm.split
  ·show wrrG r.arb r.conf=true
   rw[hf.conf];exact hf.arb
  ·show r.last=-1∨Za r.conf r.last=true
   rw[hf.last,hf.conf];exact h.last
  ·show ModelP r.model
   rw[hf.model];exact h.model
  ·cases hx
  ·have hx':r.data_.live=true:=hx
   obtain⟨h1,h2,h3⟩:=h.dlive hd
   refine⟨?_,?_,?_⟩
   ·show Za r.conf r.data_.who=true
    rw[hf.conf,hf.data];exact h1
   ·show 1≤r.data_.by_∧r.data_.by_≤3
    rw[hf.data];exact h2
   ·show atI r.splits r.data_.who=0
    rw[hf.splits,hf.data];exact h3
  ·have hi':Za b.conf i=true:=by rw[←show r.conf=b.conf from hf.conf];exact hi
   show (atI r.m i).beat - (atI r.m i).done=flyG {r with addr:=GBeat.z0} i
   have hfl:=h.fly i hi'
   unfold flyG at hfl ⊢
   simp only[hf.data]
   rw[(hsm i hi').2.1,hat i hi']
   by_cases e:i=b.addr.who
   ·subst e
    rw[if_pos rfl,hbt]
    rw[if_pos ⟨ha,rfl⟩] at hfl
    simp only[Bool.false_eq_true,false_and,if_false]
    omega
   ·rw[if_neg e]
    rw[if_neg (fun hx=>e hx.2.symm)] at hfl
    simp only[Bool.false_eq_true,false_and,if_false]
    exact hfl
  ·unfold Wc
   simp
  ·unfold X2
   show if r.data_.live=true then _ else _
   simp only[hf.data,hf.conf,hf.holder]
   rw[if_pos hd]
   have e:=hsm _ (Yk h hd)
   rw[e.2.1,e.2.2.1,e.2.2.2.1]
   exact⟨hdat.1,hdat.2.1,hdat.2.2.1,fun _=>⟨hl,hr,trivial⟩⟩
  ·refine Z9c (b:=b) h.held hf.conf hf.holder hf.held (fun i hi=>⟨Znc (hsm i hi).1 (hsm i hi).2.2.2.2,fun hx=>?_⟩) (fun _ hx=>by show atI r.splits b.holder=0;rw[hf.splits];exact hx)
   show (atI b.m i).beat > 0
   have hx':(atI r.m i).beat > 0:=hx
   rw[hat i hi] at hx'
   split at hx'
   ·rename_i e;subst e;rw[hbt] at hx';omega
   ·exact hx'
  ·show (∀d∈r.log,Zyr r.conf n d)∧r.log.Pairwise _
   rw[hf.log,hf.conf];exact h.log
 ·rw[if_neg ha]
  refine⟨h.conf,h.ml,h.bl,h.sl,fun i hi=>?_,h.arb,h.last,h.model,h.alive,fun _=>h.dlive hd,fun i hi=>?_,h.addr,?_,h.held,h.log⟩
  ·have hm:=h.mst i hi;exact⟨hm.right,hm.tries,hm.bucket,hm.split⟩
  ·have:=h.fly i hi
   unfold flyG at this ⊢
   exact this
  ·unfold X2
   simp only
   rw[if_pos hd]
   exact⟨hdat.1,hdat.2.1,hdat.2.2.1,fun _=>⟨hl,hr,by simpa using ha⟩⟩
theorem Z6c {n:Int} {b:GBus} (h:BusI n b) (hd:b.data_.live=true) (ha:b.addr.live=false) (x:GMst) (sp:List Int) (hq:x.queue=(atI b.m b.data_.who).queue) (hbe:x.beat=(atI b.m b.data_.who).beat) (hdo:x.done=(atI b.m b.data_.who).done) (hbr:x.broken=(atI b.m b.data_.who).broken)
  (ht:0≤x.tries∧x.tries≤b.conf.maxRetry) (hsl:sp.length=b.splits.length) (hsp:∀i,Za b.conf i=true→0≤atI sp i∧atI sp i≤b.conf.maxSplit) (hsh:b.holder≠-1→atI b.splits b.holder=0→atI sp b.holder=0):
  BusI n (Zt {b with data_:=GBeat.z0,m:=b.m.set b.data_.who.toNat x,splits:=sp} b.data_):=by
 have hw:=Yk h hd
 have hb:=Ye hw
 have hf:=Z08 (b:={b with data_:=GBeat.z0,m:=b.m.set b.data_.who.toNat x,splits:=sp}) (x:=b.data_) h.conf hw h.bl (fun i hi=>(h.mst i hi).bucket) h.arb
 generalize Zt {b with data_:=GBeat.z0,m:=b.m.set b.data_.who.toNat x,splits:=sp} b.data_=r at hf
 have hmw:=(h.mst _ hw).right
 have hp:=Zl0 h hd
 have hne:(atI b.m b.data_.who).queue≠[]:=Zd2 hmw (by omega)
 have hxr:RightP x:=by
  have h2:=hmw.some hne
  refine⟨by rw[hq];exact hmw.len,ht.1,by rw[hq];exact hmw.reqs,fun hx=>absurd (by rw[←hq];exact hx) hne,fun _=>?_⟩
  have:Zf x=Zf (atI b.m b.data_.who):=by unfold Zf;rw[hq]
  rw[this,hbe,hdo];exact h2
 have hxx:atI (b.m.set b.data_.who.toNat x) b.data_.who=x:=Zg1 x hb.1 (by have:=h.ml;omega)
 have hat:∀i,Za b.conf i=true→atI r.m i=if i=b.data_.who then Qo x else atI b.m i:=fun i hi=>by
  have hi':=Ye hi
  rw[hf.m]
  show atI ((b.m.set b.data_.who.toNat x).set b.data_.who.toNat (Qo (atI (b.m.set b.data_.who.toNat x) b.data_.who))) i=_
  rw[hxx,List.set_set]
  exact h.at_m hw _ hi
 have hs:=Ziq x
 have hbt:(Qo x).beat=(atI b.m b.data_.who).beat - 1:=by
  unfold Qo;rw[if_neg (by rw[hbe,hdo];omega)];simp only[hbe]
 have hbz:GBeat.z0.live=false:=rfl
 refine⟨by rw[hf.conf];exact h.conf,?_,?_,?_,fun i hi=>?_,?_,?_,?_,fun hx=>?_,fun hx=>?_,fun i hi=>?_,?_,?_,?_,?_⟩
 ·rw[hf.m,hf.conf];simp[h.ml]
 ·rw[hf.bl,hf.conf]
 ·rw[hf.splits,hf.conf];show sp.length=_;rw[hsl];exact h.sl
 ·have hi':Za b.conf i=true:=by rw[←show r.conf=b.conf from hf.conf];exact hi
  have hm:=h.mst i hi'
  refine⟨?_,?_,?_,?_⟩
  ·rw[hat i hi']
   split
   ·exact Z6h hxr
   ·exact hm.right
  ·rw[hat i hi',hf.conf]
   split
   ·rw[hs.2.2.1];exact ht.2
   ·exact hm.tries
  ·rw[hf.conf];exact hf.bk i hi'
  ·rw[hf.splits,hf.conf];exact hsp i hi'
 ·rw[hf.conf];exact hf.arb
 ·rw[hf.last,hf.conf];exact h.last
 ·rw[hf.model];exact h.model
 ·rw[hf.addr] at hx;rw[show ({b with data_:=GBeat.z0,m:=b.m.set b.data_.who.toNat x,splits:=sp}:GBus).addr=b.addr from rfl,ha] at hx;cases hx
 ·rw[hf.data] at hx;cases hx
 ·have hi':Za b.conf i=true:=by rw[←show r.conf=b.conf from hf.conf];exact hi
  have hfl:=h.fly i hi'
  unfold flyG at hfl ⊢
  rw[hf.data,hf.addr,hat i hi']
  show _=(if b.addr.live=true∧b.addr.who=i then (1:Int) else 0)+(if GBeat.z0.live=true∧GBeat.z0.who=i then 1 else 0)
  rw[ha] at hfl ⊢
  simp only[Bool.false_eq_true,false_and,if_false] at hfl ⊢
  by_cases e:i=b.data_.who
  ·subst e
   rw[if_pos rfl,hbt,hs.2.1,hdo]
   rw[if_pos (⟨hd,rfl⟩:b.data_.live=true∧b.data_.who=b.data_.who)] at hfl
   omega
  ·rw[if_neg e]
   rw[if_neg (fun hx=>e hx.2.symm)] at hfl
   exact hfl
 ·have:=h.addr
  unfold Wc at this ⊢
  rw[hf.addr]
  show if b.addr.live=true then _ else _
  rw[ha] at this ⊢
  exact this
 ·unfold X2
  rw[hf.data]
  show if GBeat.z0.live=true then _ else _
  rw[if_neg (by simp)]
 ·refine Z9c (b:=b) h.held hf.conf hf.holder hf.held (fun i hi=>?_) (fun h1 h2=>by rw[hf.splits];exact hsh h1 h2)
  rw[hat i hi]
  split
  ·rename_i e;subst e
   refine⟨Znc (by rw[hs.1,hq]) (by rw[hs.2.2.2.2,hbr]),fun hx=>?_⟩
   rw[hbt] at hx;omega
  ·exact⟨rfl,id⟩
 ·rw[hf.log,hf.conf];exact h.log
theorem Z04 {m:GMst} (h:RightP m) (hp:m.beat - m.done≥1):(m.done+1=Zf m→m.beat - m.done=1∧(endG m).queue=m.queue.tail∧(endG m).beat=0∧(endG m).done=0∧(endG m).tries=0)∧
  (m.done+1≠Zf m→(endG m).queue=m.queue∧(endG m).beat=m.beat∧(endG m).done=m.done+1∧(endG m).tries=0∧(endG m).broken=m.broken∧(endG m).parted=false):=by
 have h1:=h.some (Zd2 h (by omega))
 unfold endG
 constructor
 ·intro e
  rw[if_neg (by omega),if_pos e]
  exact⟨by omega,rfl,rfl,rfl,rfl⟩
 ·intro e
  rw[if_neg (by omega),if_neg e]
  exact⟨rfl,rfl,rfl,rfl,rfl,rfl⟩
theorem Z8y {m:GMst} {k:Int} (h:RightP m) (h0:0≤k) (h1:k < Zf m) (hw:(atI m.queue 0).write=true):0≤k∧k < ((atI m.queue 0).data_.length:Int):=by
 have hq:m.queue≠[]:=by
  intro hq
  unfold Zf at h1
  rw[if_pos hq] at h1
  omega
 obtain⟨h2,h3,h4⟩:=Zg0 h hq
 have h5:=(Zc2 h2).2.1
 rw[if_pos hw] at h5
 omega
theorem Z06 {n:Int} {b:GBus} (h:BusI n b) (hd:b.data_.live=true):0≤b.data_.beat∧b.data_.beat < Zf (atI b.m b.data_.who):=by
 have hw:=Yk h hd
 have hp:=Zl0 h hd
 have hr:=(h.mst _ hw).right
 have h1:=hr.some (Zd2 hr (by omega))
 have h2:=h.data
 unfold X2 at h2
 rw[if_pos hd] at h2
 rw[h2.1.1]
 omega
theorem Zp2 {n:Int} {b:GBus} (h:BusI n b) (hl:b.addr.live=true):0≤b.addr.beat∧b.addr.beat < Zf (atI b.m b.addr.who):=by
 have hw:=X6 h hl
 have hp:=Yf9 h hl
 have hr:=(h.mst _ hw).right
 have h1:=hr.some (Zd2 hr (by omega))
 have h2:=h.addr
 unfold Wc at h2
 rw[if_pos hl] at h2
 rw[h2.1]
 omega
theorem Yeg {b:GBus} (hn:0≤b.now) (h:BusI b.now b) (hd:b.data_.live=true) (hr:b.data_.resp=0∨b.data_.resp=1) (hsec:b.data_.resp≠0→b.addr.live=false):BusI (b.now+1) (Zdq {b with data_:=GBeat.z0} b.data_):=by
 have hw:=Yk h hd
 have hb:=Ye hw
 have hmw:=(h.mst _ hw).right
 have hp:=Zl0 h hd
 have hne:(atI b.m b.data_.who).queue≠[]:=Zd2 hmw (by omega)
 have hbt:=Z06 h hd
 have had:=Z3u hmw hbt.1 hbt.2
 have hdat:=h.data
 unfold X2 at hdat
 rw[if_pos hd] at hdat
 have hmdl:=Z4n (w:=(atI (atI b.m b.data_.who).queue 0).write) (v:=Zbf (atI b.m b.data_.who) b.data_.beat) h.model had.2.1
 have hef:=Z04 hmw hp
 have hat:∀i,Za b.conf i=true→atI (b.m.set b.data_.who.toNat (endG (atI b.m b.data_.who))) i=if i=b.data_.who then endG (atI b.m b.data_.who) else atI b.m i:=fun i hi=>h.at_m hw _ hi
 have hlast:(atI b.m b.data_.who).done+1=Zf (atI b.m b.data_.who)→b.addr.live=true→b.addr.who≠b.data_.who:=by
  intro e hl e2
  have h1:=(hef.1 e).1
  have h2:=h.fly _ hw
  unfold flyG at h2
  rw[if_pos (⟨hl,e2⟩:b.addr.live=true∧b.addr.who=b.data_.who),if_pos (⟨hd,rfl⟩:b.data_.live=true∧b.data_.who=b.data_.who)] at h2
  omega
 have hz:numG 0 (atI (atI b.m b.data_.who).queue 0).size=true:=by
  have h1:=(Zin _).1 (Jb had.2.1).1
  generalize (atI (atI b.m b.data_.who).queue 0).size=s at h1
  have:s=0∨s=1∨s=2:=by omega
  rcases this with rfl|rfl|rfl<;>decide
 refine⟨h.conf,?_,h.bl,h.sl,fun i hi=>?_,h.arb,h.last,?_,h.alive,(fun hx=>by cases hx),fun i hi=>?_,?_,?_,?_,?_⟩
 ·show (b.m.set b.data_.who.toNat (endG (atI b.m b.data_.who))).length=_
  rw[List.length_set];exact h.ml
 ·have hi':Za b.conf i=true:=hi
  have hm:=h.mst i hi'
  refine⟨?_,?_,hm.bucket,hm.split⟩
  ·show RightP (atI (b.m.set b.data_.who.toNat (endG (atI b.m b.data_.who))) i)
   rw[hat i hi']
   split
   ·exact Yko hmw
   ·exact hm.right
  ·show (atI (b.m.set b.data_.who.toNat (endG (atI b.m b.data_.who))) i).tries≤b.conf.maxRetry
   rw[hat i hi']
   split
   ·have hl:=(Ym h.conf).1
    by_cases e:(atI b.m b.data_.who).done+1=Zf (atI b.m b.data_.who)
    ·rw[(hef.1 e).2.2.2.2];omega
    ·rw[(hef.2 e).2.2.2.1];omega
   ·exact hm.tries
 ·show ModelP (if b.data_.resp=0 then (doG {b with data_:=GBeat.z0} b.data_).1 else b.model)
  split
  ·exact hmdl.1
  ·exact h.model
 ·have hi':Za b.conf i=true:=hi
  have hfl:=h.fly i hi'
  show (atI (b.m.set b.data_.who.toNat (endG (atI b.m b.data_.who))) i).beat - (atI (b.m.set b.data_.who.toNat (endG (atI b.m b.data_.who))) i).done=flyG (Zdq {b with data_:=GBeat.z0} b.data_) i
  unfold flyG at hfl ⊢
  show _=(if b.addr.live=true∧b.addr.who=i then (1:Int) else 0)+(if GBeat.z0.live=true∧GBeat.z0.who=i then 1 else 0)
  rw[hat i hi']
  simp only[Bool.false_eq_true,false_and,if_false]
  by_cases e:i=b.data_.who
  ·subst e
   rw[if_pos rfl]
   rw[if_pos (⟨hd,rfl⟩:b.data_.live=true∧b.data_.who=b.data_.who)] at hfl
   by_cases e2:(atI b.m b.data_.who).done+1=Zf (atI b.m b.data_.who)
   ·rw[(hef.1 e2).2.2.1,(hef.1 e2).2.2.2.1,if_neg (fun hx=>hlast e2 hx.1 hx.2)]
    rfl
   ·rw[(hef.2 e2).2.1,(hef.2 e2).2.2.1]
    omega
  ·rw[if_neg e]
   rw[if_neg (fun hx:b.data_.live=true∧b.data_.who=i=>e hx.2.symm)] at hfl
   omega
 ·have hA:=h.addr
  unfold Wc at hA ⊢
  show if b.addr.live=true then _ else _
  by_cases hl:b.addr.live=true
  ·rw[if_pos hl] at hA ⊢
   show b.addr.beat=(atI (b.m.set b.data_.who.toNat (endG (atI b.m b.data_.who))) b.addr.who).beat - 1∧_
   rw[hat _ (X6 h hl)]
   split
   ·rename_i e
    have e2:¬(atI b.m b.data_.who).done+1=Zf (atI b.m b.data_.who):=fun e2=>hlast e2 hl e
    rw[(hef.2 e2).2.1,←e];exact hA
   ·exact hA
  ·rw[if_neg hl] at hA ⊢;exact hA
 ·unfold X2
  show if GBeat.z0.live=true then _ else _
  rw[if_neg (by simp)]
  rfl
 ·obtain⟨h1,h2⟩:=h.held
  show Zfm (Zdq {b with data_:=GBeat.z0} b.data_)
  unfold Zfm
  show (∀i,Za b.conf i=true→(atI (b.m.set b.data_.who.toNat (endG (atI b.m b.data_.who))) i).beat > 0→Zx (atI (b.m.set b.data_.who.toNat (endG (atI b.m b.data_.who))) i)=true→(if b.holder=b.data_.who∧(atI b.m b.data_.who).done+1=Zf (atI b.m b.data_.who) then -1 else b.holder)=i)∧
   (if (if b.holder=b.data_.who∧(atI b.m b.data_.who).done+1=Zf (atI b.m b.data_.who) then -1 else b.holder)=-1 then (if b.holder=b.data_.who∧(atI b.m b.data_.who).done+1=Zf (atI b.m b.data_.who) then 0 else b.held)=0 else Za b.conf (if b.holder=b.data_.who∧(atI b.m b.data_.who).done+1=Zf (atI b.m b.data_.who) then -1 else b.holder)=true∧Zx (atI (b.m.set b.data_.who.toNat (endG (atI b.m b.data_.who))) (if b.holder=b.data_.who∧(atI b.m b.data_.who).done+1=Zf (atI b.m b.data_.who) then -1 else b.holder))=true∧atI b.splits (if b.holder=b.data_.who∧(atI b.m b.data_.who).done+1=Zf (atI b.m b.data_.who) then -1 else b.holder)=0∧(0≤(if b.holder=b.data_.who∧(atI b.m b.data_.who).done+1=Zf (atI b.m b.data_.who) then 0 else b.held)∧(if b.holder=b.data_.who∧(atI b.m b.data_.who).done+1=Zf (atI b.m b.data_.who) then 0 else b.held)≤b.conf.lockMost))
  have hold:∀i,Za b.conf i=true→(atI (b.m.set b.data_.who.toNat (endG (atI b.m b.data_.who))) i).beat > 0→Zx (atI (b.m.set b.data_.who.toNat (endG (atI b.m b.data_.who))) i)=true→b.holder=i∧¬(i=b.data_.who∧(atI b.m b.data_.who).done+1=Zf (atI b.m b.data_.who)):=by
   intro i hi hx hk
   rw[hat i hi] at hx hk
   by_cases e:i=b.data_.who
   ·rw[if_pos e] at hx hk
    by_cases e2:(atI b.m b.data_.who).done+1=Zf (atI b.m b.data_.who)
    ·rw[(hef.1 e2).2.2.1] at hx;omega
    ·have e3:=hef.2 e2
     rw[e3.2.1] at hx
     rw[Znc e3.1 e3.2.2.2.2.1] at hk
     subst e
     exact⟨h1 _ hi hx hk,fun hy=>e2 hy.2⟩
   ·rw[if_neg e] at hx hk
    exact⟨h1 i hi hx hk,fun hy=>e hy.1⟩
  by_cases e:b.holder=b.data_.who∧(atI b.m b.data_.who).done+1=Zf (atI b.m b.data_.who)
  ·simp only[if_pos e,if_true]
   refine⟨fun i hi hx hk=>?_,trivial⟩
   have:=hold i hi hx hk
   exact absurd ⟨by rw[←this.1];exact e.1,e.2⟩ this.2
  ·simp only[if_neg e]
   refine⟨fun i hi hx hk=>(hold i hi hx hk).1,?_⟩
   split
   ·rename_i e2;rw[if_pos e2] at h2;exact h2
   ·rename_i e2
    rw[if_neg e2] at h2
    refine⟨h2.1,?_,h2.2.2.1,h2.2.2.2⟩
    rw[hat _ h2.1]
    split
    ·rename_i e3
     have e4:¬(atI b.m b.data_.who).done+1=Zf (atI b.m b.data_.who):=fun e4=>e ⟨e3,e4⟩
     rw[Znc (hef.2 e4).1 (hef.2 e4).2.2.2.2.1,←e3];exact h2.2.1
    ·exact h2.2.1
 ·show (∀d∈b.log++[Zhe {b with data_:=GBeat.z0} b.data_],Zyr b.conf (b.now+1) d)∧(b.log++[Zhe {b with data_:=GBeat.z0} b.data_]).Pairwise _
  refine⟨fun d hx=>?_,?_⟩
  ·rcases List.mem_append.1 hx with hx|hx
   ·have:=h.log.1 d hx
    exact⟨⟨this.1.1,by have:=this.1.2;omega⟩,this.2⟩
   ·rw[List.mem_singleton.1 hx]
    refine⟨⟨hn,by show b.now < b.now+1;omega⟩,hw,had.2.1,had.2.2.2,?_,hr⟩
    show numG (if b.data_.resp=0 then (doG {b with data_:=GBeat.z0} b.data_).2.1 else 0) (atI (atI b.m b.data_.who).queue 0).size=true
    split
    ·exact hmdl.2.1
    ·exact hz
  ·rw[List.pairwise_append]
   refine⟨h.log.2,List.pairwise_singleton _ _,fun x hx y hy=>?_⟩
   rw[List.mem_singleton.1 hy]
   exact (h.log.1 x hx).1.2
theorem Ynm {c:GConf} (h:Zz c=true) (s:GScript) (k:Int):1≤K4 c s k∧K4 c s k≤c.maxSplit:=by
 have:=(Ym h).2.2.2
 unfold K4
 omega
theorem Zuz {b:GBus} (s:GScript) (hn:0≤b.now) (h:BusI b.now b):BusI (b.now+1) (Zc b s).1∧((Zc b s).2.1=true→(Zc b s).1.data_=GBeat.z0):=by
 unfold Zc
 by_cases hd:b.data_.live=false
 ·rw[if_pos hd]
  refine⟨h.mono,fun _=>?_⟩
  have:=h.data
  unfold X2 at this
  rw[if_neg (by simp[hd])] at this
  exact this
 ·have hd':b.data_.live=true:=by simpa using hd
  have hdat:=h.data
  unfold X2 at hdat
  rw[if_pos hd'] at hdat
  rw[if_neg hd]
  by_cases hl:b.data_.left > 0
  ·rw[if_pos hl]
   exact⟨(Yg5 h hd' hl).mono,fun hx=>by cases hx⟩
  ·have hl0:b.data_.left=0:=by have:=hdat.1.2.1;omega
   rw[if_neg hl]
   by_cases h2:b.data_.resp≠0∧b.data_.second=false
   ·rw[if_pos h2]
    exact⟨(Yi0 h hd' hl0 h2.1).mono,fun hx=>by cases hx⟩
   ·rw[if_neg h2]
    have hsec:b.data_.resp≠0→b.addr.live=false:=fun hr=>by
     have:b.data_.second=true:=by
      cases hs:b.data_.second with
      | true=>rfl
      | false=>exact absurd ⟨hr,hs⟩ h2
     exact (hdat.2.2.2 this).2.2
    have hw:=Yk h hd'
    have hm:=h.mst _ hw
    by_cases h3:b.data_.resp=2
    ·rw[if_pos h3]
     refine⟨?_,fun _=>?_⟩
     ·refine (Z6c h hd' (hsec (by omega)) {atI b.m b.data_.who with tries:=(atI b.m b.data_.who).tries+1} b.splits rfl rfl rfl rfl ⟨?_,?_⟩ rfl (fun i hi=>(h.mst i hi).split) fun _ h=>h).mono
      ·have:=hm.right.tries;show 0≤(atI b.m b.data_.who).tries+1;omega
      ·have:=hdat.2.1 h3;show (atI b.m b.data_.who).tries+1≤_;omega
     ·unfold Zt;split
      ·rfl
      ·split<;>rfl
    ·rw[if_neg h3]
     by_cases h4:b.data_.resp=3
     ·rw[if_pos h4]
      have hsp:=Ynm h.conf s b.picks
      refine⟨?_,fun _=>?_⟩
      ·refine (Z6c h hd' (hsec (by omega)) {atI b.m b.data_.who with parted:=true} (b.splits.set b.data_.who.toNat (K4 b.conf s b.picks)) rfl rfl rfl rfl ⟨hm.right.tries,hm.tries⟩ (by simp) (fun i hi=>?_) fun h5 h6=>?_).mono
       ·have hb:=Ye hw
        rw[Zsq _ hb.1 (by have:=h.sl;omega) (Ye hi).1]
        split
        ·omega
        ·exact (h.mst i hi).split
       ·have hb:=Ye hw
        have hh:Za b.conf b.holder=true:=by
         have:=h.held.2
         rw[if_neg h5] at this
         exact this.1
        rw[Zsq _ hb.1 (by have:=h.sl;omega) (Ye hh).1,if_neg (fun e=>(hdat.2.2.1 h4).2 e.symm)]
        exact h6
      ·unfold Zt;split
       ·rfl
       ·split<;>rfl
     ·rw[if_neg h4]
      exact⟨Yeg hn h hd' (by have:=hdat.1.2.2;omega) hsec,fun _=>rfl⟩
theorem Kh {n:Int} {b:GBus} (h:BusI n b) (e:b.holder≠-1):Za b.conf b.holder=true∧Zx (atI b.m b.holder)=true∧atI b.splits b.holder=0∧(0≤b.held∧b.held≤b.conf.lockMost):=by
 have:=h.held.2
 rw[if_neg e] at this
 exact this
theorem Zxe {n:Int} {b:GBus} (h:BusI n b):BusI n (Zs b):=by
 unfold Zs
 split
 ·rename_i hx
  obtain⟨hw,hlk,_,_⟩:=Kh h hx.1
  have hb:=Ye hw
  have hat:∀i,Za b.conf i=true→atI (b.m.set b.holder.toNat {atI b.m b.holder with broken:=true}) i=if i=b.holder then {atI b.m b.holder with broken:=true} else atI b.m i:=fun i hi=>h.at_m hw _ hi
  have hsm:∀i,Za b.conf i=true→(atI (b.m.set b.holder.toNat {atI b.m b.holder with broken:=true}) i).beat=(atI b.m i).beat∧(atI (b.m.set b.holder.toNat {atI b.m b.holder with broken:=true}) i).done=(atI b.m i).done∧(atI (b.m.set b.holder.toNat {atI b.m b.holder with broken:=true}) i).tries=(atI b.m i).tries∧(atI (b.m.set b.holder.toNat {atI b.m b.holder with broken:=true}) i).parted=(atI b.m i).parted:=by
   intro i hi
   rw[hat i hi]
   split
   ·rename_i e;subst e;exact⟨rfl,rfl,rfl,rfl⟩
   ·exact⟨rfl,rfl,rfl,rfl⟩
  refine⟨h.conf,?_,h.bl,h.sl,fun i hi=>?_,h.arb,h.last,h.model,h.alive,h.dlive,fun i hi=>?_,?_,?_,?_,h.log⟩
  ·show (b.m.set b.holder.toNat _).length=_
   rw[List.length_set];exact h.ml
  ·have hi':Za b.conf i=true:=hi
   have hm:=h.mst i hi'
   refine⟨?_,?_,hm.bucket,hm.split⟩
   ·show RightP (atI (b.m.set b.holder.toNat {atI b.m b.holder with broken:=true}) i)
    rw[hat i hi']
    split
    ·have hr:=(h.mst _ hw).right
     exact⟨hr.len,hr.tries,hr.reqs,fun hq=>absurd (show (atI b.m b.holder).queue=[] from hq) (Yct hlk),hr.some⟩
    ·exact hm.right
   ·show (atI (b.m.set b.holder.toNat {atI b.m b.holder with broken:=true}) i).tries≤b.conf.maxRetry
    rw[(hsm i hi').2.2.1];exact hm.tries
  ·have hi':Za b.conf i=true:=hi
   show (atI (b.m.set b.holder.toNat {atI b.m b.holder with broken:=true}) i).beat - (atI (b.m.set b.holder.toNat {atI b.m b.holder with broken:=true}) i).done=flyG b i
   rw[(hsm i hi').1,(hsm i hi').2.1];exact h.fly i hi'
  ·have:=h.addr
   unfold Wc at this ⊢
   show if b.addr.live=true then b.addr.beat=(atI (b.m.set b.holder.toNat {atI b.m b.holder with broken:=true}) b.addr.who).beat - 1∧_ else _
   by_cases hl:b.addr.live=true
   ·rw[if_pos hl] at this ⊢
    rw[(hsm _ (X6 h hl)).1];exact this
   ·rw[if_neg hl] at this ⊢;exact this
  ·have:=h.data
   unfold X2 at this ⊢
   show if b.data_.live=true then _ else _
   by_cases hl:b.data_.live=true
   ·rw[if_pos hl] at this ⊢
    have e:=hsm _ (Yk h hl)
    show (b.data_.beat=(atI (b.m.set b.holder.toNat {atI b.m b.holder with broken:=true}) b.data_.who).done∧_)∧(_→(atI (b.m.set b.holder.toNat {atI b.m b.holder with broken:=true}) b.data_.who).tries < _)∧(_→(atI (b.m.set b.holder.toNat {atI b.m b.holder with broken:=true}) b.data_.who).parted=false∧b.data_.who≠-1)∧_
    rw[e.2.1,e.2.2.1,e.2.2.2]
    exact⟨this.1,this.2.1,fun h3=>⟨(this.2.2.1 h3).1,by have:=Ye (Yk h hl);omega⟩,this.2.2.2⟩
   ·rw[if_neg hl] at this ⊢;exact this
  ·refine⟨fun i hi hx2 hk=>?_,?_⟩
   ·have hi':Za b.conf i=true:=hi
    have hx3:(atI (b.m.set b.holder.toNat {atI b.m b.holder with broken:=true}) i).beat > 0:=hx2
    have hk3:Zx (atI (b.m.set b.holder.toNat {atI b.m b.holder with broken:=true}) i)=true:=hk
    rw[hat i hi'] at hx3 hk3
    split at hk3
    ·simp[Zx] at hk3
    ·rename_i e
     rw[if_neg e] at hx3
     exact absurd (h.held.1 i hi' hx3 hk3).symm e
   ·show if (-1:Int)=-1 then (0:Int)=0 else _
    rw[if_pos rfl]
 ·exact h
theorem Ze9 (b:GBus):(Zs b).data_=b.data_∧(Zs b).addr=b.addr∧(Zs b).picks=b.picks∧(Zs b).now=b.now∧(Zs b).conf=b.conf∧(Zs b).log=b.log∧(Zs b).model=b.model:=by
 unfold Zs;split<;>exact⟨rfl,rfl,rfl,rfl,rfl,rfl,rfl⟩
theorem Z1q {c:GConf} (h:Zz c=true) (s:GScript) (k:Int):0≤Zae c s k∧Zae c s k≤c.maxWait:=by
 have:=(Ym h).2.1
 unfold Zae
 omega
theorem Ylu {n:Int} {b:GBus} (h:BusI n b) (s:GScript) (hl:b.addr.live=true):(0≤(Xd b s b.addr).2∧(Xd b s b.addr).2≤b.conf.maxWait+2)∧(0≤(Xd b s b.addr).1∧(Xd b s b.addr).1≤3)∧
  ((Xd b s b.addr).1=2→(atI b.m b.addr.who).tries < b.conf.maxRetry)∧((Xd b s b.addr).1=3→(atI b.m b.addr.who).parted=false∧b.addr.who≠b.holder):=by
 have hw:=X6 h hl
 have hm:=(h.mst _ hw).right
 have hbt:=Zp2 h hl
 have had:=Z3u hm hbt.1 hbt.2
 have hmdl:=(Z4n (w:=(atI (atI b.m b.addr.who).queue 0).write) (v:=Zbf (atI b.m b.addr.who) b.addr.beat) h.model had.2.1).2.2
 have hwt:=Z1q h.conf s b.picks
 have hlm:=(Ym h.conf).2.1
 have hdo:(doG b b.addr).2.2=0∨(doG b b.addr).2.2=1:=hmdl
 unfold Xd
 split
 ·exact⟨by simp;omega,by simp,by simp,by simp⟩
 ·refine⟨?_,?_,?_,?_⟩
  ·simp only
   split<;>omega
  ·simp only
   repeat' split
   all_goals omega
  ·simp only
   split
   ·rename_i h1;exact fun _=>h1.2.2
   ·split
    ·intro h2;omega
    ·intro h2;omega
  ·simp only
   split
   ·intro h2;omega
   ·split
    ·rename_i h1;exact fun _=>h1.2.2
    ·intro h2;omega
theorem Zjd {n:Int} {b:GBus} (h:BusI n b) (s:GScript) (hd:b.data_=GBeat.z0):BusI n (Ya b s)∧(Ya b s).addr=GBeat.z0:=by
 unfold Ya
 by_cases hl:b.addr.live=true
 ·rw[if_pos hl]
  refine⟨?_,rfl⟩
  have hw:=X6 h hl
  have ha:=Ylu h s hl
  have hA:=h.addr
  unfold Wc at hA
  rw[if_pos hl] at hA
  have hdl:b.data_.live=false:=by rw[hd]
  have hdone:(atI b.m b.addr.who).beat - (atI b.m b.addr.who).done=1:=by
   rw[h.fly _ hw]
   unfold flyG
   rw[if_pos ⟨hl,rfl⟩,hdl]
   simp
  refine⟨h.conf,h.ml,h.bl,h.sl,fun i hi=>?_,h.arb,h.last,h.model,(fun hx=>by cases hx),fun _=>h.alive hl,fun i hi=>?_,?_,?_,h.held,h.log⟩
  ·have hm:=h.mst i hi;exact⟨hm.right,hm.tries,hm.bucket,hm.split⟩
  ·have hfl:=h.fly i hi
   rw[hfl]
   unfold flyG
   simp only[hdl,hl,Bool.false_eq_true,false_and,if_false,true_and]
   omega
  ·unfold Wc
   simp
  ·unfold X2
   show if b.addr.live=true then _ else _
   rw[if_pos hl]
   refine⟨⟨by show b.addr.beat=_;rw[hA.1];show (atI b.m b.addr.who).beat - 1=(atI b.m b.addr.who).done;omega,ha.1,ha.2.1⟩,ha.2.2.1,ha.2.2.2,fun hs=>?_⟩
   have:b.addr.second=true:=hs
   rw[hA.2.2.2] at this
   cases this
 ·rw[if_neg hl]
  refine⟨h,?_⟩
  have hA:=h.addr
  unfold Wc at hA
  rw[if_neg hl] at hA
  exact hA
theorem Zj5 (b:GBus) (s:GScript):(Ya b s).now=b.now∧(Ya b s).conf=b.conf∧(Ya b s).log=b.log∧(Ya b s).model=b.model∧(Ya b s).m=b.m∧(Ya b s).splits=b.splits∧(Ya b s).holder=b.holder∧b.picks≤(Ya b s).picks∧(Ya b s).picks≤b.picks+1:=by
 unfold Ya;split
 ·exact⟨rfl,rfl,rfl,rfl,rfl,rfl,rfl,by show b.picks≤b.picks+1;omega,Int.le_refl _⟩
 ·exact⟨rfl,rfl,rfl,rfl,rfl,rfl,rfl,Int.le_refl _,by omega⟩
theorem Ka (b:GBus):(Xu b).length=b.m.length:=by simp[Xu]
theorem Zme {n:Int} {b:GBus} (h:BusI n b) {i:Int} (hi:Za b.conf i=true):atI (Xu b) i=Xq b i:=by
 obtain⟨k,rfl,hk⟩:=Zwk hi
 have:=h.ml
 rw[Xb (by rw[Ka];omega)]
 simp[Xu]
structure Picked (n:Int) (b:GBus) (p:Int×Int×GBus):Prop where
 ok:BusI n p.2.2
 who:p.1=-1∨(Za b.conf p.1=true∧Xq b p.1=true∧(1≤p.2.1∧p.2.1≤3))
 conf:p.2.2.conf=b.conf
 m:p.2.2.m=b.m
 splits:p.2.2.splits=b.splits
 holder:p.2.2.holder=b.holder
 held:p.2.2.held=b.held
 addr:p.2.2.addr=b.addr
 data:p.2.2.data_=b.data_
 model:p.2.2.model=b.model
 log:p.2.2.log=b.log
 last:p.2.2.last=b.last
 now:p.2.2.now=b.now
 picks:p.2.2.picks=b.picks
theorem Za4 {n:Int} {b:GBus} (h:BusI n b):Picked n b (Z6 b):=by
 unfold Z6
 split
 ·rename_i hx
  exact⟨h,.inr ⟨(Kh h hx.1).1,hx.2,by simp⟩,rfl,rfl,rfl,rfl,rfl,rfl,rfl,rfl,rfl,rfl,rfl,rfl⟩
 ·split
  ·rename_i k hk
   have hk1:=List.find?_some hk
   have hk2:=List.mem_of_find?_eq_some hk
   rw[List.mem_range,h.ml] at hk2
   simp only[Kn,Bool.and_eq_true] at hk1
   have hm:=mas (c:=b.conf) hk2
   have hmb:=Ye hm
   refine⟨?_,.inr ⟨hm,hk1.1,by simp⟩,rfl,rfl,rfl,rfl,rfl,rfl,rfl,rfl,rfl,rfl,rfl,rfl⟩
   refine⟨h.conf,h.ml,by show (b.buckets.set k _).length=_;rw[List.length_set];exact h.bl,h.sl,fun i hi=>?_,h.arb,h.last,h.model,h.alive,h.dlive,h.fly,h.addr,h.data,h.held,h.log⟩
   have hmi:=h.mst i hi
   refine⟨hmi.right,hmi.tries,?_,hmi.split⟩
   show Z0 (atI (b.buckets.set k (Zc7 (atI b.buckets (k:Int)) (atI b.conf.masters (k:Int))).1) i) (atI b.conf.masters i)=true
   have e:=Zsq (xs:=b.buckets) (w:=(k:Int)) (Zc7 (atI b.buckets (k:Int)) (atI b.conf.masters (k:Int))).1 hmb.1 (by have:=h.bl;omega) (Ye hi).1
   rw[Int.toNat_natCast] at e
   rw[e]
   split
   ·rename_i e2;subst e2;exact Yps hmi.bucket (Zez h.conf hi)
   ·exact hmi.bucket
  ·split
   ·exact⟨h,.inl rfl,rfl,rfl,rfl,rfl,rfl,rfl,rfl,rfl,rfl,rfl,rfl,rfl⟩
   ·have hp:=Yc9 (wants:=Xu b) h.arb (by rw[Ka,h.ml])
    refine⟨⟨h.conf,h.ml,h.bl,h.sl,fun i hi=>?_,hp.1,h.last,h.model,h.alive,h.dlive,h.fly,h.addr,h.data,h.held,h.log⟩,?_,rfl,rfl,rfl,rfl,rfl,rfl,rfl,rfl,rfl,rfl,rfl,rfl⟩
    ·have hmi:=h.mst i hi;exact⟨hmi.right,hmi.tries,hmi.bucket,hmi.split⟩
    ·rcases hp.2 with hp2|hp2
     ·exact .inl hp2
     ·exact .inr ⟨hp2.1,by rw[←Zme h hp2.1];exact hp2.2,by simp⟩
theorem Zyn {b:GBus} {i:Int} (h:Xq b i=true):(atI b.m i).beat < Zf (atI b.m i)∧atI b.splits i=0∧(b.holder=-1∨b.holder=i):=by
 simp only[Xq,Zgt,Bool.and_eq_true,Bool.or_eq_true,decide_eq_true_eq] at h
 exact⟨h.1,h.2.1,h.2.2⟩
theorem Zyq (m:GMst):(Yq m).queue=m.queue∧(Yq m).done=m.done∧(Yq m).tries=m.tries∧(Yq m).parted=m.parted∧(Yq m).broken=m.broken:=by
 unfold Yq;split<;>exact⟨rfl,rfl,rfl,rfl,rfl⟩
theorem Yon {n:Int} {b:GBus} (h:BusI n b) (ha:b.addr=GBeat.z0) (hsec:b.data_.second=false) {who by_:Int} (hw:Za b.conf who=true) (hwant:Xq b who=true) (hby:1≤by_∧by_≤3):BusI n (Zu0 b who by_):=by
 obtain⟨w1,w2,w3⟩:=Zyn hwant
 have hmw:=(h.mst _ hw).right
 have hal:b.addr.live=false:=by rw[ha]
 have hfw:=h.fly _ hw
 have hle:(atI b.m who).beat - (atI b.m who).done≤1:=by
  rw[hfw];unfold flyG;rw[hal];simp only[Bool.false_eq_true,false_and,if_false];split<;>omega
 have hbt:(Yq (atI b.m who)).beat=(atI b.m who).beat+1:=by
  unfold Yq;rw[if_pos ⟨w1,by omega⟩]
 have hs:=Zyq (atI b.m who)
 have hat:∀i,Za b.conf i=true→atI (b.m.set who.toNat (Yq (atI b.m who))) i=if i=who then Yq (atI b.m who) else atI b.m i:=fun i hi=>h.at_m hw _ hi
 have hsm:∀i,Za b.conf i=true→(atI (b.m.set who.toNat (Yq (atI b.m who))) i).queue=(atI b.m i).queue∧(atI (b.m.set who.toNat (Yq (atI b.m who))) i).done=(atI b.m i).done∧(atI (b.m.set who.toNat (Yq (atI b.m who))) i).tries=(atI b.m i).tries∧(atI (b.m.set who.toNat (Yq (atI b.m who))) i).parted=(atI b.m i).parted∧(atI (b.m.set who.toNat (Yq (atI b.m who))) i).broken=(atI b.m i).broken:=fun i hi=>by
  rw[hat i hi]
  split
  ·rename_i e;subst e;exact hs
  ·exact⟨rfl,rfl,rfl,rfl,rfl⟩
 have hmb:=Ye hw
 refine⟨h.conf,?_,h.bl,h.sl,fun i hi=>?_,h.arb,.inr hw,h.model,fun _=>⟨hw,hby,w2⟩,h.dlive,fun i hi=>?_,?_,?_,?_,h.log⟩
 ·show (b.m.set who.toNat _).length=_
  rw[List.length_set];exact h.ml
 ·have hi':Za b.conf i=true:=hi
  have hm:=h.mst i hi'
  refine⟨?_,?_,hm.bucket,hm.split⟩
  ·show RightP (atI (b.m.set who.toNat (Yq (atI b.m who))) i)
   rw[hat i hi']
   split
   ·exact Yd7 hmw
   ·exact hm.right
  ·show (atI (b.m.set who.toNat (Yq (atI b.m who))) i).tries≤_
   rw[(hsm i hi').2.2.1];exact hm.tries
 ·have hi':Za b.conf i=true:=hi
  have hfl:=h.fly i hi'
  show (atI (b.m.set who.toNat (Yq (atI b.m who))) i).beat - (atI (b.m.set who.toNat (Yq (atI b.m who))) i).done=flyG (Zu0 b who by_) i
  rw[(hsm i hi').2.1,hat i hi']
  unfold flyG at hfl ⊢
  rw[hal] at hfl
  simp only[Bool.false_eq_true,false_and,if_false] at hfl
  show _=(if (true:Bool)=true∧who=i then (1:Int) else 0)+(if b.data_.live=true∧b.data_.who=i then 1 else 0)
  simp only[true_and]
  by_cases e:i=who
  ·subst e
   rw[if_pos rfl,if_pos rfl,hbt];omega
  ·rw[if_neg e,if_neg (fun e2=>e e2.symm)];omega
 ·unfold Wc
  show if (true:Bool)=true then (atI b.m who).beat=(atI (b.m.set who.toNat (Yq (atI b.m who))) who).beat - 1∧_ else _
  rw[if_pos rfl,hat _ hw,if_pos rfl,hbt]
  exact⟨by omega,rfl,rfl,rfl⟩
 ·have hD:=h.data
  unfold X2 at hD ⊢
  show if b.data_.live=true then _ else _
  by_cases hl:b.data_.live=true
  ·rw[if_pos hl] at hD ⊢
   have e:=hsm _ (Yk h hl)
   show (b.data_.beat=(atI (b.m.set who.toNat (Yq (atI b.m who))) b.data_.who).done∧_)∧(_→(atI (b.m.set who.toNat (Yq (atI b.m who))) b.data_.who).tries < _)∧(_→(atI (b.m.set who.toNat (Yq (atI b.m who))) b.data_.who).parted=false∧b.data_.who≠(if Zx (atI b.m who)=true∧b.holder=-1 then who else b.holder))∧_
   rw[e.2.1,e.2.2.1,e.2.2.2.1]
   refine⟨hD.1,hD.2.1,fun h3=>⟨(hD.2.2.1 h3).1,?_⟩,fun h4=>?_⟩
   ·split
    ·rename_i e2
     intro e3
     have hp:=Zl0 h hl
     have hr:=W9 (h.mst _ (Yk h hl)).right
     have:=h.held.1 _ (Yk h hl) (by omega) (by rw[e3];exact e2.1)
     omega
    ·exact (hD.2.2.1 h3).2
   ·have:b.data_.second=true:=h4
    rw[hsec] at this;cases this
  ·rw[if_neg hl] at hD ⊢;exact hD
 ·have hh:=h.held
  unfold Zfm at hh ⊢
  show (∀i,Za b.conf i=true→(atI (b.m.set who.toNat (Yq (atI b.m who))) i).beat > 0→Zx (atI (b.m.set who.toNat (Yq (atI b.m who))) i)=true→(if Zx (atI b.m who)=true∧b.holder=-1 then who else b.holder)=i)∧
   (if (if Zx (atI b.m who)=true∧b.holder=-1 then who else b.holder)=-1 then (if Zx (atI b.m who)=true∧b.holder=-1 then 0 else b.held)=0 else Za b.conf (if Zx (atI b.m who)=true∧b.holder=-1 then who else b.holder)=true∧Zx (atI (b.m.set who.toNat (Yq (atI b.m who))) (if Zx (atI b.m who)=true∧b.holder=-1 then who else b.holder))=true∧atI b.splits (if Zx (atI b.m who)=true∧b.holder=-1 then who else b.holder)=0∧(0≤(if Zx (atI b.m who)=true∧b.holder=-1 then 0 else b.held)∧(if Zx (atI b.m who)=true∧b.holder=-1 then 0 else b.held)≤b.conf.lockMost))
  have hlk:∀i,Za b.conf i=true→Zx (atI (b.m.set who.toNat (Yq (atI b.m who))) i)=Zx (atI b.m i):=fun i hi=>Znc (hsm i hi).1 (hsm i hi).2.2.2.2
  have hlm:=(Ym h.conf).2.2.1
  have hold:∀i,Za b.conf i=true→i≠who→(atI (b.m.set who.toNat (Yq (atI b.m who))) i).beat > 0→Zx (atI b.m i)=true→False:=by
   intro i hi e hx hk
   rw[hat i hi,if_neg e] at hx
   have:=hh.1 i hi hx hk
   have:=Ye hi
   omega
  by_cases e:Zx (atI b.m who)=true∧b.holder=-1
  ·simp only[if_pos e]
   refine⟨fun i hi hx hk=>?_,?_⟩
   ·by_cases e2:i=who
    ·exact e2.symm
    ·rw[hlk i hi] at hk
     exact (hold i hi e2 hx hk).elim
   ·rw[if_neg (by omega)]
    exact⟨hw,by rw[hlk _ hw];exact e.1,w2,by omega,by omega⟩
  ·simp only[if_neg e]
   refine⟨fun i hi hx hk=>?_,?_⟩
   ·rw[hlk i hi] at hk
    by_cases e2:i=who
    ·subst e2
     rcases w3 with w3|w3
     ·exact absurd ⟨hk,w3⟩ e
     ·exact w3
    ·exact (hold i hi e2 hx hk).elim
   ·have h2:=hh.2
    split
    ·rename_i e2;rw[if_pos e2] at h2;exact h2
    ·rename_i e2
     rw[if_neg e2] at h2
     exact⟨h2.1,by rw[hlk _ h2.1];exact h2.2.1,h2.2.2⟩
theorem Ynu {n:Int} {b:GBus} (h:BusI n b) (ha:b.addr=GBeat.z0) (hsec:b.data_.second=false):BusI n (Y3 b).2:=by
 have hp:=Za4 h
 unfold Y3
 split
 ·exact hp.ok
 ·rename_i hx
  rcases hp.who with h1|h1
  ·exact absurd (show (Z6 b).1 < 0 by rw[h1];decide) hx
  ·refine Yon hp.ok (by rw[hp.addr];exact ha) (by rw[hp.data];exact hsec) (by rw[hp.conf];exact h1.1) ?_ h1.2.2
   have:=h1.2.1
   unfold Xq at this ⊢
   rw[hp.m,hp.splits,hp.holder];exact this
theorem Zjo {n:Int} {b:GBus} (h:BusI n b):(Y3 b).2.now=b.now∧(Y3 b).2.conf=b.conf∧(Y3 b).2.log=b.log∧(Y3 b).2.model=b.model∧(Y3 b).2.picks=b.picks∧(Y3 b).2.data_=b.data_:=by
 have hp:=Za4 h
 unfold Y3
 split
 ·exact⟨hp.now,hp.conf,hp.log,hp.model,hp.picks,hp.data⟩
 ·exact⟨hp.now,hp.conf,hp.log,hp.model,hp.picks,hp.data⟩
theorem Zyg {n:Int} {b:GBus} (h:BusI n b) (s:GScript) (hd:b.data_=GBeat.z0):BusI n (Zm b s).2∧(Zm b s).2.now=b.now∧b.picks≤(Zm b s).2.picks∧(Zm b s).2.picks≤b.picks+1∧(Zm b s).2.conf=b.conf∧(Zm b s).2.log=b.log∧(Zm b s).2.model=b.model:=by
 have h1:=Zxe h
 have e1:=Ze9 b
 have h2:=Zjd h1 s (by rw[e1.1];exact hd)
 have e2:=Zj5 (Zs b) s
 have hsec:(Ya (Zs b) s).data_.second=false:=by
  unfold Ya
  split
  ·rename_i hl
   have hA:=h1.addr
   unfold Wc at hA
   rw[if_pos hl] at hA
   exact hA.2.2.2
  ·rw[e1.1,hd]
 have h3:=Ynu h2.1 h2.2 hsec
 have e3:=Zjo h2.1
 unfold Zm
 exact⟨h3,by rw[e3.1,e2.1,e1.2.2.2.1],by rw[e3.2.2.2.2.1,←e1.2.2.1];exact e2.2.2.2.2.2.2.2.1,by rw[e3.2.2.2.2.1,←e1.2.2.1];exact e2.2.2.2.2.2.2.2.2,by rw[e3.2.1,e2.2.1,e1.2.2.2.2.1],by rw[e3.2.2.1,e2.2.2.1,e1.2.2.2.2.2.1],by rw[e3.2.2.2.1,e2.2.2.2.1,e1.2.2.2.2.2.2]⟩
theorem Zvl (b:GBus):(Z4 b).now=b.now∧(Z4 b).conf=b.conf∧(Z4 b).picks=b.picks∧(Z4 b).log=b.log∧(Z4 b).model=b.model∧(Z4 b).m=b.m∧(Z4 b).addr=b.addr∧(Z4 b).data_=b.data_∧(Z4 b).holder=b.holder:=⟨rfl,rfl,rfl,rfl,rfl,rfl,rfl,rfl,rfl⟩
theorem Zun (b:GBus):(W7 b).now=b.now∧(W7 b).conf=b.conf∧(W7 b).picks=b.picks∧(W7 b).log=b.log∧(W7 b).model=b.model∧(W7 b).m=b.m∧(W7 b).addr=b.addr∧(W7 b).data_=b.data_∧(W7 b).holder=b.holder:=by
 unfold W7;split<;>exact⟨rfl,rfl,rfl,rfl,rfl,rfl,rfl,rfl,rfl⟩
theorem Wo (b:GBus) (s:GScript):(Zi b s).now=b.now∧(Zi b s).conf=b.conf∧(Zi b s).picks=b.picks∧(Zi b s).log=b.log∧(Zi b s).model=b.model∧(Zi b s).addr=b.addr∧(Zi b s).data_=b.data_∧(Zi b s).holder=b.holder:=by
 have h1:=Zun (Z4 (Z7 b (Z8 s b.now)))
 have h2:=Zvl (Z7 b (Z8 s b.now))
 have h3:=Zek b (Z8 s b.now)
 unfold Zi
 refine⟨?_,?_,?_,?_,?_,?_,?_,?_⟩
 ·rw[h1.1,h2.1,h3.2.1]
 ·rw[h1.2.1,h2.2.1,h3.1]
 ·rw[h1.2.2.1,h2.2.2.1,h3.2.2.1]
 ·rw[h1.2.2.2.1,h2.2.2.2.1,h3.2.2.2.1]
 ·rw[h1.2.2.2.2.1,h2.2.2.2.2.1,h3.2.2.2.2.1]
 ·rw[h1.2.2.2.2.2.2.1,h2.2.2.2.2.2.2.1,h3.2.2.2.2.2.2.2.1]
 ·rw[h1.2.2.2.2.2.2.2.1,h2.2.2.2.2.2.2.2.1,h3.2.2.2.2.2.2.2.2.1]
 ·rw[h1.2.2.2.2.2.2.2.2,h2.2.2.2.2.2.2.2.2,h3.2.2.2.2.2.1]
theorem Z1r {b:GBus} (h:BusP b) (s:GScript):BusI b.now (Zi b s):=Yhb (Zxo (Zkb h.i _))
theorem Za1 (b:GBus) (x:GBeat):(Zt b x).now=b.now∧(Zt b x).picks=b.picks∧(Zt b x).conf=b.conf∧(Zt b x).log=b.log∧(Zt b x).model=b.model:=by
 unfold Zt
 split
 ·exact⟨rfl,rfl,rfl,rfl,rfl⟩
 ·split<;>exact⟨rfl,rfl,rfl,rfl,rfl⟩
theorem Zjj (b:GBus) (s:GScript):(Zc b s).1.now=b.now∧(Zc b s).1.picks=b.picks∧(Zc b s).1.conf=b.conf:=by
 unfold Zc
 repeat' split
 all_goals first
  | exact⟨rfl,rfl,rfl⟩
  | exact⟨(Za1 _ _).1,(Za1 _ _).2.1,(Za1 _ _).2.2.1⟩
theorem Zg2 {b:GBus} (h:BusP b) (s:GScript) (hn:b.now < 4000):BusP (Ze b s).1∧(Ze b s).1.now=b.now+1∧(Ze b s).1.conf=b.conf:=by
 have h1:=Z1r h s
 have e1:=Wo b s
 have hI:BusI (Zi b s).now (Zi b s):=by rw[e1.1];exact h1
 have h2:=Zuz s (by rw[e1.1];exact h.now.1) hI
 have e2:=Zjj (Zi b s) s
 have hp:=h.picks
 have hnow:=h.now
 unfold Ze
 rw[e1.1] at h2
 by_cases hr:(Zc (Zi b s) s).2.1=true
 ·rw[if_pos hr]
  have h3:=Zyg h2.1 s (h2.2 hr)
  refine⟨?_,rfl,by show (Zm _ s).2.conf=_;rw[h3.2.2.2.2.1,e2.2.2,e1.2.1]⟩
  have h4:=h3.1
  have e3:(Zc (Zi b s) s).1.picks=b.picks:=by rw[e2.2.1,e1.2.2.1]
  have h5:=h3.2.2.1
  have h6:=h3.2.2.2.1
  generalize (Zm (Zc (Zi b s) s).1 s).2=r at h4 h5 h6 ⊢
  exact⟨h4.conf,⟨by show 0≤b.now+1;omega,by show b.now+1≤4000;omega⟩,h4.ml,h4.bl,h4.sl,fun i hi=>⟨(h4.mst i hi).right,(h4.mst i hi).tries,(h4.mst i hi).bucket,(h4.mst i hi).split⟩,h4.arb,h4.last,h4.model,⟨by show 0≤r.picks;omega,by show r.picks≤b.now+1;omega⟩,h4.alive,h4.dlive,h4.fly,h4.addr,h4.data,h4.held,h4.log⟩
 ·rw[if_neg hr]
  refine⟨?_,rfl,by show (Zc _ s).1.conf=_;rw[e2.2.2,e1.2.1]⟩
  have h4:=h2.1
  have e3:(Zc (Zi b s) s).1.picks=b.picks:=by rw[e2.2.1,e1.2.2.1]
  generalize (Zc (Zi b s) s).1=r at h4 e3 ⊢
  exact⟨h4.conf,⟨by show 0≤b.now+1;omega,by show b.now+1≤4000;omega⟩,h4.ml,h4.bl,h4.sl,fun i hi=>⟨(h4.mst i hi).right,(h4.mst i hi).tries,(h4.mst i hi).bucket,(h4.mst i hi).split⟩,h4.arb,h4.last,h4.model,⟨by show 0≤r.picks;omega,by show r.picks≤b.now+1;omega⟩,h4.alive,h4.dlive,h4.fly,h4.addr,h4.data,h4.held,h4.log⟩
structure GScript.sm (s:GScript):Prop where
 posts:s.posts.length < 1048577
 reqs:∀p∈s.posts,p.req.sm
 waits:s.waits.length < 1048577
 says:s.says.length < 1048577
 wmin:∀w∈s.waits,-9223372036854775808≤w∧w < 9223372036854775808
theorem K9 {σ ρ:Type} {n:Nat} (hn:n < 4611686018427387904) (st:Nat→σ) {B:(σ→Int→ρ)→σ→Int→ρ} {L:Nat→σ→Int→ρ} (hL:∀m s i,L (m+1) s i=B (L m) s i)
  (hs:∀k,k < n→∀κ,B κ (st k) (k:Int)=κ (st (k+1)) (addW (k:Int) 1)) {r:ρ} (hf:∀κ,B κ (st n) (n:Int)=r):L FU (st 0) 0=r:=by
 have key:∀(m k:Nat),k≤n→n - k < m→L m (st k) (k:Int)=r:=by
  intro m
  induction m with
  | zero=>intro k _ h;omega
  | succ m ih=>
   intro k hk hm
   rw[hL]
   by_cases hc:k < n
   ·rw[hs k hc,Yo (by omega)]
    exact ih (k+1) (by omega) (by omega)
   ·have:k=n:=by omega
    subst this
    exact hf _
 have:=key FU 0 (Nat.zero_le _) (by have:=Y5;omega)
 simpa using this
theorem Ybb {ρ:Type} {n:Nat} (hn:n < 4611686018427387904) {B:(Int→ρ)→Int→ρ} {L:Nat→Int→ρ} (hL:∀m i,L (m+1) i=B (L m) i)
  (hs:∀k,k < n→∀κ,B κ (k:Int)=κ (addW (k:Int) 1)) {r:ρ} (hf:∀κ,B κ (n:Int)=r):L FU 0=r:=
 K9 (σ:=Unit) hn (fun _=>()) (B:=fun κ _ i=>B (κ ()) i) (L:=fun m _ i=>L m i) (fun m _ i=>hL m i) (fun k hk κ=>hs k hk _) fun κ=>hf _
theorem Zm5 (l:List Int) (k:Int) (hl:l.length < 1048577):Zg4 l k=some (Zb9 l k):=by
 unfold Zg4 Zhh Zb9
 by_cases h:l=[]
 ·simp[h]
 ·have h1:0 < l.length:=List.length_pos_iff.2 h
  rw[if_neg (by simpa using h)]
  by_cases h2:k < 0
  ·simp[h2]
  ·have h3:0≤k % (l.length:Int):=Int.emod_nonneg _ (by omega)
   have h4:k % (l.length:Int) < (l.length:Int):=Int.emod_lt_of_pos _ (by omega)
   rw[Zis (by omega),Option.bind_some,Zbg (by omega),Yi h3 h4]
   simp[h,h2]
theorem Zzr (l:List Int) (k:Int) (hl:l.length < 1048577):Ztj l k=some (Zb9 l k):=by
 rw[←Zm5 l k hl];rfl
theorem Ybz {l:List Int} {k:Int} (h:∀w∈l,-9223372036854775808≤w∧w < 9223372036854775808):-9223372036854775808≤Zb9 l k∧Zb9 l k < 9223372036854775808:=by
 unfold Zb9
 split
 ·omega
 ·rename_i hx
  have h1:l≠[]:=fun e=>hx (.inl e)
  have h2:0 < l.length:=List.length_pos_iff.2 h1
  exact h _ (Zb3 (Int.emod_nonneg _ (by omega)) (Int.emod_lt_of_pos _ (by omega)))
theorem Ydm (c:GConf) {s:GScript} (k:Int) (hs:s.sm):Zrl c s k=some (Zae c s k):=by
 unfold Zrl Zae
 rw[Zm5 _ _ hs.waits,Option.bind_some,Zkl,Jq]
theorem Yfo (c:GConf) {s:GScript} (k:Int) (hs:s.sm):Zri c s k=some (Zae c s k):=by
 unfold Zri Zae
 rw[Zzr _ _ hs.waits,Option.bind_some,Zkl,Jq,Int.min_comm]
theorem Yfr {s:GScript} (k:Int) (hs:s.sm):Zrz s k=some (Kq s k):=by
 unfold Zrz Kq
 rw[Zm5 _ _ hs.says,Option.bind_some]
 by_cases h1:Zb9 s.says k=2
 ·simp[h1]
 ·by_cases h2:Zb9 s.says k=3<;>simp[h1,h2]
theorem Yei {s:GScript} (k:Int) (hs:s.sm):Zrh s k=some (Kq s k):=by
 unfold Zrh Kq
 rw[Zzr _ _ hs.says,Option.bind_some]
 by_cases h1:Zb9 s.says k=2
 ·simp[h1]
 ·by_cases h2:Zb9 s.says k=3<;>simp[h1,h2]
theorem Ybs (c:GConf) {s:GScript} (k:Int) (hs:s.sm):Zp1 c s k=some (K4 c s k):=by
 have h:=Ybz (k:=k) hs.wmin
 unfold Zp1 K4
 rw[Zm5 _ _ hs.waits,Option.bind_some,Zkl,Jq,Zkl,Jq,Zr (by omega) (by omega)]
theorem Yax (c:GConf) {s:GScript} (k:Int) (hs:s.sm):Zpk c s k=some (K4 c s k):=by
 have h:=Ybz (k:=k) hs.wmin
 unfold Zpk K4
 rw[Zzr _ _ hs.waits,Option.bind_some,Zkl,Jq,Jq,Zr (by omega) (by omega)]
 congr 1
 omega
theorem Z24 {α:Type} (p:α→Bool) (xs:List α) (k:Nat) (hk:k < xs.length):(xs.take (k+1)).filter p=(xs.take k).filter p++(if p xs[k] then [xs[k]] else []):=by
 rw[List.take_succ_eq_append_getElem hk,List.filter_append]
 cases hq:p xs[k]<;>simp[hq]
theorem Yap (s:GScript) (t:Int) (hs:s.sm):Zpw s t=some (Z8 s t):=by
 unfold Zpw Z8
 have hp:=hs.posts
 refine K9 (σ:=List GPost) (n:=s.posts.length) (by omega) (fun k=>(s.posts.take k).filter fun p=>decide (p.at_=t)) (B:=Zf0 s t) (L:=Zh2 s t) (fun m s i=>rfl) (fun k hk κ=>?_) fun κ=>?_
 ·unfold Zf0
  have hlen:((s.posts.take k).filter fun p=>decide (p.at_=t)).length≤k:=Nat.le_trans (List.length_filter_le ..) (by rw[List.length_take];omega)
  rw[if_pos (by simpa using hk),Yc hk,Option.bind_some,Z24 _ _ _ hk,Z0u _ (hs.reqs _ (List.getElem_mem hk)),Option.bind_some]
  by_cases e:s.posts[k].at_=t
  ·rw[if_pos (by simpa using e),Ys (by simp only[List.length_cons,List.length_nil];omega) (by simp only[List.length_cons,List.length_nil];omega),Option.bind_some,if_pos (decide_eq_true e)]
  ·rw[if_neg (by simpa using e),if_neg (by simpa using e),List.append_nil]
 ·unfold Zf0
  rw[if_neg (by simp),List.take_length]
theorem Yat (s:GScript) (t:Int) (hs:s.sm):Zpg s t=some (Z8 s t):=by
 unfold Zpg Z8
 have hp:=hs.posts
 refine K9 (σ:=List GPost) (n:=s.posts.length) (by omega) (fun k=>(s.posts.take k).filter fun p=>decide (p.at_=t)) (B:=Zfk s t) (L:=Zhi s t) (fun m s i=>rfl) (fun k hk κ=>?_) fun κ=>?_
 ·unfold Zfk
  have hlen:((s.posts.take k).filter fun p=>decide (p.at_=t)).length≤k:=Nat.le_trans (List.length_filter_le ..) (by rw[List.length_take];omega)
  rw[if_pos (by simpa using hk),Yc hk,Option.bind_some,Z24 _ _ _ hk,Z1b _ (hs.reqs _ (List.getElem_mem hk)),Option.bind_some]
  by_cases e:s.posts[k].at_=t
  ·rw[if_pos (by simpa using e),Ys (by simp only[List.length_cons,List.length_nil];omega) (by simp only[List.length_cons,List.length_nil];omega),Option.bind_some,if_pos (decide_eq_true e)]
  ·rw[if_neg (by simpa using e),if_neg (by simpa using e),List.append_nil]
 ·unfold Zfk
  rw[if_neg (by simp),List.take_length]
theorem Ycq {s:GScript} (hs:s.sm) (t:Int):(Z8 s t).length < 1048577∧∀p∈Z8 s t,p.req.sm:=by
 have hp:=hs.posts
 refine⟨Nat.lt_of_le_of_lt (List.length_filter_le ..) hp,fun p hx=>hs.reqs p ?_⟩
 unfold Z8 at hx
 exact (List.mem_filter.1 hx).1
theorem Zzi (b:GBus) (ps:List GPost) (k:Nat) (hk:k < ps.length):Z7 b (ps.take (k+1))=Xr (Z7 b (ps.take k)) ps[k]:=by
 unfold Z7
 rw[List.take_succ_eq_append_getElem hk,List.foldl_append]
 rfl
theorem Zuh (c:GConf) (h:c.masters.length < 1048577):Zk5 c=some c∧Zmk c=some c:=by
 unfold Zk5 Q8 Zmk
 rw[Ys (by simp;omega) (by simp;omega)]
 exact⟨rfl,rfl⟩
theorem Ya2 (xs:List GDone) (h:xs.length < 1048577):appI 56 [] xs=some xs:=by
 rw[Ys (by simp;omega) (by simp;omega)];rfl
theorem Yda (xs:List GBucket) (h:xs.length < 1048577):appI 16 [] xs=some xs:=by
 rw[Ys (by simp;omega) (by simp;omega)];rfl
theorem Z2g (b:GBus) (hs:b.sm):Zm1 b=some b:=by
 unfold Zm1
 rw[(Zuh b.conf hs.conf).1,Option.bind_some]
 have:=hs.ml
 refine (K9 (σ:=GBus×List GMst) (n:=b.m.length) (by omega) (fun k=>(b,b.m.take k)) (B:=fun κ s i=>Zhk b (fun x y i=>κ (x,y) i) s.1 s.2 i) (L:=fun m s i=>Zel b m s.1 s.2 i) (fun m s i=>rfl) (fun k hk κ=>?_) fun κ=>?_:Zel b FU b [] 0=some b)
 ·unfold Zhk
  have hlen:(b.m.take k).length=k:=by rw[List.length_take];omega
  simp only
  rw[if_pos (by simpa using hk),Yc hk,Option.bind_some,Zk7 _ (hs.mst _ (List.getElem_mem hk)),Option.bind_some,Ys (by simp only[List.length_cons,List.length_nil];omega) (by simp only[List.length_cons,List.length_nil];omega),Option.bind_some,←List.take_succ_eq_append_getElem hk]
 ·unfold Zhk Qn Kz
  simp only
  rw[if_neg (by simp),Yda _ hs.bl,Option.bind_some,Zos _ hs.sl,Option.bind_some,Zqw _ hs.model,Option.bind_some,Ya2 _ hs.log,Option.bind_some,List.take_length]
theorem Zzv (b:GBus) (hs:b.sm):Zkz b=some b:=by
 unfold Zkz
 rw[(Zuh b.conf hs.conf).2,Option.bind_some]
 have:=hs.ml
 refine (K9 (σ:=GBus) (n:=b.m.length) (by omega) (fun k=>{b with m:=b.m.take k}) (B:=Zf2 b) (L:=Zc5 b) (fun m s i=>rfl) (fun k hk κ=>?_) fun κ=>?_:Zc5 b FU {b with m:=[]} 0=some b)
 ·unfold Zf2
  have hlen:(b.m.take k).length=k:=by rw[List.length_take];omega
  simp only
  rw[if_pos (by simpa using hk),Yc hk,Option.bind_some,Zi6 _ (hs.mst _ (List.getElem_mem hk)),Option.bind_some,Ys (by simp only[List.length_cons,List.length_nil];omega) (by simp only[List.length_cons,List.length_nil];omega),Option.bind_some,←List.take_succ_eq_append_getElem hk]
 ·unfold Zf2
  simp only
  rw[if_neg (by simp),Yda _ hs.bl,Option.bind_some,Zwj _ hs.sl,Option.bind_some,Z3g _ hs.model,Option.bind_some,Ya2 _ hs.log,Option.bind_some,List.take_length]
theorem Z66 {c:GConf} {n:Int} (hn:n≤4001) {l:List GDone} (h:(∀d∈l,Zyr c n d)∧l.Pairwise fun x y=>x.cycle < y.cycle):l.length≤4001:=by
 have key:∀(l:List GDone) (a:Int),(∀d∈l,a≤d.cycle∧d.cycle < n)→(l.Pairwise fun x y=>x.cycle < y.cycle)→l≠[]→(l.length:Int)≤n - a:=by
  intro l
  induction l with
  | nil=>intro a _ _ h;exact absurd rfl h
  | cons x xs ih=>
   intro a h1 h2 _
   have h3:=h1 x (List.mem_cons_self ..)
   by_cases hx:xs=[]
   ·subst hx;simp;omega
   ·have h4:=List.pairwise_cons.1 h2
    have:=ih (x.cycle+1) (fun d hd=>⟨by have:=h4.1 d hd;omega,(h1 d (List.mem_cons_of_mem _ hd)).2⟩) h4.2 hx
    simp only[List.length_cons]
    omega
 by_cases hx:l=[]
 ·subst hx;simp
 ·have:=key l 0 (fun d hd=>(h.1 d hd).1) h.2 hx
  omega
theorem BusI.sm {n:Int} {b:GBus} (h:BusI n b) (hn:n≤4001):b.sm:=by
 have h1:=Jv h.conf
 have h2:=h.ml
 have h3:=h.bl
 have h4:=h.sl
 have h5:=Z66 hn h.log
 refine⟨h1,by omega,fun x hx=>?_,by omega,by omega,h.model.sm,by omega⟩
 obtain⟨k,hk,rfl⟩:=List.getElem_of_mem hx
 have:=(h.mst (k:Int) (mas (by omega))).right.sm
 rwa [Xb hk] at this
theorem BusP.sm {b:GBus} (h:BusP b):b.sm:=h.i.sm (by have:=h.now;omega)
section
variable {n:Int} {b:GBus} {s:GScript}
theorem Zvp (x:GBeat) (hc:Zz b.conf=true) (hw:Za b.conf x.who=true) (hml:b.m.length=b.conf.masters.length) (hbl:b.buckets.length=b.conf.masters.length) (hr:RightP (atI b.m x.who)) (har:wrrG b.arb b.conf=true):Zbe b x=some (Zt b x):=by
 obtain⟨ok,hbk⟩:=Yb5 hr
 unfold Zbe Zt
 rw[Y2 hml hw,Option.bind_some,hbk,Option.bind_some,Y1,Option.bind_some,Z1p hbl hw,Option.bind_some,Zub hw,Option.bind_some,Z57 _ (Zez hc hw),Option.bind_some,Y1,Option.bind_some,Ydj _ _ _ har,Option.bind_some]
 by_cases h1:x.by_=1
 ·simp[h1]
 ·by_cases h2:x.by_=2<;>simp[h1,h2]
theorem Zvw (x:GBeat) (hc:Zz b.conf=true) (hw:Za b.conf x.who=true) (hml:b.m.length=b.conf.masters.length) (hbl:b.buckets.length=b.conf.masters.length) (hr:RightP (atI b.m x.who)) (har:wrrG b.arb b.conf=true):Zg3 b x=some (Zt b x):=by
 obtain⟨ok,hbk⟩:=Ybf hr
 unfold Zg3 Zt
 rw[Y2 hml hw,Option.bind_some,hbk,Option.bind_some,Y1,Option.bind_some,Z1p hbl hw,Option.bind_some,Zub hw,Option.bind_some,Z4x _ (Zez hc hw),Option.bind_some,Y1,Option.bind_some,Ybv _ _ _ har,Option.bind_some]
 by_cases h1:x.by_=1
 ·simp[h1]
 ·by_cases h2:x.by_=2<;>simp[h1,h2]
theorem Yd4 {m:GMst} {k:Int} (h:RightP m) (hq:m.queue≠[]) (h0:0≤k) (h1:k < Zf m):Zjs m k=some (Zbf m k):=by
 have hl:0 < m.queue.length:=List.length_pos_iff.2 hq
 unfold Zjs Zbf
 rw[Yi (xs:=m.queue) (by omega) (by omega),Option.bind_some]
 by_cases hw:(atI m.queue 0).write=true
 ·have:=Z8y h h0 h1 hw
  rw[if_pos hw,if_pos hw,Yi this.1 this.2];rfl
 ·rw[if_neg hw,if_neg hw]
theorem Z51 {m:GMst} {k:Int} (h:RightP m) (hq:m.queue≠[]) (h0:0≤k) (h1:k < Zf m):Ziz (atI m.queue 0) k=some (Zbf m k):=by
 unfold Ziz Zbf
 by_cases hw:(atI m.queue 0).write=true
 ·have:=Z8y h h0 h1 hw
  rw[if_neg (by simp[hw]),if_pos hw,Yi this.1 this.2];rfl
 ·rw[if_pos (by simpa using hw),if_neg hw]
theorem Zj4 {m:GMst} {k:Int} (h0:0≤k) (h1:k < Zf m):m.queue≠[]:=by
 intro hq
 unfold Zf at h1
 rw[if_pos hq] at h1
 omega
theorem Zp4 {m:GMst} (hq:m.queue≠[]):idx m.queue 0=some (atI m.queue 0):=by
 have hl:0 < m.queue.length:=List.length_pos_iff.2 hq
 exact Yi (by omega) (by omega)
theorem Yf8 (x:GBeat) (hw:Za b.conf x.who=true) (hml:b.m.length=b.conf.masters.length) (hr:RightP (atI b.m x.who)) (hm:ModelP b.model) (h0:0≤x.beat) (h1:x.beat < Zf (atI b.m x.who)):Zni b x=some (doG b x):=by
 have hq:=Zj4 h0 h1
 unfold Zni doG
 rw[Y2 hml hw,Option.bind_some,Zp4 hq,Option.bind_some,Zbo _ hr,Option.bind_some,Yd4 hr hq h0 h1,Option.bind_some,Yb8 _ _ _ _ hm]
 rfl
theorem Z2k {m:GMst} (h:RightP m) (hp:m.beat - m.done≥1):((endG m).queue.length:Int) < (m.queue.length:Int)↔m.done+1=Zf m:=by
 have hq:=Zd2 h (by omega)
 have hl:0 < m.queue.length:=List.length_pos_iff.2 hq
 have hf:=Z04 h hp
 by_cases e:m.done+1=Zf m
 ·rw[(hf.1 e).2.1];simp[e];omega
 ·rw[(hf.2 e).1];simp[e]
theorem Ybj {m:GMst} (h:RightP m) (hp:m.beat - m.done≥1):(endG m).done=0↔m.done+1=Zf m:=by
 have hb:=W9 h
 have hf:=Z04 h hp
 by_cases e:m.done+1=Zf m
 ·rw[(hf.1 e).2.2.2.1];simp[e]
 ·rw[(hf.2 e).2.2.1];simp[e];omega
theorem Z9r (x:GBeat) (h1:Za b.conf x.who=true) (hml:b.m.length=b.conf.masters.length) (hr:RightP (atI b.m x.who)) (hm:ModelP b.model) (hp:(atI b.m x.who).beat - (atI b.m x.who).done≥1) (h2:0≤x.beat) (h3:x.beat < Zf (atI b.m x.who)) (hl:b.log.length < 1048577):Zff b x=some (Zdq b x):=by
 have hq:=Zj4 h2 h3
 obtain⟨ok,he⟩:=Yem hr
 unfold Zff
 rw[Y2 hml h1,Option.bind_some,Zp4 hq,Option.bind_some,Zbo _ hr,Option.bind_some,Yf8 x h1 hml hr hm h2 h3,Option.bind_some]
 have hJ:∀(mo:GModel) (d:GDone),Ku b x {b with model:=mo} (atI b.m x.who) d=some {b with model:=mo,log:=b.log++[d],m:=b.m.set x.who.toNat (endG (atI b.m x.who)),holder:=if b.holder=x.who∧(atI b.m x.who).done+1=Zf (atI b.m x.who) then -1 else b.holder,held:=if b.holder=x.who∧(atI b.m x.who).done+1=Zf (atI b.m x.who) then 0 else b.held}:=by
  intro mo d
  unfold Ku Zay Zau Zi9
  simp only
  rw[Ys (by simp only[List.length_cons,List.length_nil];omega) (by simp only[List.length_cons,List.length_nil];omega),Option.bind_some,he,Option.bind_some]
  simp only[Option.bind_some,Y2 hml h1,Y1]
  have hi:idx b.m x.who=some (atI b.m x.who):=Y2 hml h1
  by_cases e1:b.holder=x.who
  ·by_cases e2:(atI b.m x.who).done+1=Zf (atI b.m x.who)
   ·have e3:=(Z2k hr hp).2 e2
    simp only[decide_eq_true e1,decide_eq_true e3,if_true,if_pos (And.intro e1 e2)]
   ·have e3:=mt (Z2k hr hp).1 e2
    simp only[decide_eq_true e1,decide_eq_false e3,if_true,if_false,Bool.false_eq_true,if_neg (fun hx:b.holder=x.who∧_=>e2 hx.2)]
  ·simp only[decide_eq_false e1,if_false,Bool.false_eq_true,if_neg (fun hx:b.holder=x.who∧_=>e1 hx.1)]
 unfold Zdq Zhe
 by_cases e:x.resp=0
 ·rw[if_pos (decide_eq_true e),hJ]
  simp only[if_pos e]
 ·rw[if_neg (by simpa using e)]
  have:=hJ b.model (GDone.mk b.now x.who (atI (atI b.m x.who).queue 0).write (Zn (atI b.m x.who) x.beat) (atI (atI b.m x.who).queue 0).size 0 x.resp)
  refine Eq.trans (b:=_) ?_ (this.trans ?_)
  ·rfl
  ·simp only[if_neg e]
theorem Yer (w:GWave) (h:BusI b.now b) (hs:s.sm) (hn:b.now≤4000):Zkk b s w=some ((Zc b s).2.1,(Zc b s).1,if b.data_.live=true∧¬b.data_.left > 0 then {w with resp:=b.data_.resp} else w):=by
 unfold Zkk Zc
 by_cases hd:b.data_.live=true
 ·have hdf:¬b.data_.live=false:=by simp[hd]
  rw[if_neg (by simp[hd]),if_neg hdf]
  have hdat:=h.data
  unfold X2 at hdat
  rw[if_pos hd] at hdat
  have hw:=Yk h hd
  have hmw:=(h.mst _ hw).right
  have hp:=Zl0 h hd
  have hbt:=Z06 h hd
  have hlim:=(Ym h.conf).2.1
  by_cases hl:b.data_.left > 0
  ·rw[if_pos (decide_eq_true hl),if_pos hl,if_neg (fun hx:_∧¬b.data_.left > 0=>hx.2 hl),Z9 (by omega) (by omega)]
  ·rw[if_neg (by simpa using hl),if_neg hl,if_pos (And.intro hd hl)]
   have hJf:¬(b.data_.resp≠0∧b.data_.second=false)→Ki b s w false=some ((if b.data_.resp=2 then (Zt {b with data_:=GBeat.z0,m:=b.m.set b.data_.who.toNat {atI b.m b.data_.who with tries:=(atI b.m b.data_.who).tries+1}} b.data_,true,b.data_.resp)
 else if b.data_.resp=3 then (Zt {b with data_:=GBeat.z0,m:=b.m.set b.data_.who.toNat {atI b.m b.data_.who with parted:=true},splits:=b.splits.set b.data_.who.toNat (K4 b.conf s b.picks)} b.data_,true,b.data_.resp)
 else (Zdq {b with data_:=GBeat.z0} b.data_,true,b.data_.resp):GBus×Bool×Int).2.1,(if b.data_.resp=2 then (Zt {b with data_:=GBeat.z0,m:=b.m.set b.data_.who.toNat {atI b.m b.data_.who with tries:=(atI b.m b.data_.who).tries+1}} b.data_,true,b.data_.resp)
 else if b.data_.resp=3 then (Zt {b with data_:=GBeat.z0,m:=b.m.set b.data_.who.toNat {atI b.m b.data_.who with parted:=true},splits:=b.splits.set b.data_.who.toNat (K4 b.conf s b.picks)} b.data_,true,b.data_.resp)
 else (Zdq {b with data_:=GBeat.z0} b.data_,true,b.data_.resp):GBus×Bool×Int).1,{w with resp:=b.data_.resp}):=by
    intro hns
    have hmb:=Ye hw
    have hml:=h.ml
    have hrset:∀x:GMst,RightP x→RightP (atI (b.m.set b.data_.who.toNat x) b.data_.who):=fun x hx=>by rw[Zg1 x hmb.1 (by omega)];exact hx
    have hlen:∀x:GMst,(b.m.set b.data_.who.toNat x).length=b.conf.masters.length:=fun x=>by rw[List.length_set];exact hml
    unfold Ki
    rw[if_neg (by simp)]
    by_cases h2:b.data_.resp=2
    ·have ht:=hdat.2.1 h2
     have hmx:=(Ym h.conf).1
     have htr:=hmw.tries
     have hr2:RightP {atI b.m b.data_.who with tries:=(atI b.m b.data_.who).tries+1}:=⟨hmw.len,by show 0≤(atI b.m b.data_.who).tries+1;omega,hmw.reqs,fun hq=>absurd (show (atI b.m b.data_.who).queue=[] from hq) (Zj4 hbt.1 hbt.2),hmw.some⟩
     simp only[decide_eq_true h2,if_true,if_pos h2,Y2 hml hw,Option.bind_some,Y1,Zr (a:=(atI b.m b.data_.who).tries) (b:=1) (by omega) (by omega)]
     rw[Zvp (b:={b with data_:=GBeat.z0,m:=b.m.set b.data_.who.toNat {atI b.m b.data_.who with tries:=(atI b.m b.data_.who).tries+1}}) b.data_ h.conf hw (hlen _) h.bl (hrset _ hr2) h.arb]
     rfl
    ·by_cases h3:b.data_.resp=3
     ·have hr3:RightP {atI b.m b.data_.who with parted:=true}:=⟨hmw.len,hmw.tries,hmw.reqs,fun hq=>absurd (show (atI b.m b.data_.who).queue=[] from hq) (Zj4 hbt.1 hbt.2),hmw.some⟩
      simp only[decide_eq_false h2,decide_eq_true h3,if_true,if_false,Bool.false_eq_true,if_neg h2,if_pos h3,Y2 hml hw,Zlq h.sl hw,Option.bind_some,Y1,Ybs _ _ hs]
      rw[Zvp (b:={b with data_:=GBeat.z0,m:=b.m.set b.data_.who.toNat {atI b.m b.data_.who with parted:=true},splits:=b.splits.set b.data_.who.toNat (K4 b.conf s b.picks)}) b.data_ h.conf hw (hlen _) h.bl (hrset _ hr3) h.arb]
      rfl
     ·simp only[decide_eq_false h2,decide_eq_false h3,if_false,Bool.false_eq_true,if_neg h2,if_neg h3]
      have hlog:=Z66 (by omega) h.log
      rw[Z9r (b:={b with data_:=GBeat.z0}) b.data_ hw hml hmw h.model hp hbt.1 hbt.2 (by show b.log.length < _;omega)]
      rfl
   by_cases h2:b.data_.resp≠0
   ·rw[if_pos (decide_eq_true h2)]
    by_cases h3:b.data_.second=false
    ·rw[if_pos (And.intro h2 h3),h3]
     unfold Ki Zdk
     rw[if_pos (by rfl)]
     by_cases ha:b.addr.live=true
     ·rw[if_pos ha,if_pos ha]
      have hwa:=X6 h ha
      rw[Zvp (b:={b with data_:={b.data_ with second:=true}}) b.addr h.conf hwa h.ml h.bl (h.mst _ hwa).right h.arb]
      rfl
     ·rw[if_neg ha,if_neg ha]
    ·have h4:b.data_.second=true:=by simpa using h3
     rw[if_neg (fun hx:_∧b.data_.second=false=>h3 hx.2),h4,Bool.not_true,hJf (fun hx=>h3 hx.2)]
   ·rw[if_neg (by simpa using h2),if_neg (fun hx:b.data_.resp≠0∧_=>h2 hx.1),hJf (fun hx=>h2 hx.1)]
 ·rw[if_pos (by simpa using hd),if_pos (by simpa using hd),if_neg (fun hx:b.data_.live=true∧_=>hd hx.1)]
theorem Ydx (h:BusI b.now b) (hs:s.sm) (hn:b.now≤4000) (hd:b.data_.live=true) (hl:¬b.data_.left > 0) (hns:¬(b.data_.resp≠0∧b.data_.second=false)):Zlg b s=some (Zc b s).1:=by
 have hdf:¬b.data_.live=false:=by simp[hd]
 have hdat:=h.data
 unfold X2 at hdat
 rw[if_pos hd] at hdat
 have hw:=Yk h hd
 have hmw:=(h.mst _ hw).right
 have hp:=Zl0 h hd
 have hbt:=Z06 h hd
 have hmb:=Ye hw
 have hml:=h.ml
 have hq:=Zj4 hbt.1 hbt.2
 have hrset:∀x:GMst,RightP x→RightP (atI (b.m.set b.data_.who.toNat x) b.data_.who):=fun x hx=>by rw[Zg1 x hmb.1 (by omega)];exact hx
 have hlen:∀x:GMst,(b.m.set b.data_.who.toNat x).length=b.conf.masters.length:=fun x=>by rw[List.length_set];exact hml
 unfold Zlg Zc
 rw[if_neg hdf,if_neg hl,if_neg hns,Y2 hml hw,Option.bind_some]
 by_cases h2:b.data_.resp=2
 ·have ht:=hdat.2.1 h2
  have hmx:=(Ym h.conf).1
  have htr:=hmw.tries
  have hr2:RightP {atI b.m b.data_.who with tries:=(atI b.m b.data_.who).tries+1}:=⟨hmw.len,by show 0≤(atI b.m b.data_.who).tries+1;omega,hmw.reqs,fun hq=>absurd (show (atI b.m b.data_.who).queue=[] from hq) (Zj4 hbt.1 hbt.2),hmw.some⟩
  simp only[decide_eq_true h2,if_true,if_pos h2,Option.bind_some,Y1,Zr (a:=(atI b.m b.data_.who).tries) (b:=1) (by omega) (by omega)]
  rw[Zvw (b:={b with data_:=GBeat.z0,m:=b.m.set b.data_.who.toNat {atI b.m b.data_.who with tries:=(atI b.m b.data_.who).tries+1}}) b.data_ h.conf hw (hlen _) h.bl (hrset _ hr2) h.arb]
  rfl
 ·by_cases h3:b.data_.resp=3
  ·have hr3:RightP {atI b.m b.data_.who with parted:=true}:=⟨hmw.len,hmw.tries,hmw.reqs,fun hq=>absurd (show (atI b.m b.data_.who).queue=[] from hq) (Zj4 hbt.1 hbt.2),hmw.some⟩
   simp only[decide_eq_false h2,decide_eq_true h3,if_true,if_false,Bool.false_eq_true,if_neg h2,if_pos h3,Zlq h.sl hw,Option.bind_some,Y1,Yax _ _ hs]
   rw[Zvw (b:={b with data_:=GBeat.z0,m:=b.m.set b.data_.who.toNat {atI b.m b.data_.who with parted:=true},splits:=b.splits.set b.data_.who.toNat (K4 b.conf s b.picks)}) b.data_ h.conf hw (hlen _) h.bl (hrset _ hr3) h.arb]
   rfl
  ·have hlog:=Z66 (by omega) h.log
   obtain⟨ok,he⟩:=Ye6 hmw
   have hJ:∀(mo:GModel) (d:GDone),Zaq b s {b with data_:=GBeat.z0,model:=mo} (atI b.m b.data_.who) d=some {b with data_:=GBeat.z0,model:=mo,log:=b.log++[d],m:=b.m.set b.data_.who.toNat (endG (atI b.m b.data_.who)),holder:=if b.holder=b.data_.who∧(atI b.m b.data_.who).done+1=Zf (atI b.m b.data_.who) then -1 else b.holder,held:=if b.holder=b.data_.who∧(atI b.m b.data_.who).done+1=Zf (atI b.m b.data_.who) then 0 else b.held}:=by
    intro mo d
    unfold Zaq
    simp only
    rw[Ys (by simp only[List.length_cons,List.length_nil];omega) (by simp only[List.length_cons,List.length_nil];omega),Option.bind_some,he,Option.bind_some]
    simp only[Option.bind_some,Y2 hml hw,Y1]
    by_cases e1:b.holder=b.data_.who
    ·by_cases e2:(atI b.m b.data_.who).done+1=Zf (atI b.m b.data_.who)
     ·have e3:=(Ybj hmw hp).2 e2
      simp only[decide_eq_true e1,decide_eq_true e3,if_true,if_pos (And.intro e1 e2)]
     ·have e3:=mt (Ybj hmw hp).1 e2
      simp only[decide_eq_true e1,decide_eq_false e3,if_true,if_false,Bool.false_eq_true,if_neg (fun hx:b.holder=b.data_.who∧_=>e2 hx.2)]
    ·simp only[decide_eq_false e1,if_false,Bool.false_eq_true,if_neg (fun hx:b.holder=b.data_.who∧_=>e1 hx.1)]
   simp only[decide_eq_false h2,decide_eq_false h3,if_false,Bool.false_eq_true,if_neg h2,if_neg h3]
   rw[Zp4 hq,Option.bind_some,Zes _ hmw,Option.bind_some]
   unfold Zdq Zhe doG
   by_cases e:b.data_.resp=0
   ·rw[if_pos (decide_eq_true e),Z51 hmw hq hbt.1 hbt.2,Option.bind_some,Z0m _ _ _ _ h.model,Option.bind_some,hJ]
    simp only[if_pos e]
   ·rw[if_neg (by simpa using e)]
    have:=hJ b.model (GDone.mk b.now b.data_.who (atI (atI b.m b.data_.who).queue 0).write (Zn (atI b.m b.data_.who) b.data_.beat) (atI (atI b.m b.data_.who).queue 0).size 0 b.data_.resp)
    refine Eq.trans (b:=_) ?_ (this.trans ?_)
    ·rfl
    ·simp only[if_neg e]
end
section
variable {n:Int} {b:GBus} {s:GScript}
theorem Yeb (h:BusI n b) (hs:s.sm) (hl:b.addr.live=true):Zj8 b s b.addr=some (Xd b s b.addr):=by
 have hw:=X6 h hl
 have hmw:=(h.mst _ hw).right
 have hbt:=Zp2 h hl
 have hwt:=Z1q h.conf s b.picks
 have hlm:=(Ym h.conf).2.1
 unfold Zj8
 rw[Y2 h.ml hw,Option.bind_some,Zbo _ hmw,Option.bind_some,Zs7,Option.bind_some]
 have hJ1:Qf b s b.addr (atI b.m b.addr.who) (Zp (Zn (atI b.m b.addr.who) b.addr.beat)) false=some (if Kq s b.picks=2∧Zp (Zn (atI b.m b.addr.who) b.addr.beat)≠3∧(atI b.m b.addr.who).tries < b.conf.maxRetry then 2
  else if Kq s b.picks=3∧Zp (Zn (atI b.m b.addr.who) b.addr.beat)=2∧(atI b.m b.addr.who).parted=false∧b.addr.who≠b.holder then 3 else (doG b b.addr).2.2,if Zp (Zn (atI b.m b.addr.who) b.addr.beat)=3 then Zae b.conf s b.picks+2 else Zae b.conf s b.picks):=by
  unfold Qf
  rw[if_neg (by simp),Yf8 _ hw h.ml hmw h.model hbt.1 hbt.2,Option.bind_some,Ydm _ _ hs,Option.bind_some,Zr (by omega) (by omega)]
  have hJ2:∀(r t:Int),Zac b s b.addr (atI b.m b.addr.who) (Zp (Zn (atI b.m b.addr.who) b.addr.beat)) r t=some (if Kq s b.picks=2∧Zp (Zn (atI b.m b.addr.who) b.addr.beat)≠3∧(atI b.m b.addr.who).tries < b.conf.maxRetry then 2
  else if Kq s b.picks=3∧Zp (Zn (atI b.m b.addr.who) b.addr.beat)=2∧(atI b.m b.addr.who).parted=false∧b.addr.who≠b.holder then 3 else r,t):=by
   intro r t
   unfold Zac
   rw[Yfr _ hs,Option.bind_some]
   generalize Zp (Zn (atI b.m b.addr.who) b.addr.beat)=sl
   have hJ3:Wl b s b.addr (atI b.m b.addr.who) sl r t (Kq s b.picks) false=some (if Kq s b.picks=3∧sl=2∧(atI b.m b.addr.who).parted=false∧b.addr.who≠b.holder then 3 else r,t):=by
    unfold Wl
    rw[if_neg (by simp)]
    by_cases e1:Kq s b.picks=3
    ·by_cases e2:sl=2
     ·by_cases e3:(atI b.m b.addr.who).parted=true
      ·simp[e1,e2,e3]
      ·by_cases e4:b.addr.who=b.holder<;>simp[e1,e2,e3,e4]
     ·simp[e1,e2]
    ·simp[e1]
   have hJ3t:Wl b s b.addr (atI b.m b.addr.who) sl r t (Kq s b.picks) true=some (2,t):=by
    unfold Wl
    rw[if_pos rfl]
   by_cases e1:Kq s b.picks=2
   ·by_cases e2:sl=3
    ·rw[if_pos (decide_eq_true e1),if_neg (by simpa using e2),hJ3,if_neg (fun hx:_∧sl≠3∧_=>hx.2.1 e2)]
    ·by_cases e3:(atI b.m b.addr.who).tries < b.conf.maxRetry
     ·rw[if_pos (decide_eq_true e1),if_pos (by simpa using e2),decide_eq_true e3,hJ3t,if_pos ⟨e1,e2,e3⟩]
     ·rw[if_pos (decide_eq_true e1),if_pos (by simpa using e2),decide_eq_false e3,hJ3,if_neg (fun hx:_∧_∧_=>e3 hx.2.2)]
   ·rw[if_neg (by simpa using e1),hJ3,if_neg (fun hx:_∧_∧_=>e1 hx.1)]
  by_cases e:Zp (Zn (atI b.m b.addr.who) b.addr.beat)=3
  ·rw[if_pos (decide_eq_true e),hJ2,if_pos e]
  ·rw[if_neg (by simpa using e),hJ2,if_neg e]
 have hJ1t:Qf b s b.addr (atI b.m b.addr.who) (Zp (Zn (atI b.m b.addr.who) b.addr.beat)) true=some (1,0):=by
  unfold Qf
  rw[if_pos rfl]
 unfold Xd
 by_cases e1:(atI b.m b.addr.who).broken=true
 ·rw[if_pos e1,hJ1t,if_pos (.inl e1)]
 ·by_cases e2:Zp (Zn (atI b.m b.addr.who) b.addr.beat)=0
  ·rw[if_neg e1,decide_eq_true e2,hJ1t,if_pos (.inr e2)]
  ·rw[if_neg e1,decide_eq_false e2,hJ1,if_neg (show ¬((atI b.m b.addr.who).broken=true∨Zp (Zn (atI b.m b.addr.who) b.addr.beat)=0) from fun hx=>hx.elim e1 e2)]
theorem Yfa (a:Int):Zp a=0∨Zp a=1∨Zp a=2∨Zp a=3:=by
 unfold Zp
 repeat' split
 all_goals simp
theorem Yih (h:BusI n b) (hs:s.sm) (hp:0≤b.picks∧b.picks≤4000):Zm6 b s=some (Ya b s):=by
 unfold Zm6 Ya
 by_cases hl:b.addr.live=true
 ·have hw:=X6 h hl
  have hmw:=(h.mst _ hw).right
  have hbt:=Zp2 h hl
  have hq:=Zj4 hbt.1 hbt.2
  have hwt:=Z1q h.conf s b.picks
  have hlm:=(Ym h.conf).2.1
  have hA:=h.addr
  unfold Wc at hA
  rw[if_pos hl] at hA
  rw[if_neg (by simp[hl]),if_pos hl,Y2 h.ml hw,Option.bind_some,Zp4 hq,Option.bind_some,Zes _ hmw,Option.bind_some,Z0w,Option.bind_some,Yei _ hs,Option.bind_some]
  have hsr:=Yfa (Zn (atI b.m b.addr.who) b.addr.beat)
  have hJ8:∀x:GBeat,Zbm b s x=some {b with addr:=GBeat.z0,data_:=x,picks:=b.picks+1}:=by
   intro x
   unfold Zbm
   rw[Zr (by omega) (by omega)]
  unfold Xd
  by_cases e1:(atI b.m b.addr.who).broken=true
  ·rw[if_pos e1,if_pos (.inl e1)]
   unfold Jp Jl Ju Js Wt Jk Ws
   simp only[if_true,e1,Bool.not_true,Bool.false_eq_true,if_false,hJ8,Zxp]
   congr 2
   rw[hA.2.1]
  ·have e1':(atI b.m b.addr.who).broken=false:=by simpa using e1
   rw[if_neg e1]
   generalize hsl:Zp (Zn (atI b.m b.addr.who) b.addr.beat)=sl at hsr
   by_cases e2:sl=0
   ·rw[decide_eq_true e2,if_pos (.inr e2)]
    unfold Jp Jl Ju Js Wt Jk Ws
    have f1:¬sl=3:=by omega
    have f2:¬sl=1:=by omega
    have f3:¬sl=2:=by omega
    simp only[if_true,e1',f1,f2,f3,decide_false,Bool.not_false,Bool.false_eq_true,if_false,hJ8,Zxp]
    congr 2
    rw[hA.2.1]
   ·rw[decide_eq_false e2,if_neg (fun hx=>hx.elim e1 e2)]
    unfold Jp
    rw[if_neg (by simp),Yfo _ _ hs,Option.bind_some,Z51 hmw hq hbt.1 hbt.2,Option.bind_some,Z0m _ _ _ _ h.model,Option.bind_some]
    have hdo:X7 b.model (atI (atI b.m b.addr.who).queue 0).write (Zn (atI b.m b.addr.who) b.addr.beat) (atI (atI b.m b.addr.who).queue 0).size (Zbf (atI b.m b.addr.who) b.addr.beat)=doG b b.addr:=rfl
    rw[hdo]
    unfold Jl Ju Js Wt Jk Ws
    simp only[e1',Bool.not_false,if_true,hJ8,Zr (a:=Zae b.conf s b.picks) (b:=2) (by omega) (by omega)]
    generalize Kq s b.picks=sd
    by_cases g1:sl=3
    ·subst g1
     by_cases g2:sd=2
     ·subst g2;simp
     ·by_cases g3:sd=3
      ·subst g3;simp
      ·simp[g2,g3]
    ·by_cases g4:sl=2
     ·subst g4
      by_cases g2:sd=2
      ·subst g2
       by_cases g5:(atI b.m b.addr.who).tries < b.conf.maxRetry<;>simp[g5]
      ·by_cases g3:sd=3
       ·subst g3
        by_cases g5:(atI b.m b.addr.who).parted=true
        ·simp[g5]
        ·by_cases g6:b.addr.who=b.holder
         ·simp[g5,g6]
         ·have g7:¬b.holder=b.addr.who:=fun e=>g6 e.symm
          simp[g5,g6,g7]
       ·simp[g2,g3]
     ·have g8:sl=1:=by omega
      subst g8
      by_cases g2:sd=2
      ·subst g2
       by_cases g5:(atI b.m b.addr.who).tries < b.conf.maxRetry<;>simp[g5]
      ·by_cases g3:sd=3
       ·subst g3;simp
       ·simp[g2,g3]
 ·rw[if_pos (by simpa using hl),if_neg hl]
  have hA:=h.addr
  unfold Wc at hA
  rw[if_neg hl] at hA
  rw[←hA]
theorem Z4y (b:GBus) (k:Nat):((List.range (k+1)).map fun j:Nat=>Xq b (j:Int))=((List.range k).map fun j:Nat=>Xq b (j:Int))++[Xq b (k:Int)]:=by
 rw[List.range_succ,List.map_append];rfl
theorem Zu1 (h:BusI n b):b.holder=-1∨Za b.conf b.holder=true:=by
 by_cases e:b.holder=-1
 ·exact .inl e
 ·exact .inr (Kh h e).1
theorem Ykd (h:BusI n b):Zmv b=some ((Z6 b).1,(Z6 b).2.1,(Z6 b).2.2):=by
 have hlen:=Wy h.conf
 have hml:=h.ml
 have hL2:Zbs b FU (Xu b) ((Xu b).length:Int) 0=some (match (List.range b.m.length).find? (Kn b) with
  | some k=>((k:Int),1,{b with buckets:=b.buckets.set k (Zc7 (atI b.buckets (k:Int)) (atI b.conf.masters (k:Int))).1})
  | none=>if b.holder≠-1 then (-1,0,b) else ((Qy b.arb b.conf (Xu b)).2,2,{b with arb:=(Qy b.arb b.conf (Xu b)).1})):=by
  rw[Ka]
  have key:∀(r m k:Nat),r < m→k+r=b.m.length→(∀j,j < k→Kn b j=false)→Zbs b m (Xu b) (b.m.length:Int) (k:Int)=some (match (List.range' k r).find? (Kn b) with
  | some k=>((k:Int),1,{b with buckets:=b.buckets.set k (Zc7 (atI b.buckets (k:Int)) (atI b.conf.masters (k:Int))).1})
  | none=>if b.holder≠-1 then (-1,0,b) else ((Qy b.arb b.conf (Xu b)).2,2,{b with arb:=(Qy b.arb b.conf (Xu b)).1})):=by
   intro r
   induction r with
   | zero=>
    intro m k hm hk _
    obtain⟨m,rfl⟩:∃m',m=m'+1:=⟨m - 1,by omega⟩
    show Zap b _ (Xu b) (b.m.length:Int) (k:Int)=_
    unfold Zap
    rw[if_neg (by simp;omega),Ybk _ _ _ h.arb (by rw[Ka,hml]),Option.bind_some]
    by_cases e:b.holder=-1
    ·simp[e]
    ·simp[e]
   | succ r ih=>
    intro m k hm hk hj
    obtain⟨m,rfl⟩:∃m',m=m'+1:=⟨m - 1,by omega⟩
    show Zap b _ (Xu b) (b.m.length:Int) (k:Int)=_
    have hmk:=mas (c:=b.conf) (k:=k) (by omega)
    unfold Zap
    have hix:idx (Xu b) (k:Int)=some (Xq b (k:Int)):=by
     rw[Yi (by omega) (by rw[Ka];omega),Zme h hmk]
    rw[if_pos (by simp;omega),hix,Option.bind_some,Z1p h.bl hmk,Option.bind_some,Zub hmk,Option.bind_some,Z42 _ (Zez h.conf hmk),Option.bind_some,Y1,Option.bind_some,List.range'_succ,List.find?_cons]
    by_cases e1:Xq b (k:Int)=true
    ·by_cases e2:(Zc7 (atI b.buckets (k:Int)) (atI b.conf.masters (k:Int))).2=true
     ·have e3:Kn b k=true:=by simp[Kn,e1,e2]
      rw[e1,if_neg (by simp),if_pos e2,e3]
      rfl
     ·have e3:Kn b k=false:=by simp[Kn,e1,e2]
      rw[e1,if_neg (by simp),if_neg e2,e3,Yo (by omega)]
      exact ih m (k+1) (by omega) (by omega) (fun j hj2=>by
       by_cases hjk:j=k
       ·subst hjk;exact e3
       ·exact hj j (by omega))
    ·have e3:Kn b k=false:=by simp[Kn,e1]
     have e4:Xq b (k:Int)=false:=by simpa using e1
     rw[e4,if_pos (by simp),e3,Yo (by omega)]
     exact ih m (k+1) (by omega) (by omega) (fun j hj2=>by
       by_cases hjk:j=k
       ·subst hjk;exact e3
       ·exact hj j (by omega))
  have:=key b.m.length FU 0 (by have:=Y5;omega) (by omega) (fun j hj=>by omega)
  rw[List.range_eq_range']
  simpa using this
 unfold Zmv
 refine K9 (σ:=List Bool) (n:=b.m.length) (by omega) (fun k=>(List.range k).map fun j:Nat=>Xq b (j:Int)) (B:=Zej b) (L:=Zf1 b) (fun m s i=>rfl) (fun k hk κ=>?_) fun κ=>?_
 ·have hmk:=mas (c:=b.conf) (k:=k) (by omega)
  unfold Zej
  have happ:∀x:Bool,appI 1 ((List.range k).map fun j:Nat=>Xq b (j:Int)) [x]=some (((List.range k).map fun j:Nat=>Xq b (j:Int))++[x]):=fun x=>Ys (by simp;omega) (by simp;omega)
  rw[if_pos (by simpa using hk),Y2 hml hmk,Option.bind_some,Zy9 (h.mst _ hmk).right,Option.bind_some,Zlq h.sl hmk,Option.bind_some,Z4y]
  simp only[happ,Option.bind_some]
  unfold Xq
  by_cases e1:Zgt (atI b.m (k:Int))=true
  ·by_cases e2:atI b.splits (k:Int)=0
   ·by_cases e3:b.holder=-1
    ·simp[e1,e2,e3]
    ·simp[e1,e2,e3]
   ·simp[e1,e2]
  ·simp[e1]
 ·unfold Zej Zf5
  rw[if_neg (by simp)]
  show (if decide (b.holder≠-1)=true then (idx (Xu b) b.holder).bind _ else _)=_
  unfold Z6
  by_cases e:b.holder=-1
  ·rw[if_neg (by simpa using e),if_neg (by simp),if_neg (fun hx:b.holder≠-1∧_=>hx.1 e)]
   exact hL2
  ·have hw:=(Kh h e).1
   have hmb:=Ye hw
   rw[if_pos (by simpa using e),Yi hmb.1 (by rw[Ka];omega),Option.bind_some,Zme h hw]
   by_cases e2:Xq b b.holder=true
   ·rw[if_pos e2,if_pos ⟨e,e2⟩]
   ·rw[if_neg e2,if_neg (fun hx:_∧Xq b b.holder=true=>e2 hx.2)]
    exact hL2
theorem Yoi {b:GBus} {i:Int} (hr:RightP (atI b.m i)) (h:Xq b i=true):(atI b.m i).queue≠[]:=by
 have:=(Zyn h).1
 have:=W9 hr
 intro hq
 unfold Zf at*
 rw[if_pos hq] at*
 omega
theorem Yj2 (x0:GBus) (h:BusI n b) {who by_:Int} (hw:Za b.conf who=true):((idx b.m who).bind fun a405=>
  if decide (a405.beat=0)=true then Qs x0 {b with addr:=(GBeat.mk true who a405.beat true by_ 0 0 false)} a405 who
  else Qs x0 {b with addr:=(GBeat.mk true who a405.beat (decide (b.last≠who)) by_ 0 0 false)} a405 who)=some (who,Zu0 b who by_):=by
 obtain⟨ok,hi⟩:=Z9v (h.mst _ hw).right
 rw[Y2 h.ml hw,Option.bind_some]
 have hJ:∀f:Bool,Qs x0 {b with addr:=(GBeat.mk true who (atI b.m who).beat f by_ 0 0 false)} (atI b.m who) who=some (who,{b with addr:=GBeat.mk true who (atI b.m who).beat f by_ 0 0 false,holder:=if Zx (atI b.m who)=true∧b.holder=-1 then who else b.holder,held:=if Zx (atI b.m who)=true∧b.holder=-1 then 0 else b.held,m:=b.m.set who.toNat (Yq (atI b.m who)),last:=who}):=by
  intro f
  unfold Qs Zed Zef
  simp only[Zxy,Option.bind_some,hi,Y2 h.ml hw,Y1]
  by_cases e1:Zx (atI b.m who)=true
  ·by_cases e2:b.holder=-1
   ·simp only[e1,if_true,decide_eq_true e2,true_and,if_pos e2]
   ·simp only[e1,if_true,decide_eq_false e2,Bool.false_eq_true,if_false,true_and,if_neg e2]
  ·simp only[e1,if_false,Bool.false_eq_true,false_and]
 unfold Zu0
 by_cases e:(atI b.m who).beat=0
 ·rw[if_pos (decide_eq_true e),hJ,decide_eq_true e];rfl
 ·rw[if_neg (by simpa using e),hJ,decide_eq_false e,Bool.false_or]
end
end Go.Proofs.YtciimjnpdmmfnaaGreat.Ev
