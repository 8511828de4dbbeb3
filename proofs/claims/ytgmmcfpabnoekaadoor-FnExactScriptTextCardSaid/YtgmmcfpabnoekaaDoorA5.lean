/- A part of the proof of FnExactScriptText: see the text YtgmmcfpabnoekaaDoorLawFnExactScriptText for what is proved and its conditions. Conditions here: those in each line. -/
import Derived.Test.YtgmmcfpabnoekaaDoorA4
namespace Go.Proofs.YtgmmcfpabnoekaaDoor.Ev
open Go Go.Proofs
set_option linter.unusedVariables false
set_option linter.unusedSimpArgs false
theorem Zfs {n:Int} (h1:-9223372036854775808≤n) (h2:n < 9223372036854775808):IntKind.i64.wrap n=n:=w64_of h1 h2
theorem Zgc {a b:Int} (h1:-9223372036854775808≤a+b) (h2:a+b < 9223372036854775808):addW a b=a+b:=Zfs h1 h2
theorem Jv {a b:Int} (h1:-9223372036854775808≤a - b) (h2:a - b < 9223372036854775808):subW a b=a - b:=Zfs h1 h2
theorem Zk1 {a b:Int} (h1:-9223372036854775808≤a*b) (h2:a*b < 9223372036854775808):mulW a b=a*b:=Zfs h1 h2
theorem Xb {k:Nat} (h:k < 4611686018427387904):addW (k:Int) 1=((k+1:Nat):Int):=by rw[Zgc (by omega) (by omega)];rfl
section
variable {α β σ ρ:Type}
theorem Yk {xs:List α} {k:Nat} (h:k < xs.length):idx xs (k:Int)=some xs[k]:=by
 simp[idx,h]
theorem X9:4611686018427387904 < FU:=by decide
def runL (step:α→σ→Option (σ ⊕ ρ)) (fin:σ→Option ρ):List α→σ→Option ρ
 | [],s=>fin s
 | a::l,s=>(step a s).bind fun r=>match r with|.inl s'=>runL step fin l s'|.inr x=>some x
def goL (k:σ→Option ρ):σ ⊕ ρ→Option ρ
 | .inl s=>k s
 | .inr x=>some x
theorem Znk (xs:List α) (hl:xs.length < 4611686018427387904) (step:α→σ→Option (σ ⊕ ρ)) (fin:σ→Option ρ) (L:Nat→σ→Int→Option ρ)
  (hL:∀m s i,L (m+1) s i=if decide (i < (xs.length:Int))=true then (idx xs i).bind fun a=>(step a s).bind (goL fun s'=>L m s' (addW i 1)) else fin s):
  ∀(m k:Nat) (s:σ),k≤xs.length→xs.length - k < m→L m s k=runL step fin (xs.drop k) s:=by
 intro m
 induction m with
 | zero=>intro k s _ h;omega
 | succ m ih=>
  intro k s hk hm
  rw[hL]
  by_cases hc:k < xs.length
  ·have h1:decide ((k:Int) < (xs.length:Int))=true:=by simpa using hc
   rw[if_pos h1,Yk hc,Option.bind_some,List.drop_eq_getElem_cons hc]
   simp only[runL]
   congr 1
   funext r
   cases r with
   | inl s'=>
    simp only[goL]
    rw[Xb (by omega)]
    exact ih (k+1) s' (by omega) (by omega)
   | inr x=>rfl
  ·have h1:¬decide ((k:Int) < (xs.length:Int))=true:=by simpa using hc
   rw[if_neg h1,List.drop_eq_nil_of_le (by omega)]
   rfl
theorem Zo4 (xs:List α) (hl:xs.length < 4611686018427387904) (step:α→σ→Option (σ ⊕ ρ)) (fin:σ→Option ρ) (L:Nat→σ→Int→Option ρ)
  (hL:∀m s i,L (m+1) s i=if decide (i < (xs.length:Int))=true then (idx xs i).bind fun a=>(step a s).bind (goL fun s'=>L m s' (addW i 1)) else fin s) (s:σ):
  L FU s 0=runL step fin xs s:=by
 have:=Znk xs hl step fin L hL FU 0 s (Nat.zero_le _) (by have:=X9;omega)
 simpa using this
def Zdo (k:Option ρ):Option ρ→Option ρ
 | none=>k
 | some x=>some x
theorem Zod (xs:List α) (ys:List β) (hl:xs.length < 4611686018427387904) (hxy:xs.length=ys.length) (e:α→β→Option (Option ρ)) (fin:ρ) (L:Nat→Int→Option ρ)
  (hL:∀m i,L (m+1) i=if decide (i < (xs.length:Int))=true then (idx xs i).bind fun a=>(idx ys i).bind fun b=>(e a b).bind (Zdo (L m (addW i 1))) else some fin)
  (q:α→β→Bool) (out:ρ) (hq:∀a b,a∈xs→b∈ys→e a b=some (if q a b then none else some out)):∀(m k:Nat),k≤xs.length→xs.length - k < m→L m k=some (if ((xs.drop k).zip (ys.drop k)).all (fun p=>q p.1 p.2) then fin else out):=by
 intro m
 induction m with
 | zero=>intro k _ h;omega
 | succ m ih=>
  intro k hk hm
  rw[hL]
  by_cases hc:k < xs.length
  ·have h1:decide ((k:Int) < (xs.length:Int))=true:=by simpa using hc
   have hc2:k < ys.length:=by omega
   rw[if_pos h1,Yk hc,Option.bind_some,Yk hc2,Option.bind_some,hq _ _ (List.getElem_mem hc) (List.getElem_mem hc2),List.drop_eq_getElem_cons hc,List.drop_eq_getElem_cons hc2]
   simp only[Option.bind_some,List.zip_cons_cons,List.all_cons]
   by_cases hb:q xs[k] ys[k]=true
   ·rw[if_pos hb,Xb (by omega)]
    simp only[Zdo,hb,Bool.true_and]
    exact ih (k+1) (by omega) (by omega)
   ·rw[if_neg hb]
    simp[Zdo,hb]
  ·have h1:¬decide ((k:Int) < (xs.length:Int))=true:=by simpa using hc
   rw[if_neg h1,List.drop_eq_nil_of_le (by omega)]
   rfl
theorem Zlx [DecidableEq α]:∀{xs ys:List α},xs.length=ys.length→((xs.zip ys).all fun p=>decide (p.1=p.2))=decide (xs=ys):=by
 intro xs
 induction xs with
 | nil=>intro ys h;cases ys with
  | nil=>rfl
  | cons y ys=>simp at h
 | cons x xs ih=>intro ys h;cases ys with
  | nil=>simp at h
  | cons y ys=>
   simp only[List.zip_cons_cons,List.all_cons,ih (by simpa using h)]
   by_cases h1:x=y<;>by_cases h2:xs=ys<;>simp[h1,h2]
theorem Zh9 (xs:List α) (g:α→β) (hl:xs.length < 4611686018427387904) (f:α→Option β) (hf:∀a∈xs,f a=some (g a)) (L:Nat→List β→Int→Option (List β))
  (hL:∀m v i,L (m+1) v i=if decide (i < (xs.length:Int))=true then (idx xs i).bind fun a=>(f a).bind fun b=>(idx v i).bind fun _=>(setO v i b).bind fun y=>L m y (addW i 1) else some v) (v:List β) (hv:v.length=xs.length):L FU v 0=some (xs.map g):=by
 have key:∀(m k:Nat) (v:List β),k≤xs.length→xs.length - k < m→v.length=xs.length→v.take k=(xs.take k).map g→L m v k=some (xs.map g):=by
  intro m
  induction m with
  | zero=>intro k v _ h;omega
  | succ m ih=>
   intro k v hk hm hv ht
   rw[hL]
   by_cases hc:k < xs.length
   ·have h1:decide ((k:Int) < (xs.length:Int))=true:=by simpa using hc
    have hc2:k < v.length:=by omega
    rw[if_pos h1,Yk hc,Option.bind_some,hf _ (List.getElem_mem hc),Option.bind_some,Yk hc2,Option.bind_some]
    simp only[setO,Option.bind_some]
    rw[Xb (by omega)]
    refine ih (k+1) _ (by omega) (by omega) (by simp[hv]) ?_
    rw[Int.toNat_natCast,List.take_add_one,List.take_add_one,List.map_append,List.take_set_of_le (Nat.le_refl _),ht,List.getElem?_set_self hc2,List.getElem?_eq_getElem hc]
    rfl
   ·have h1:¬decide ((k:Int) < (xs.length:Int))=true:=by simpa using hc
    rw[if_neg h1]
    rw[List.take_of_length_le (by omega),List.take_of_length_le (by omega)] at ht
    rw[ht]
 have:=key FU 0 v (Nat.zero_le _) (by have:=X9;omega) hv (by simp)
 simpa using this
theorem Zmm {sz n:Nat} {z:α} (h1:n*sz≤70368744177664) (h2:n≤9223372036854775807):mkI sz (n:Int) z=some (List.replicate n z):=by
 simp[mkI,h1,h2]
theorem Jy {sz:Nat} {xs ys:List α} (h1:(xs.length+ys.length)*sz≤140737488355328) (h2:xs.length+ys.length≤9223372036854775807):appI sz xs ys=some (xs++ys):=by
 unfold appI
 rw[if_pos ⟨h1,h2⟩]
end
section
variable {α:Type}
def atI [Inhabited α] (xs:List α) (i:Int):α:=xs.getD i.toNat default
theorem Zfl [Inhabited α] {xs:List α} {k:Nat} (h:k < xs.length):atI xs (k:Int)=xs[k]:=by
 simp[atI,h]
theorem Zew {n:Int} (h:n≠0):nzI n=some ():=by unfold nzI;rw[if_neg h]
theorem Zdm {a n:Int} (h0:0≤a):remW a n=a % n:=by unfold remW;rw[Int.tmod_eq_emod_of_nonneg h0]
theorem Zpk {a n:Int} (h0:0≤a) (h1:a < 9223372036854775808) (hn:1≤n):quoW a n=a / n:=by
 unfold quoW
 rw[Int.tdiv_eq_ediv_of_nonneg h0]
 have h2:0≤a / n:=Int.ediv_nonneg h0 (by omega)
 have h3:a / n≤a:=Int.ediv_le_self n h0
 exact Zfs (by omega) (by omega)
theorem Zly (xs:List α) (hl:xs.length < 4611686018427387904) (f:α→Option Bool) (q:α→Bool) (hf:∀a∈xs,f a=some (!q a)) (L:Nat→Int→Option Int)
  (hL:∀m i,L (m+1) i=if decide (i < (xs.length:Int))=true then (idx xs i).bind fun a=>(f a).bind fun r=>if r=true then some i else L m (addW i 1) else some (-1)):
  (xs.all q=true∧L FU 0=some (-1))∨∃k:Nat,∃h:k < xs.length,L FU 0=some (k:Int)∧q xs[k]=false∧(xs.take k).all q=true:=by
 have key:∀(m k:Nat),k≤xs.length→xs.length - k < m→(xs.take k).all q=true→(xs.all q=true∧L m k=some (-1))∨∃j:Nat,∃h:j < xs.length,L m k=some (j:Int)∧q xs[j]=false∧(xs.take j).all q=true:=by
  intro m
  induction m with
  | zero=>intro k _ h;omega
  | succ m ih=>
   intro k hk hm ht
   rw[hL]
   by_cases hc:k < xs.length
   ·have h1:decide ((k:Int) < (xs.length:Int))=true:=by simpa using hc
    rw[if_pos h1,Yk hc,Option.bind_some,hf _ (List.getElem_mem hc),Option.bind_some]
    by_cases hq:q xs[k]=true
    ·have h2:¬(!q xs[k])=true:=by simp[hq]
     rw[if_neg h2,Xb (by omega)]
     refine ih (k+1) (by omega) (by omega) ?_
     rw[List.take_succ_eq_append_getElem hc,List.all_append,ht];simp[hq]
    ·have h2:(!q xs[k])=true:=by simpa using hq
     rw[if_pos h2]
     exact .inr ⟨k,hc,rfl,by simpa using hq,ht⟩
   ·have h1:¬decide ((k:Int) < (xs.length:Int))=true:=by simpa using hc
    rw[if_neg h1]
    rw[List.take_of_length_le (by omega)] at ht
    exact .inl ⟨ht,rfl⟩
 exact key FU 0 (Nat.zero_le _) (by have:=X9;omega) (by simp)
theorem Znu (xs:List α) (hl:xs.length < 4611686018427387904) (f:α→Option Bool) (q:α→Bool) (hf:∀a∈xs,f a=some (!q a)) (L:Nat→Int→Option Int)
  (hL:∀m i,L (m+1) i=if decide (i < (xs.length:Int))=true then (idx xs i).bind fun a=>(f a).bind fun r=>if r=true then some i else L m (addW i 1) else some (-1)):
  ((L FU 0).bind fun r=>some (decide (r≥0)))=some (!xs.all q):=by
 rcases Zly xs hl f q hf L hL with⟨h1,h2⟩|⟨k,hk,h1,h2,h3⟩
 ·rw[h2,h1];rfl
 ·rw[h1,Option.bind_some]
  have:xs.all q=false:=by
   rw[List.all_eq_false]
   exact⟨xs[k],List.getElem_mem hk,by simp[h2]⟩
  rw[this]
  have h4:((k:Nat):Int)≥0:=by omega
  simp[h4]
end
theorem Zf7 {σ ρ:Type} {n:Nat} (hn:n < 4611686018427387904) (st:Nat→σ) {B:(σ→Int→ρ)→σ→Int→ρ} {L:Nat→σ→Int→ρ} (hL:∀m s i,L (m+1) s i=B (L m) s i)
  (hs:∀k,k < n→∀κ,B κ (st k) (k:Int)=κ (st (k+1)) (addW (k:Int) 1)) {r:ρ} (hf:∀κ,B κ (st n) (n:Int)=r):L FU (st 0) 0=r:=by
 have key:∀(m k:Nat),k≤n→n - k < m→L m (st k) (k:Int)=r:=by
  intro m
  induction m with
  | zero=>intro k _ h;omega
  | succ m ih=>
   intro k hk hm
   rw[hL]
   by_cases hc:k < n
   ·rw[hs k hc,Xb (by omega)]
    exact ih (k+1) (by omega) (by omega)
   ·have:k=n:=by omega
    subst this
    exact hf _
 have:=key FU 0 (Nat.zero_le _) (by have:=X9;omega)
 simpa using this
def L8 (b:ByteArray):List UInt8:=b.data.toList
theorem Z6 (a b:ByteArray):L8 (a++b)=L8 a++L8 b:=by simp[L8]
theorem Wa {a b:ByteArray} (h:L8 a=L8 b):a=b:=by
 cases a;cases b
 simp only[L8] at h
 rw[Array.toList_inj.1 h]
theorem Y4 (a:ByteArray):a.size=(L8 a).length:=by show a.data.size=a.data.toList.length;rw[Array.length_toList]
theorem Ya (l:List UInt8):L8 ⟨l.toArray⟩=l:=rfl
theorem Z4 (l:List UInt8):L8 (strL l)=l:=rfl
theorem Zi6:L8 ByteArray.empty=[]:=rfl
theorem Yr {a b:ByteArray} (h:a.size+b.size < 9223372036854775808):catI a b=some ():=by
 unfold catI
 rw[if_neg (by simp[IntKind.max,IntKind.signed,IntKind.bits];omega)]
theorem Z7 (a b:ByteArray):(a++b).size=a.size+b.size:=by rw[Y4,Z6,List.length_append,Y4,Y4]
theorem Zm (l:List UInt8):(strL l).size=l.length:=by rw[Y4,Z4]
theorem Zcy:∀(k u:Nat),u < 10^(k+1)→(Lib.decDigits u).length≤k+1:=by
 intro k
 induction k with
 | zero=>
  intro u hu
  rw[Lib.decDigits,dif_pos (by omega)];simp
 | succ k ih=>
  intro u hu
  rw[Lib.decDigits]
  split
  ·simp
  ·rw[List.length_append]
   have:=ih (u / 10) (by rw[Nat.pow_succ] at hu;omega)
   simp;omega
def dgL (u:Nat):List UInt8:=if u=0 then [] else Lib.decDigits u
theorem Zpd {u:Nat} (h:u≠0):dgL u=dgL (u / 10)++[UInt8.ofNat (48+u % 10)]:=by
 unfold dgL
 rw[if_neg h,Lib.decDigits]
 split
 ·rename_i h1
  rw[if_pos (by omega),Nat.mod_eq_of_lt h1];rfl
 ·rw[if_neg (by omega)]
def InR (x:Int):Prop:=-9223372036854775808≤x∧x≤9223372036854775807
def decB (x:Int):ByteArray:=⟨(Lib.itoa x).toArray⟩
theorem Xe (x:Int):L8 (decB x)=Lib.itoa x:=rfl
theorem Zdl {x:Int} (h:InR x):(Lib.itoa x).length≤20:=by
 obtain⟨h1,h2⟩:=h
 unfold Lib.itoa
 split
 ·have:=Zcy 18 x.natAbs (by omega)
  simp;omega
 ·have:=Zcy 18 x.toNat (by omega)
  omega
theorem W4 {x:Int} (h:InR x):(decB x).size≤20:=by rw[Y4,Xe];exact Zdl h
theorem Zpj {x:Int} (h:x≠0):Lib.itoa x=(if x < 0 then [45] else [])++dgL x.natAbs:=by
 unfold Lib.itoa dgL
 have hn:¬x.natAbs=0:=by omega
 by_cases hx:x < 0
 ·rw[if_pos hx,if_pos hx,if_neg hn];rfl
 ·have:x.toNat=x.natAbs:=by omega
  rw[if_neg hx,if_neg hx,if_neg hn,this];rfl
theorem Zmy:Lib.itoa 0=[48]:=by
 unfold Lib.itoa
 rw[if_neg (by omega),show (0:Int).toNat=0 from rfl,Lib.decDigits,dif_pos (by omega)];rfl
theorem digB {d:Int} (h0:0≤d) (h1:d < 10):strB [w8 (addW 48 d)]=strL [UInt8.ofNat (48+d.toNat)]:=by
 have:w8 (addW 48 d)=((48+d.toNat:Nat):Int):=by
  simp[w8,addW,IntKind.wrap,IntKind.bits,IntKind.signed];omega
 rw[this]
 rfl
theorem Zlr (x0:Int):∀(m:Nat) (v0:Int) (v1:ByteArray),v0.natAbs < m→InR v0→(v1.size+v0.natAbs < 9223372036854775807∨v1.size=0)→
  ∃r,Wc x0 m v0 v1=some r∧L8 r=(if x0 < 0 then [45] else [])++dgL v0.natAbs++L8 v1:=by
 intro m
 induction m with
 | zero=>intro v0 v1 h;omega
 | succ m ih=>
  intro v0 v1 hm hr hs
  show ∃r,J8 x0 (Wc x0 m) v0 v1=some r∧_
  unfold J8
  obtain⟨hr1,hr2⟩:=hr
  by_cases h0:v0=0
  ·subst h0
   rw[if_neg (by simp)]
   by_cases hx:x0 < 0
   ·rw[if_pos (by simpa using hx),Yr (by
     have hz:(0:Int).natAbs=0:=rfl
     rw[hz] at hs
     rw[Zm]
     show 1+v1.size < _
     omega),Option.bind_some]
    exact⟨_,rfl,by rw[if_pos hx,Z6];rfl⟩
   ·rw[if_neg (by simpa using hx)]
    exact⟨_,rfl,by rw[if_neg hx];rfl⟩
  ·rw[if_pos (by simpa using h0)]
   have hq:quoW v0 10=v0.tdiv 10:=by
    unfold quoW
    have:(v0.tdiv 10).natAbs=v0.natAbs / 10:=by rw[Int.natAbs_tdiv];rfl
    simp[IntKind.wrap,IntKind.bits,IntKind.signed];omega
   have hqa:(v0.tdiv 10).natAbs=v0.natAbs / 10:=by rw[Int.natAbs_tdiv];rfl
   have hra:(v0.tmod 10).natAbs=v0.natAbs % 10:=by rw[Int.natAbs_tmod];rfl
   have step:∀d:Int,0≤d→d.toNat=v0.natAbs % 10→∃r,Qo x0 (Wc x0 m) v0 v1 d=some r∧L8 r=(if x0 < 0 then [45] else [])++dgL v0.natAbs++L8 v1:=fun d hd0 hd=>by
    unfold Qo
    rw[digB hd0 (by omega),Yr (by rw[Zm];simp;omega),Option.bind_some,hq]
    obtain⟨r,h1,h2⟩:=ih (v0.tdiv 10) (strL [UInt8.ofNat (48+d.toNat)]++v1) (by omega) (by constructor<;>omega) (.inl (by rw[Z7,Zm,hqa];simp;omega))
    refine⟨r,h1,?_⟩
    rw[h2,hqa,Z6,Z4,Zpd (u:=v0.natAbs) (by omega),hd]
    simp
   unfold remW at*
   by_cases hn:v0.tmod 10 < 0
   ·rw[if_pos (by simpa using hn)]
    have hneg:negW (v0.tmod 10)=-(v0.tmod 10):=by
     simp[negW,IntKind.wrap,IntKind.bits,IntKind.signed];omega
    rw[hneg]
    exact step _ (by omega) (by omega)
   ·rw[if_neg (by simpa using hn)]
    exact step _ (by omega) (by omega)
theorem J4 {x:Int} (h:InR x):Xg x=some (decB x):=by
 unfold Xg
 by_cases h0:x=0
 ·subst h0
  rw[if_pos (by simp)]
  exact congrArg some (Wa (by rw[Xe,Zmy,Z4]))
 ·rw[if_neg (by simpa using h0)]
  obtain⟨r,h1,h2⟩:=Zlr x FU x ByteArray.empty (by obtain⟨h1,h2⟩:=h;unfold FU;omega) h (.inr rfl)
  rw[h1]
  exact congrArg some (Wa (by rw[h2,Xe,Zpj h0,Zi6,List.append_nil]))
theorem Zb8 {x:Int} (h:InR x):Kt x=some (decB x):=by
 unfold Kt W5
 rw[if_pos (show _∧_ from h)]
 rfl
theorem Zgg {ws:List ByteArray} {sep:ByteArray} (h1:ws.length≤1000000000) (h2:(Lib.join (ws.map L8) (L8 sep)).length≤140737488355328):Ye ws sep=some ⟨(Lib.join (ws.map L8) (L8 sep)).toArray⟩:=by
 unfold Ye
 rw[if_pos ⟨by omega,h2⟩]
 rfl
theorem Zbl {n:Int} (h:(Lit.int .i64 n).wf=true):InR n:=by
 simp[Lit.wf,IntKind.min,IntKind.max,IntKind.signed,IntKind.bits] at h
 exact⟨by omega,by omega⟩
theorem Za1 (x a b:Int):X2 x a b=some (decide (a≤x∧x≤b)):=by
 unfold X2
 by_cases h:a≤x<;>simp[h]
theorem Jz (x a b:Int):X1 x a b=some (decide (a≤x∧x≤b)):=by
 unfold X1
 by_cases h:a≤x<;>simp[h]
def Z1 (s:Int):Int:=if s=0 then 1 else if s=1 then 2 else if s=2 then 4 else 0
def Kp (s:Int):Int:=if s=0 then 256 else if s=1 then 65536 else if s=2 then 4294967296 else 0
def Zo (b:Int):Int:=if b=0 then 1 else if b=1 then 4 else if b=2 then 4 else if b=3 then 8 else 0
theorem Zgm (s:Int):0≤Z1 s∧Z1 s≤4:=by unfold Z1;repeat' split<;>omega
theorem Zg1 (s:Int):0≤Kp s∧Kp s≤4294967296:=by unfold Kp;repeat' split<;>omega
theorem Q6 (b:Int):0≤Zo b∧Zo b≤8:=by unfold Zo;repeat' split<;>omega
theorem Ww (s:Int):Yv s=some (Z1 s):=by
 unfold Yv
 rw[Jz,Option.bind_some]
 by_cases h:0≤s∧s≤2
 ·have:s=0∨s=1∨s=2:=by omega
  rcases this with rfl|rfl|rfl<;>rfl
 ·have:Z1 s=0:=by unfold Z1;repeat' split<;>omega
  simp[h,this]
theorem Zaa (s:Int):Xa s=some (Z1 s):=by
 rw[←Ww]
 unfold Xa Yv
 rw[Za1,Jz]
theorem W3 (b:Int):Yu b=some (Zo b):=by
 unfold Yu
 rw[Jz,Option.bind_some]
 by_cases h:0≤b∧b≤3
 ·have:b=0∨b=1∨b=2∨b=3:=by omega
  rcases this with rfl|rfl|rfl|rfl<;>rfl
 ·have:Zo b=0:=by unfold Zo;repeat' split<;>omega
  simp[h,this]
theorem J5 (b:Int):Wd b=some (Zo b):=by
 rw[←W3]
 unfold Wd Yu
 rw[Za1,Jz]
theorem Zc5 (s:Int):Qn s=some (Kp s):=by
 unfold Qn
 rw[Ww,Option.bind_some,Option.bind_some]
 by_cases h:s=0∨s=1∨s=2
 ·rcases h with rfl|rfl|rfl<;>rfl
 ·have h1:Z1 s=0:=by unfold Z1;repeat' split<;>omega
  have h2:Kp s=0:=by unfold Kp;repeat' split<;>omega
  simp[h1,h2]
theorem Zji (s:Int):K0 s=some (Kp s):=by
 rw[←Zc5]
 unfold K0 Qn
 simp only[Zaa,Ww]
def numG (v s:Int):Bool:=decide (0≤v∧v < Kp s)
theorem Zlf (v s:Int):Za2 v s=some (numG v s):=by
 have:=Zg1 s
 unfold Za2 numG
 rw[Zji,Option.bind_some,Za1,Option.bind_some,Jv (by omega) (by omega)]
 congr 2
 apply propext
 omega
theorem Zor (v s:Int):X1 v 0 (subW (Kp s) 1)=some (numG v s):=by
 have:=Zg1 s
 unfold numG
 rw[Jz,Jv (by omega) (by omega)]
 congr 2
 apply propext
 omega
def Yh (a s:Int):Bool:=decide (0 < Z1 s)&&(decide (0≤a)&&decide (a % Z1 s=0))
theorem Zin (a s:Int):Kz a s=some (Yh a s):=by
 unfold Kz Yh
 rw[Ww,Option.bind_some,Option.bind_some]
 by_cases h1:0 < Z1 s
 ·by_cases h2:0≤a
  ·rw[Zew (by omega),Zdm h2];simp[h1,h2]
  ·simp[h1,h2]
 ·simp[h1]
theorem Zgv (s:Int):0 < Z1 s↔(0≤s∧s≤2):=by
 unfold Z1
 repeat' split<;>omega
theorem Zja (a s:Int):Jc a s=some (Yh a s):=by
 unfold Jc Yh
 rw[Za1,Option.bind_some,Zaa,Option.bind_some]
 by_cases h1:0 < Z1 s
 ·have h3:=(Zgv s).1 h1
  by_cases h2:0≤a
  ·rw[Zew (by omega),Zdm h2];simp[h1,h2,h3]
  ·simp[h1,h2,h3]
 ·have h3:¬(0≤s∧s≤2):=fun h=>h1 ((Zgv s).2 h)
  simp[h1,h3]
def Xt (a s b:Int):Int:=if (Yh a s=true∧a < 512)∧Zo b≠0 then (if b=2∧(a+Z1 s) % (4*Z1 s)=0 then a+Z1 s - 4*Z1 s else a+Z1 s) else -1
theorem Qr {a s:Int} (h:Yh a s=true):0 < Z1 s∧0≤a∧a % Z1 s=0:=by
 simpa [Yh,Bool.and_eq_true,decide_eq_true_eq] using h
theorem Zhj (a s b:Int):W0 a s b=some (Xt a s b):=by
 have hb:=Zgm s
 unfold W0 Xc X4 Xt
 rw[Ww,Option.bind_some,Zin,Option.bind_some,Jz,Option.bind_some,W3,Option.bind_some]
 by_cases h1:Yh a s=true
 ·obtain⟨h2,h3,h4⟩:=Qr h1
  by_cases h5:a < 512
  ·have h6:0≤a∧a≤511:=by omega
   rw[Zk1 (by omega) (by omega),Zgc (by omega) (by omega),Jv (by omega) (by omega),Zew (by omega),Zdm (by omega)]
   by_cases h7:Zo b=0
   ·simp[h1,h5,h6,h7]
   ·by_cases h8:b=2
    ·subst h8
     by_cases h9:(a+Z1 s) % (4*Z1 s)=0<;>simp[h1,h5,h6,h7,h9]
    ·simp[h1,h5,h6,h7,h8]
  ·have h6:¬(0≤a∧a≤511):=by omega
   simp[h1,h5,h6]
 ·simp[h1]
theorem Zhl (a s b:Int):Kq a s b=some (Xt a s b):=by
 have hb:=Zgm s
 unfold Kq Xd Xt
 rw[Zja,Option.bind_some,Zaa,Option.bind_some,Option.bind_some,J5,Option.bind_some]
 by_cases h1:Yh a s=true
 ·obtain⟨h2,h3,h4⟩:=Qr h1
  by_cases h5:a < 512
  ·have h6:¬a≥512:=by omega
   rw[Zk1 (by omega) (by omega),Zgc (by omega) (by omega),Jv (by omega) (by omega),Zew (by omega),Zdm (by omega)]
   by_cases h7:Zo b=0
   ·simp[h1,h5,h6,h7]
   ·by_cases h8:b=2
    ·subst h8
     by_cases h9:(a+Z1 s) % (4*Z1 s)=0<;>simp[h1,h5,h6,h7,h9]
    ·simp[h1,h5,h6,h7,h8]
  ·have h6:a≥512:=by omega
   simp[h1,h5,h6]
 ·simp[h1]
theorem Zj7 {a s b:Int} (h:0≤Xt a s b):Yh a s=true∧a < 512:=by
 unfold Xt at h
 split at h
 ·rename_i h1;exact h1.1
 ·omega
def Yo (s b:Int):Nat→Int→Option (List Int)
 | 0,_=>some []
 | n+1,a=>if Xt a s b < 0 then none else (Yo s b n (Xt a s b)).map (a::·)
def Yi (a s b:Int):List Int:=(Yo s b (Zo b).toNat a).getD []
theorem Ze2 (a s b:Int):W7 a s b=some (Yi a s b):=by
 have hb:=Q6 b
 unfold W7
 rw[J5,Option.bind_some]
 have key:∀(n m:Nat) (x:Int) (out:List Int) (k:Nat),n < m→(k:Int)+n=Zo b→out.length=k→Xi a s b m x out (Zo b) k=some (match Yo s b n x with|some l=>out++l|none=>[]):=by
  intro n
  induction n with
  | zero=>
   intro m x out k hm hk ho
   obtain⟨m,rfl⟩:∃m',m=m'+1:=⟨m - 1,by omega⟩
   show Yq a s b _ x out (Zo b) k=_
   unfold Yq
   rw[if_neg (by simp;omega)]
   simp[Yo]
  | succ n ih=>
   intro m x out k hm hk ho
   obtain⟨m,rfl⟩:∃m',m=m'+1:=⟨m - 1,by omega⟩
   show Yq a s b _ x out (Zo b) k=_
   unfold Yq
   rw[if_pos (by simp;omega),Zhl,Option.bind_some]
   simp only[Yo]
   by_cases h1:Xt x s b < 0
   ·rw[if_pos (by simpa using h1),if_pos h1]
   ·rw[if_neg (by simpa using h1),if_neg h1,Jy (by simp;omega) (by simp;omega),Option.bind_some,Xb (by omega),ih m _ _ (k+1) (by omega) (by omega) (by simp[ho])]
    cases Yo s b n (Xt x s b)<;>simp
 have:=key (Zo b).toNat FU a [] 0 (by have:=X9;omega) (by omega) rfl
 rw[show ((0:Nat):Int)=0 from rfl] at this
 rw[this]
 unfold Yi
 cases Yo s b (Zo b).toNat a<;>simp
theorem Zez (a s b:Int):Qg a s b=some (Yi a s b):=by
 have hb:=Q6 b
 unfold Qg
 have key:∀(n m:Nat) (x:Int) (out:List Int),n < m→(out.length:Int)+n=Zo b→Xm a s b m x out=some (match Yo s b n x with|some l=>out++l|none=>[]):=by
  intro n
  induction n with
  | zero=>
   intro m x out hm hk
   obtain⟨m,rfl⟩:∃m',m=m'+1:=⟨m - 1,by omega⟩
   show Yl a s b _ x out=_
   unfold Yl Y2
   have h1:¬((out.length:Int) < Zo b):=by omega
   simp[W3,h1,Yo]
  | succ n ih=>
   intro m x out hm hk
   obtain⟨m,rfl⟩:∃m',m=m'+1:=⟨m - 1,by omega⟩
   show Yl a s b _ x out=_
   unfold Yl Y2
   have h1:(out.length:Int) < Zo b:=by omega
   simp only[W3,Zhj,Option.bind_some,h1,decide_true,if_true,Yo,decide_eq_true_eq]
   by_cases h2:Xt x s b < 0
   ·have h3:¬(Xt x s b≥0):=by omega
    rw[if_neg h3,if_pos h2]
   ·have h3:Xt x s b≥0:=by omega
    rw[if_pos h3,if_neg h2,Jy (by simp;omega) (by simp;omega),Option.bind_some,ih m _ _ (by omega) (by simp;omega)]
    cases Yo s b n (Xt x s b)<;>simp
 have:=key (Zo b).toNat FU a [] (by have:=X9;omega) (by simp;omega)
 rw[this]
 unfold Yi
 cases Yo s b (Zo b).toNat a<;>simp
theorem Zgz {s b:Int}:∀{n:Nat} {a:Int} {l:List Int},Yo s b n a=some l→l.length=n∧(∀x∈l,Yh x s=true∧x < 512)∧(0 < n→l.head?=some a):=by
 intro n
 induction n with
 | zero=>intro a l h;simp only[Yo,Option.some.injEq] at h;subst h;simp
 | succ n ih=>
  intro a l h
  simp only[Yo] at h
  split at h
  ·cases h
  ·rename_i h1
   obtain⟨l',h2,rfl⟩:=Option.map_eq_some_iff.1 h
   obtain⟨h3,h4,_⟩:=ih h2
   refine⟨by simp[h3],fun x hx=>?_,fun _=>rfl⟩
   rcases List.mem_cons.1 hx with rfl|hx
   ·exact Zj7 (s:=s) (b:=b) (by omega)
   ·exact h4 x hx
theorem Zfo (a s b:Int):Yi a s b=[]∨((Yi a s b).length:Int)=Zo b:=by
 unfold Yi
 have hb:=Q6 b
 cases h:Yo s b (Zo b).toNat a with
 | none=>exact .inl rfl
 | some l=>
  have:=(Zgz h).1
  exact .inr (by simp only[Option.getD_some];omega)
theorem Zes {a s b x:Int} (h:x∈Yi a s b):Yh x s=true∧0≤x∧x < 512:=by
 unfold Yi at h
 cases h2:Yo s b (Zo b).toNat a with
 | none=>rw[h2] at h;simp at h
 | some l=>
  rw[h2] at h
  have:=(Zgz h2).2.1 x h
  exact⟨this.1,(Qr this.1).2.1,this.2⟩
theorem Zgt (a s b:Int):(Yi a s b).length≤8:=by
 have:=Q6 b
 rcases Zfo a s b with h|h
 ·rw[h];simp
 ·omega
def Qk (a s b:Int):Bool:=(Yi a s b).all (fun x=>decide (x / 64=atI (Yi a s b) 0 / 64))&&decide (Yi a s b≠[])
theorem Zdn {x:Int} (h0:0≤x) (h1:x < 512):quoW x 64=x / 64:=Zpk h0 (by omega) (by omega)
theorem Zhu (a s b:Int):Jd a s b=some (Qk a s b):=by
 unfold Jd Qk
 rw[Ze2,Option.bind_some]
 generalize hA:Yi a s b=l
 have hm:∀x∈l,0≤x∧x < 512:=fun x hx=>by rw[←hA] at hx;exact (Zes hx).2
 have hl:l.length≤8:=by rw[←hA];exact Zgt a s b
 have key:∀(m k:Nat),k≤l.length→l.length - k < m→Wm a s b m l (l.length:Int) k=some ((l.drop k).all (fun x=>decide (x / 64=atI l 0 / 64))&&decide (l≠[])):=by
  intro m
  induction m with
  | zero=>intro k _ h;omega
  | succ m ih=>
   intro k hk hm2
   show Q4 a s b _ l (l.length:Int) k=_
   unfold Q4
   by_cases hc:k < l.length
   ·have h0:=hm _ (List.getElem_mem hc)
    have h1:=hm _ (List.getElem_mem (by omega:0 < l.length))
    rw[if_pos (by simpa using hc),Yk hc,Option.bind_some,show (0:Int)=((0:Nat):Int) from rfl,Yk (by omega:0 < l.length),Option.bind_some,Zdn h0.1 h0.2,Zdn h1.1 h1.2,Zfl (by omega:0 < l.length),List.drop_eq_getElem_cons hc,List.all_cons]
    by_cases hq:(l[k]:Int) / (64:Int)=(l[0]:Int) / (64:Int)
    ·rw[if_neg (by simpa using hq),Xb (by omega),ih (k+1) (by omega) (by omega),show (0:Int)=((0:Nat):Int) from rfl,Zfl (by omega:0 < l.length),decide_eq_true hq,Bool.true_and]
    ·rw[if_pos (by simpa using hq),decide_eq_false hq,Bool.false_and,Bool.false_and]
   ·rw[if_neg (by simpa using hc),List.drop_eq_nil_of_le (by omega)]
    simp[List.length_pos_iff]
 have:=key FU 0 (Nat.zero_le _) (by have:=X9;omega)
 simpa using this
theorem Ziz (a s b:Int):K4 a s b=some (Qk a s b):=by
 unfold K4 Qk
 rw[Zez,Option.bind_some]
 generalize hA:Yi a s b=l
 have hm:∀x∈l,0≤x∧x < 512:=fun x hx=>by rw[←hA] at hx;exact (Zes hx).2
 have hl:l.length≤8:=by rw[←hA];exact Zgt a s b
 have key:∀(m k:Nat),k≤l.length→l.length - k < m→Wp a s b m l k=some ((l.drop k).all (fun x=>decide (x / 64=atI l 0 / 64))&&decide (l≠[])):=by
  intro m
  induction m with
  | zero=>intro k _ h;omega
  | succ m ih=>
   intro k hk hm2
   show Qx a s b _ l k=_
   unfold Qx
   by_cases hc:k < l.length
   ·have h0:=hm _ (List.getElem_mem hc)
    have h1:=hm _ (List.getElem_mem (by omega:0 < l.length))
    rw[if_pos (by simpa using hc),Yk hc,Option.bind_some,show (0:Int)=((0:Nat):Int) from rfl,Yk (by omega:0 < l.length),Option.bind_some,Zdn h0.1 h0.2,Zdn h1.1 h1.2,Zfl (by omega:0 < l.length),List.drop_eq_getElem_cons hc,List.all_cons]
    by_cases hq:(l[k]:Int) / (64:Int)=(l[0]:Int) / (64:Int)
    ·rw[if_neg (by simpa using hq),Xb (by omega),ih (k+1) (by omega) (by omega),show (0:Int)=((0:Nat):Int) from rfl,Zfl (by omega:0 < l.length),decide_eq_true hq,Bool.true_and]
    ·rw[if_pos (by simpa using hq),decide_eq_false hq,Bool.false_and,Bool.false_and]
   ·rw[if_neg (by simpa using hc),List.drop_eq_nil_of_le (by omega)]
    simp[List.length_pos_iff]
 have:=key FU 0 (Nat.zero_le _) (by have:=X9;omega)
 simpa using this
def reqG (r:GReq):Bool:=Qk r.addr r.size r.burst&&(decide ((r.data_.length:Int)=if r.write then Zo r.burst else 0)&&r.data_.all fun v=>numG v r.size)
def GReq.sm (r:GReq):Prop:=r.data_.length < 1048577
theorem Zlg (r:GReq) (hs:r.sm):Zas r=some (reqG r):=by
 unfold GReq.sm at hs
 have hf:Zq r.data_ r=some (!r.data_.all fun v=>numG v r.size):=by
  unfold Zq Z5
  refine Znu r.data_ (by omega) (fun v=>Jb v r) (fun v=>numG v r.size) (fun v _=>?_) _ (fun m i=>rfl)
  unfold Jb
  rw[Zlf];rfl
 unfold Zas Qt reqG
 rw[J5,Option.bind_some,Zhu,Option.bind_some,hf,Option.bind_some,Bool.not_not]
 by_cases h1:Qk r.addr r.size r.burst=true
 ·by_cases h2:r.write=true
  ·by_cases h3:(r.data_.length:Int)=Zo r.burst<;>simp[h1,h2,h3]
  ·by_cases h3:r.data_=[]<;>simp[h1,h2,h3]
 ·by_cases h2:r.write=true<;>simp[h1,h2]
theorem Zlo (r:GReq) (hs:r.sm):Za8 r=some (reqG r):=by
 unfold GReq.sm at hs
 unfold Za8
 rw[Ziz,Option.bind_some]
 have hb:=Q6 r.burst
 have key:∀(m k:Nat),k≤r.data_.length→r.data_.length - k < m→Qs r m k=some (decide ((r.data_.length:Int)=if r.write then Zo r.burst else 0)&&(r.data_.drop k).all fun v=>numG v r.size):=by
  intro m
  induction m with
  | zero=>intro k _ h;omega
  | succ m ih=>
   intro k hk hm
   show Ky r _ k=_
   unfold Ky
   by_cases hc:k < r.data_.length
   ·rw[if_pos (by simpa using hc),Yk hc,Option.bind_some,Zc5,Option.bind_some,Zor,Option.bind_some,List.drop_eq_getElem_cons hc,List.all_cons]
    by_cases hq:numG r.data_[k] r.size=true
    ·rw[if_neg (by simp[hq]),Xb (by omega),ih (k+1) (by omega) (by omega)]
     simp[hq]
    ·rw[if_pos (by simp[hq])]
     simp[hq]
   ·rw[if_neg (by simpa using hc),List.drop_eq_nil_of_le (by omega),W3]
    cases h2:r.write<;>simp only[if_true,if_false,Bool.false_eq_true,Option.bind_some,List.all_nil,Bool.and_true]<;>generalize decide ((r.data_.length:Int)=0)=x<;>generalize decide ((r.data_.length:Int)=Zo r.burst)=y<;>cases x<;>cases y<;>rfl
 have:=key FU 0 (Nat.zero_le _) (by have:=X9;omega)
 unfold reqG
 by_cases h1:Qk r.addr r.size r.burst=true
 ·rw[if_neg (by simp[h1]),show (0:Int)=((0:Nat):Int) from rfl,this]
  simp[h1]
 ·rw[if_pos (by simp[h1])]
  simp[h1]
theorem Zg2 {r:GReq} (h:reqG r=true):Qk r.addr r.size r.burst=true∧(r.data_.length:Int)=(if r.write then Zo r.burst else 0)∧∀v∈r.data_,numG v r.size=true:=by
 simp only[reqG,Bool.and_eq_true,decide_eq_true_eq,List.all_eq_true] at h
 exact⟨h.1,h.2.1,h.2.2⟩
theorem Znr {a s b:Int} (h:Qk a s b=true):((Yi a s b).length:Int)=Zo b∧1≤Zo b:=by
 simp only[Qk,Bool.and_eq_true,decide_eq_true_eq] at h
 rcases Zfo a s b with h1|h1
 ·exact absurd h1 h.2
 ·have:0 < (Yi a s b).length:=List.length_pos_iff.2 h.2
  omega
theorem Zg6 {l:List Int} (hl:l.length < 1048577) (h:∀x∈l,InR x):Kx l=some (l.map decB):=by
 unfold Kx
 refine Zf7 (σ:=List ByteArray) (n:=l.length) (by omega) (fun k=>(l.take k).map decB) (B:=fun κ st j=>Qu l κ st j) (L:=fun m st j=>Kr l m st j) (fun m s i=>rfl) (fun k hk κ=>?_) fun κ=>?_
 ·unfold Qu
  have h2:(l.take k).length≤k:=by rw[List.length_take];omega
  rw[if_pos (by simpa using hk),Yk hk,Option.bind_some,Zb8 (h _ (List.getElem_mem hk)),Option.bind_some,Jy (by simp;omega) (by simp;omega),Option.bind_some,List.take_succ_eq_append_getElem hk,List.map_append]
  rfl
 ·unfold Qu
  rw[if_neg (by simp),List.take_length]
def Zs (l:List Int):List UInt8:=l.flatMap fun x=>[32]++Lib.itoa x
theorem Zfr (l:List Int) (x:Int):Zs (l++[x])=Zs l++[32]++Lib.itoa x:=by
 unfold Zs
 rw[List.flatMap_append];simp
theorem Q2:∀{l:List Int},(∀x∈l,InR x)→(Zs l).length≤21*l.length:=by
 intro l
 induction l with
 | nil=>intro _;simp[Zs]
 | cons d l ih=>
  intro h
  have h1:=Zdl (h d List.mem_cons_self)
  have h2:=ih fun x hx=>h x (List.mem_cons_of_mem _ hx)
  have e:Zs (d::l)=([32]++Lib.itoa d)++Zs l:=rfl
  rw[e,List.length_append,List.length_append,List.length_cons]
  simp only[List.length_cons,List.length_nil]
  omega
theorem Zng (w:ByteArray) (l:List Int):Lib.join ((w::l.map decB).map L8) [32]=L8 w++Zs l:=by
 rw[List.map_cons,Lib.join_cons]
 congr 1
 unfold Lib.joinTail Zs
 rw[List.map_map,List.map_map,List.flatMap_def]
 rfl
theorem Zh1 (a:ByteArray) (ws:List ByteArray) (l:List Int):Lib.join (((a::ws)++l.map decB).map L8) [32]=Lib.join ((a::ws).map L8) [32]++Zs l:=by
 rw[List.cons_append,List.map_cons,Lib.join_cons,List.map_cons,Lib.join_cons,List.append_assoc]
 congr 1
 unfold Lib.joinTail Zs
 rw[List.map_append,List.map_append,List.flatten_append]
 congr 1
 rw[List.map_map,List.map_map,List.flatMap_def]
 rfl
def K7 (w:List UInt8) (l:List Int):List UInt8:=if l=[] then [] else w++Zs l++[10]
theorem Zci {w:ByteArray} {l:List Int} (hw:w.size≤100) (hl:l.length < 1048577) (h:∀x∈l,InR x):Wu w l=some ⟨(K7 (L8 w) l).toArray⟩:=by
 unfold Wu K7
 cases l with
 | nil=>rw[if_pos (by simp),if_pos rfl];rfl
 | cons x l=>
  rw[if_neg (by simp;omega),if_neg (by simp),Zg6 hl h]
  have hn:=Q2 h
  have ej:Lib.join (((x::l).map decB).map L8) (L8 (strL [32]))=Lib.itoa x++Zs l:=by
   rw[Z4,List.map_cons,Zng,Xe]
  have en:Zs (x::l)=[32]++(Lib.itoa x++Zs l):=by unfold Zs;simp
  rw[en] at hn ⊢
  have hb:(Lib.itoa x++Zs l).length≤30000000:=by rw[List.length_append] at hn;simp only[List.length_cons,List.length_nil] at hn hl;omega
  rw[Yr (by rw[Zm];simp;omega),Option.bind_some,Option.bind_some,Zgg (by simp only[List.length_map];omega) (by rw[ej];omega),Option.bind_some,ej]
  have z:(⟨(Lib.itoa x++Zs l).toArray⟩:ByteArray).size=(Lib.itoa x++Zs l).length:=by rw[Y4,Ya]
  rw[Yr (by simp only[Z7,Zm,z,List.length_cons,List.length_nil];omega),Option.bind_some,Yr (by simp only[Z7,Zm,z,List.length_cons,List.length_nil];omega),Option.bind_some]
  refine congrArg some (Wa (Eq.trans ?_ (Ya _).symm))
  rw[Z6,Z6,Z6,Z4,Z4,Ya (Lib.itoa x++Zs l)]
  simp
theorem Zc1 {w:ByteArray} {l:List Int} (hw:w.size≤100) (hl:l.length < 1048577) (h:∀x∈l,InR x):Qm w l=some ⟨(K7 (L8 w) l).toArray⟩:=by
 have hn:=Q2 h
 unfold Qm K7
 cases hc:l with
 | nil=>rw[if_pos (by simp),if_pos rfl];rfl
 | cons x r=>
  rw[←hc,if_neg (by rw[hc];simp;omega),if_neg (by rw[hc];simp)]
  clear hc
  have e0:w++(⟨(Zs (l.take 0)).toArray⟩:ByteArray)=w:=Wa (by rw[Z6,Ya (Zs (l.take 0))];simp[Zs])
  have hs:∀k,(⟨(Zs (l.take k)).toArray⟩:ByteArray).size≤30000000:=fun k=>by
   have h1:=Q2 (l:=l.take k) fun x hx=>h x (List.mem_of_mem_take hx)
   have h2:(l.take k).length≤l.length:=by rw[List.length_take];omega
   rw[Y4,Ya];omega
  refine Eq.trans (congrArg (fun v=>Xl w l FU v 0) e0.symm) (Zf7 (σ:=ByteArray) (n:=l.length) (by omega) (fun k=>w++(⟨(Zs (l.take k)).toArray⟩:ByteArray)) (B:=fun κ st j=>X8 w l κ st j) (L:=fun m st j=>Xl w l m st j) (fun m s i=>rfl) (fun k hk κ=>?_) (fun κ=>?_))
  ·have h1:=hs k
   have h2:=W4 (h _ (List.getElem_mem hk))
   unfold X8
   rw[if_pos (by simpa using hk),Yr (by simp only[Z7,Zm,List.length_cons,List.length_nil];omega),Option.bind_some,Yk hk,Option.bind_some,J4 (h _ (List.getElem_mem hk)),Option.bind_some,Yr (by simp only[Z7,Zm,List.length_cons,List.length_nil];omega),Option.bind_some]
   congr 1
   refine Wa ?_
   rw[Z6,Z6,Z6,Z6,Z4,Ya (Zs (l.take k)),Ya (Zs (l.take (k+1))),List.take_succ_eq_append_getElem hk,Zfr,Xe]
   simp
  ·have h1:=hs l.length
   unfold X8
   rw[if_neg (by simp),Yr (by simp only[Z7,Zm,List.length_cons,List.length_nil];omega),Option.bind_some]
   refine congrArg some (Wa (Eq.trans ?_ (Ya _).symm))
   rw[Z6,Z6,Z4,Ya (Zs (l.take l.length)),List.take_length]
def Zb2 (s:Int):ByteArray:=if s=0 then strL [98,121,116,101] else if s=1 then strL [104,97,108,102] else strL [119,111,114,100]
def Zai (b:Int):ByteArray:=if b=0 then strL [111,110,101] else if b=1 then strL [102,111,117,114] else if b=2 then strL [119,114,97,112] else strL [101,105,103,104,116]
theorem Zb1 (x:Int):(Zb2 x).size≤5:=by
 unfold Zb2
 repeat' split
 all_goals (rw[Zm];simp)
theorem Zbi (x:Int):(Zai x).size≤5:=by
 unfold Zai
 repeat' split
 all_goals (rw[Zm];simp)
theorem Zaw {r:GReq} (h:reqG r=true):idx [strL [98,121,116,101],strL [104,97,108,102],strL [119,111,114,100]] r.size=some (Zb2 r.size)∧idx [strL [111,110,101],strL [102,111,117,114],strL [119,114,97,112],strL [101,105,103,104,116]] r.burst=some (Zai r.burst):=by
 have hb:=(Zg2 h).1
 have hl:=Znr hb
 have h2:r.burst=0∨r.burst=1∨r.burst=2∨r.burst=3:=by
  have:=hl.2
  unfold Zo at this
  repeat' split at this
  all_goals omega
 have h1:r.size=0∨r.size=1∨r.size=2:=by
  have hne:Yi r.addr r.size r.burst≠[]:=fun e=>by rw[e] at hl;simp at hl;omega
  have hn:(Zo r.burst).toNat≠0:=by omega
  obtain⟨n,hn'⟩:=Nat.exists_eq_succ_of_ne_zero hn
  have hx:¬Xt r.addr r.size r.burst < 0:=fun e=>hne (by
   unfold Yi
   rw[hn']
   unfold Yo
   rw[if_pos e];rfl)
  have ha:Yh r.addr r.size=true:=by
   unfold Xt at hx
   by_cases hc:(Yh r.addr r.size=true∧r.addr < 512)∧Zo r.burst≠0
   ·exact hc.1.1
   ·rw[if_neg hc] at hx;omega
  have:=(Qr ha).1
  unfold Z1 at this
  repeat' split at this
  all_goals omega
 constructor
 ·rcases h1 with e|e|e<;>rw[e]<;>rfl
 ·rcases h2 with e|e|e|e<;>rw[e]<;>rfl
def Ju (b:Bool):List UInt8:=if b=true then [32,108,111,99,107] else []
def Qp (b:Bool):List UInt8:=if b=true then [119,114,105,116,101] else [114,101,97,100]
def reqT (r:GReq):List UInt8:=Qp r.write++[32]++L8 (Zb2 r.size)++[32]++L8 (Zai r.burst)++[32]++Lib.itoa r.addr++Ju r.lock++Zs r.data_
def GReq.nums (r:GReq):Prop:=InR r.addr∧∀x∈r.data_,InR x
theorem Zgh {r:GReq} (h:reqG r=true):r.data_.length≤8:=by
 have h1:=(Zg2 h).2.1
 have h2:=Q6 r.burst
 split at h1<;>omega
theorem Zbr {r:GReq} (hd:r.data_.length≤8) (hn:∀x∈r.data_,InR x) {v0:ByteArray} (hv:v0.size≤1000):Y5 r FU v0 0=some ⟨(L8 v0++Zs r.data_).toArray⟩:=by
 have e0:v0++(⟨(Zs (r.data_.take 0)).toArray⟩:ByteArray)=v0:=Wa (by rw[Z6,Ya (Zs (r.data_.take 0))];simp[Zs])
 have hs:∀k,(⟨(Zs (r.data_.take k)).toArray⟩:ByteArray).size≤300:=fun k=>by
  have h1:=Q2 (l:=r.data_.take k) fun x hx=>hn x (List.mem_of_mem_take hx)
  have h2:(r.data_.take k).length≤r.data_.length:=by rw[List.length_take];omega
  rw[Y4,Ya];omega
 refine Eq.trans (congrArg (fun v=>Y5 r FU v 0) e0.symm) (Zf7 (σ:=ByteArray) (n:=r.data_.length) (by omega) (fun k=>v0++(⟨(Zs (r.data_.take k)).toArray⟩:ByteArray)) (B:=fun κ st j=>X5 r κ st j) (L:=fun m st j=>Y5 r m st j) (fun m s i=>rfl) (fun k hk κ=>?_) (fun κ=>?_))
 ·have h1:=hs k
  have h2:=W4 (hn _ (List.getElem_mem hk))
  unfold X5
  rw[if_pos (by simpa using hk),Yr (by simp only[Z7,Zm,List.length_cons,List.length_nil];omega),Option.bind_some,Yk hk,Option.bind_some,J4 (hn _ (List.getElem_mem hk)),Option.bind_some,Yr (by simp only[Z7,Zm,List.length_cons,List.length_nil];omega),Option.bind_some]
  congr 1
  refine Wa ?_
  rw[Z6,Z6,Z6,Z6,Z4,Ya (Zs (r.data_.take k)),Ya (Zs (r.data_.take (k+1))),List.take_succ_eq_append_getElem hk,Zfr,Xe]
  simp
 ·unfold X5
  rw[if_neg (by simp)]
  refine congrArg some (Wa (Eq.trans ?_ (Ya _).symm))
  rw[Z6,Ya (Zs (r.data_.take r.data_.length)),List.take_length]
theorem Zhx {r:GReq} (hs:r.sm) (hn:r.nums):K1 r=some (if reqG r=true then ⟨(reqT r).toArray⟩ else ByteArray.empty):=by
 unfold K1
 rw[Zlo r hs,Option.bind_some]
 by_cases h:reqG r=true
 ·rw[if_neg (by simp[h]),if_pos h]
  have z1:=Zb1 r.size
  have z2:=Zbi r.burst
  have z3:=W4 hn.1
  have hd:=Zgh h
  have key:∀(v0:ByteArray),v0.size≤5→L8 v0=Qp r.write→Xn r v0=some ⟨(reqT r).toArray⟩:=fun v0 hv hw=>by
   unfold Xn
   rw[(Zaw h).1,(Zaw h).2,J4 hn.1]
   simp (disch:=(first|omega|(simp only[Z7,Zm,List.length_cons,List.length_nil];omega))) only[Yr,Option.bind_some]
   unfold Wk
   cases hk:r.lock with
   | true=>
    rw[if_pos rfl,Zbr hd hn.2 (by simp only[Z7,Zm,List.length_cons,List.length_nil];omega)]
    refine congrArg some (Wa (Eq.trans (Ya _) (Eq.trans ?_ (Ya _).symm)))
    unfold reqT Ju
    rw[hk,if_pos rfl]
    simp only[Z6,Z4,Xe,hw]
   | false=>
    rw[if_neg (by simp),Zbr hd hn.2 (by simp only[Z7,Zm,List.length_cons,List.length_nil];omega)]
    refine congrArg some (Wa (Eq.trans (Ya _) (Eq.trans ?_ (Ya _).symm)))
    unfold reqT Ju
    rw[hk,if_neg (by simp),List.append_nil]
    simp only[Z6,Z4,Xe,hw]
  cases hw:r.write with
  | true=>rw[if_pos rfl];exact key _ (by rw[Zm];simp) (by rw[hw];rfl)
  | false=>rw[if_neg (by simp)];exact key _ (by rw[Zm];simp) (by rw[hw];rfl)
 ·rw[if_pos (by simp[h]),if_neg h]
theorem Zi2 {r:GReq} (hs:r.sm) (hn:r.nums):K2 r=some (if reqG r=true then ⟨(reqT r).toArray⟩ else ByteArray.empty):=by
 unfold K2
 rw[Zlg r hs,Option.bind_some]
 by_cases h:reqG r=true
 ·rw[if_neg (by simp[h]),if_pos h]
  have z1:=Zb1 r.size
  have z2:=Zbi r.burst
  have z3:=Zdl hn.1
  have hd:=Zgh h
  have z4:=Q2 hn.2
  rw[Y4] at z1 z2
  have hw:Qv r.write=some (strL (Qp r.write)):=by
   unfold Qv Qp
   cases r.write<;>rfl
  have zw:(Qp r.write).length≤5:=by unfold Qp;split<;>simp
  rw[hw,Option.bind_some]
  unfold Jn Kv
  rw[Option.bind_some,(Zaw h).1,Option.bind_some,Option.bind_some,(Zaw h).2,Option.bind_some,Zb8 hn.1,Option.bind_some,Zg6 (by omega) hn.2]
  cases hk:r.lock with
  | true=>
   have ej:Lib.join (([strL (Qp r.write),Zb2 r.size,Zai r.burst,decB r.addr,strL [108,111,99,107]]++r.data_.map decB).map L8) (L8 (strL [32]))=reqT r:=by
    rw[Z4,Zh1]
    unfold reqT Ju
    rw[hk,if_pos rfl]
    congr 1
    simp only[List.map_cons,List.map_nil,Lib.join,List.intercalate,List.intersperse,List.flatten_cons,List.flatten_nil,Z4,Xe]
    simp
   have hl:(reqT r).length≤1000:=by
    unfold reqT Ju
    rw[hk,if_pos rfl]
    simp only[List.length_append,List.length_cons,List.length_nil];omega
   rw[if_pos rfl,Jy (by simp) (by simp),Option.bind_some,Option.bind_some,Jy (by simp;omega) (by simp;omega),Option.bind_some]
   show (Ye ([strL (Qp r.write),Zb2 r.size,Zai r.burst,decB r.addr,strL [108,111,99,107]]++r.data_.map decB) (strL [32])).bind _=_
   rw[Zgg (by simp;omega) (by rw[ej];omega),ej]
   rfl
  | false=>
   have ej:Lib.join (([strL (Qp r.write),Zb2 r.size,Zai r.burst,decB r.addr]++r.data_.map decB).map L8) (L8 (strL [32]))=reqT r:=by
    rw[Z4,Zh1]
    unfold reqT Ju
    rw[hk,if_neg (by simp),List.append_nil]
    congr 1
    simp only[List.map_cons,List.map_nil,Lib.join,List.intercalate,List.intersperse,List.flatten_cons,List.flatten_nil,Z4,Xe]
    simp
   have hl:(reqT r).length≤1000:=by
    unfold reqT Ju
    rw[hk,if_neg (by simp)]
    simp only[List.length_append,List.length_cons,List.length_nil];omega
   rw[if_neg (by simp),Option.bind_some,Jy (by simp;omega) (by simp;omega),Option.bind_some,Zgg (by simp;omega) (by rw[ej];omega),ej]
   rfl
 ·rw[if_pos (by simp[h]),if_neg h]
theorem Zii (a b:ByteArray):(a.toList == b.toList)=decide (L8 a=L8 b):=by
 rw[Lib.toList_data,Lib.toList_data]
 by_cases h:L8 a=L8 b
 ·rw[decide_eq_true h];exact beq_iff_eq.2 h
 ·rw[decide_eq_false h];exact beq_eq_false_iff_ne.2 h
def Zev (p:GPost):List UInt8:=[112,111,115,116,32]++Lib.itoa p.at_++[32]++Lib.itoa p.who++[32]++reqT p.req++[10]
def GPost.nums (p:GPost):Prop:=InR p.at_∧InR p.who∧p.req.nums
theorem Zp8 (r:GReq):reqT r≠[]:=by
 unfold reqT Qp
 split<;>simp
theorem Zle {r:GReq} (h:reqG r=true) (hn:r.nums):(reqT r).length≤300:=by
 have z1:=Zb1 r.size
 have z2:=Zbi r.burst
 have z3:=Zdl hn.1
 have hd:=Zgh h
 have z4:=Q2 hn.2
 rw[Y4] at z1 z2
 have zw:(Qp r.write).length≤5:=by unfold Qp;split<;>simp
 have zl:(Ju r.lock).length≤5:=by unfold Ju;split<;>simp
 unfold reqT
 simp only[List.length_append,List.length_cons,List.length_nil];omega
theorem Zh6 {r:GReq}:((⟨(reqT r).toArray⟩:ByteArray).toList == ByteArray.empty.toList)=false:=by
 rw[Zii,Ya,Zi6]
 simp[Zp8]
theorem Zg9:(ByteArray.empty.toList == ByteArray.empty.toList)=true:=by rw[Zii];simp
def Kd (v0:ByteArray) (ps:List GPost):ByteArray:=if ps.all (fun p=>reqG p.req)=true then ⟨(L8 v0++ps.flatMap Zev).toArray⟩ else ByteArray.empty
theorem Zgy (v0:ByteArray):Kd v0 []=v0:=by
 unfold Kd
 rw[if_pos (by simp)]
 exact Wa (by rw[Ya (L8 v0++([]:List GPost).flatMap Zev)];simp)
theorem Zgo {p:GPost} {ps:List GPost} (h:¬reqG p.req=true) (v0:ByteArray):Kd v0 (p::ps)=ByteArray.empty:=by
 unfold Kd
 rw[if_neg (by simp[h])]
theorem Ze0 {p:GPost} {ps:List GPost} (h:reqG p.req=true) {v0 v1:ByteArray} (hv:L8 v1=L8 v0++Zev p):Kd v0 (p::ps)=Kd v1 ps:=by
 unfold Kd
 rw[hv,List.all_cons,h,Bool.true_and,List.flatMap_cons,List.append_assoc]
theorem Zdq {s:GScript} (hp:s.posts.length < 1048577) (hok:∀p∈s.posts,p.nums∧p.req.sm):∀(m k:Nat) (v0:ByteArray),k≤s.posts.length→s.posts.length - k < m→v0.size≤100000000+1000*k→
  Yw s m v0 (k:Int)=some (Kd v0 (s.posts.drop k)):=by
 intro m
 induction m with
 | zero=>intro k v0 _ h;omega
 | succ m ih=>
  intro k v0 hk hm hv
  show Wh s (Yw s m) v0 (k:Int)=_
  unfold Wh
  by_cases hc:k < s.posts.length
  ·obtain⟨⟨n1,n2,n3⟩,n4⟩:=hok _ (List.getElem_mem hc)
   have z1:=W4 n1
   have z2:=W4 n2
   rw[if_pos (by simpa using hc),Yk hc,Option.bind_some,Zhx n4 n3,Option.bind_some,List.drop_eq_getElem_cons hc]
   by_cases hr:reqG s.posts[k].req=true
   ·have z3:=Zle hr n3
    have z4:(⟨(reqT s.posts[k].req).toArray⟩:ByteArray).size≤300:=by rw[Y4,Ya];exact z3
    rw[if_pos hr,if_neg (by rw[Zh6];simp),J4 n1,J4 n2]
    simp (disch:=(first|omega|(simp only[Z7,Zm,List.length_cons,List.length_nil];omega))) only[Yr,Option.bind_some]
    rw[Xb (by omega),ih (k+1) _ (by omega) (by omega) (by simp only[Z7,Zm,List.length_cons,List.length_nil];omega)]
    refine congrArg some (Ze0 hr ?_).symm
    simp only[Z6,Z4,Xe,Ya (reqT s.posts[k].req)]
    unfold Zev
    simp
   ·rw[if_neg hr,if_pos (by rw[Zg9]),Zgo hr]
  ·rw[if_neg (by simpa using hc),List.drop_eq_nil_of_le (by omega),Zgy]
theorem Zdr {s:GScript} (hp:s.posts.length < 1048577) (hok:∀p∈s.posts,p.nums∧p.req.sm):∀(m k:Nat) (v0:ByteArray),k≤s.posts.length→s.posts.length - k < m→v0.size≤100000000+1000*k→
  Y1 s m v0 (k:Int)=some (Kd v0 (s.posts.drop k)):=by
 intro m
 induction m with
 | zero=>intro k v0 _ h;omega
 | succ m ih=>
  intro k v0 hk hm hv
  show Wi s (Y1 s m) v0 (k:Int)=_
  unfold Wi
  by_cases hc:k < s.posts.length
  ·obtain⟨⟨n1,n2,n3⟩,n4⟩:=hok _ (List.getElem_mem hc)
   have z1:=W4 n1
   have z2:=W4 n2
   rw[if_pos (by simpa using hc),Yk hc,Option.bind_some,Zi2 n4 n3,Option.bind_some,List.drop_eq_getElem_cons hc]
   by_cases hr:reqG s.posts[k].req=true
   ·have z3:=Zle hr n3
    have z4:(⟨(reqT s.posts[k].req).toArray⟩:ByteArray).size≤300:=by rw[Y4,Ya];exact z3
    rw[if_pos hr,if_neg (by rw[Zh6];simp),Zb8 n1,Zb8 n2]
    simp (disch:=(first|omega|(simp only[Z7,Zm,List.length_cons,List.length_nil];omega))) only[Yr,Option.bind_some]
    rw[Xb (by omega),ih (k+1) _ (by omega) (by omega) (by simp only[Z7,Zm,List.length_cons,List.length_nil];omega)]
    refine congrArg some (Ze0 hr ?_).symm
    simp only[Z6,Z4,Xe,Ya (reqT s.posts[k].req)]
    unfold Zev
    simp
   ·rw[if_neg hr,if_pos (by rw[Zg9]),Zgo hr]
  ·rw[if_neg (by simpa using hc),List.drop_eq_nil_of_le (by omega),Zgy]
structure ScrN (s:GScript):Prop where
 few:s.posts.length < 1048577
 waits:s.waits.length < 1048577
 says:s.says.length < 1048577
 posts:∀p∈s.posts,p.nums∧p.req.sm
 wn:∀x∈s.waits,InR x
 sn:∀x∈s.says,InR x
def Zdi (s:GScript):ByteArray:=⟨(K7 [119,97,105,116,115] s.waits).toArray⟩++⟨(K7 [115,97,121,115] s.says).toArray⟩
theorem Ziw {w:List UInt8} (hw:w.length≤10) {l:List Int} (hl:l.length < 1048577) (h:∀x∈l,InR x):(K7 w l).length≤30000000:=by
 have:=Q2 h
 unfold K7
 split
 ·simp
 ·simp only[List.length_append,List.length_cons,List.length_nil];omega
theorem Zd4 {s:GScript} (h:ScrN s):(⟨(K7 [119,97,105,116,115] s.waits).toArray⟩:ByteArray).size≤30000000∧(⟨(K7 [115,97,121,115] s.says).toArray⟩:ByteArray).size≤30000000:=by
 rw[Y4,Y4,Ya,Ya]
 exact⟨Ziw (by simp) h.waits h.wn,Ziw (by simp) h.says h.sn⟩
theorem Zer {s:GScript} (h:ScrN s):Qc s=some (Kd (Zdi s) s.posts):=by
 have ⟨z1,z2⟩:=Zd4 h
 unfold Qc
 rw[Zc1 (by rw[Zm];simp) h.waits h.wn,Option.bind_some,Zc1 (by rw[Zm];simp) h.says h.sn,Option.bind_some,Z4,Z4,Yr (by omega),Option.bind_some]
 have:=Zdq h.few h.posts FU 0 (Zdi s) (Nat.zero_le _) (by have:=X9;have:=h.few;omega) (by unfold Zdi;rw[Z7];omega)
 exact this
theorem Zeu {s:GScript} (h:ScrN s):Qf s=some (Kd (Zdi s) s.posts):=by
 have ⟨z1,z2⟩:=Zd4 h
 unfold Qf
 rw[Zci (by rw[Zm];simp) h.waits h.wn,Option.bind_some,Zci (by rw[Zm];simp) h.says h.sn,Option.bind_some,Z4,Z4,Yr (by omega),Option.bind_some]
 have:=Zdr h.few h.posts FU 0 (Zdi s) (Nat.zero_le _) (by have:=X9;have:=h.few;omega) (by unfold Zdi;rw[Z7];omega)
 exact this
theorem Zh7 {α:Type} [DecidableEq α] (xs ys:List α) (hl:xs.length < 4611686018427387904) (e:α→α→Option (Option Bool)) (L:Nat→Int→Option Bool)
  (hL:∀m i,L (m+1) i=if decide (i < (xs.length:Int))=true then (idx xs i).bind fun a=>(idx ys i).bind fun b=>(e a b).bind (Zdo (L m (addW i 1))) else some true)
  (he:∀a b,a∈xs→b∈ys→e a b=some (if a=b then none else some false)):
  (if decide ((xs.length:Int)≠(ys.length:Int))=true then some false else L FU 0)=some (decide (xs=ys)):=by
 by_cases hxy:xs.length=ys.length
 ·have h1:¬decide ((xs.length:Int)≠(ys.length:Int))=true:=by simp[hxy]
  rw[if_neg h1]
  have:=Zod xs ys hl hxy e true L hL (fun a b=>decide (a=b)) false (fun a b ha hb=>by rw[he a b ha hb];by_cases h:a=b<;>simp[h]) FU 0 (Nat.zero_le _) (by have:=X9;omega)
  simp only[List.drop_zero] at this
  rw[Zlx hxy] at this
  rw[show ((0:Nat):Int)=0 from rfl] at this
  rw[this]
  by_cases h:xs=ys<;>simp[h]
 ·have h1:decide ((xs.length:Int)≠(ys.length:Int))=true:=by simp;omega
  rw[if_pos h1]
  have:xs≠ys:=fun h=>hxy (by rw[h])
  simp[this]
def Yg (left:Int) (n:Nat):Int:=if left < (n:Int) then -1 else left - n
theorem Zqb {n:Nat} {left:Int} (h0:0≤left) (h1:left≤1048576) (hn:n≤9223372036854775807):(if decide ((subW left (n:Int)) < 0)=true then some (-1) else some (subW left (n:Int)))=some (Yg left n):=by
 rw[Jv (by omega) (by omega)]
 unfold Yg
 by_cases h:left < (n:Int)
 ·rw[if_pos (by simpa using (by omega:left - (n:Int) < 0)),if_pos h]
 ·rw[if_neg (by simpa using (by omega:¬(left - (n:Int) < 0))),if_neg h]
theorem Q5 {left:Int} {n:Nat} (h0:0≤left):(Yg left n < 0)↔left < (n:Int):=by unfold Yg;split<;>omega
theorem Zco (xs:List Int) {left:Int} (h0:0≤left) (h1:left≤1048576) (hn:xs.length≤9223372036854775807):Qh xs left=some (Yg left xs.length):=by
 unfold Qh;exact Zqb h0 h1 hn
theorem Zda (xs ys:List Int) (hl:xs.length < 4611686018427387904):W8 xs ys=some (decide (xs=ys)):=by
 unfold W8
 refine Zh7 xs ys hl (fun a b=>if decide (a≠b)=true then some (some false) else some none) (W6 xs ys) (fun m i=>?_) (fun a b _ _=>?_)
 ·show Kf xs ys _ i=_
  unfold Kf
  congr 1;congr 1;funext a;congr 1;funext b
  by_cases h:a=b<;>simp[h,Zdo]
 ·by_cases h:a=b<;>simp[h]
theorem Zct (xs:List Int) (hl:xs.length < 1048577):Qd xs=some xs:=by
 unfold Qd
 rw[Zmm (by omega) (by omega),Option.bind_some]
 have:=Zh9 xs id (by omega) some (fun a _=>rfl) (Qi xs) (fun m v i=>rfl) (List.replicate xs.length 0) (by simp)
 simpa using this
def GPost.tot (p:GPost):Nat:=p.req.data_.length
def Yj (l:List GPost):Nat:=l.length+(l.map GPost.tot).sum
def GScript.tot (s:GScript):Nat:=Yj s.posts+s.waits.length+s.says.length
theorem Zem {left:Int} {n:Nat} (h0:0≤left):(if decide (Yg left n < 0)=true then some (-1) else some (Yg left n))=some (Yg left n):=by
 by_cases h:Yg left n < 0
 ·rw[if_pos (by simpa using h)]
  unfold Yg at h ⊢
  split at h
  ·rename_i hh;rw[if_pos hh]
  ·omega
 ·rw[if_neg (by simpa using h)]
theorem Zoo (r:GReq) {left:Int} (h0:0≤left) (h1:left≤1048576) (hn:r.data_.length≤9223372036854775807):Zat r left=some (Yg left r.data_.length):=by
 unfold Zat
 rw[Zco _ h0 h1 hn,Option.bind_some,Zem h0]
theorem Zns (p:GPost) {left:Int} (h0:0≤left) (h1:left≤1048576) (hn:p.tot≤9223372036854775807):X6 p left=some (Yg left p.tot):=by
 unfold X6
 rw[Zoo _ h0 h1 hn,Option.bind_some,Zem h0]
 rfl
theorem Zay {left:Int} {n:Nat} (h:left < (n:Int)):Yg left n=-1:=by unfold Yg;rw[if_pos h]
theorem Zee {left:Int} {n:Nat} (h:¬left < (n:Int)):Yg left n=left - n:=by unfold Yg;rw[if_neg h]
theorem Zl1 (l:List GPost) {left:Int} (h0:0≤left) (h1:left≤1048576) (hl:l.length≤9223372036854775807) (hn:∀p∈l,p.tot≤9223372036854775807):K9 l left=some (Yg left (Yj l)):=by
 unfold K9
 rw[Jv (by omega) (by omega)]
 by_cases hc:left < (l.length:Int)
 ·rw[if_pos (by simpa using (by omega:left - (l.length:Int) < 0)),Zay (by unfold Yj;omega)]
 ·rw[if_neg (by simpa using (by omega:¬(left - (l.length:Int) < 0)))]
  have hs:l.length < 4611686018427387904:=by omega
  have key:=Zo4 l hs (fun p s=>(X6 p s).bind fun r=>if decide (r < 0)=true then some (.inr (-1)) else some (.inl r)) (fun s=>some s) (Wo l left) (fun m s i=>by
   show Q1 l left _ s i=_
   unfold Q1
   congr 1;congr 1;funext a
   cases hp:X6 a s with
   | none=>rfl
   | some r=>
    simp only[Option.bind_some]
    by_cases hr:r < 0<;>simp[hr,goL]) (left - l.length)
  rw[key]
  have run:∀(xs:List GPost) (s:Int),0≤s→s≤1048576→(∀p∈xs,p.tot≤9223372036854775807)→runL (fun p s=>(X6 p s).bind fun r=>if decide (r < 0)=true then some (.inr (-1)) else some (.inl r)) (fun s=>some s) xs s=some (Yg s (xs.map GPost.tot).sum):=by
   intro xs
   induction xs with
   | nil=>intro s hs0 _ _;simp[runL,Yg];omega
   | cons p xs ih=>
    intro s hs0 hs1 hp
    simp only[runL,Zns p hs0 hs1 (hp p List.mem_cons_self),Option.bind_some,List.map_cons,List.sum_cons]
    by_cases hr:s < (p.tot:Int)
    ·rw[if_pos (by simpa using (Q5 hs0).2 hr),Zay (by omega)]
     rfl
    ·rw[if_neg (by simpa using fun h=>hr ((Q5 hs0).1 h)),Zee hr]
     simp only[Option.bind_some]
     rw[ih _ (by omega) (by omega) (fun q hq=>hp q (List.mem_cons_of_mem _ hq))]
     unfold Yg
     by_cases h3:s - (p.tot:Int) < ((xs.map GPost.tot).sum:Nat)
     ·rw[if_pos h3,if_pos (by omega)]
     ·rw[if_neg h3,if_neg (by omega)]
      simp only[Option.some.injEq];omega
  rw[run l _ (by omega) (by omega) hn]
  unfold Yg Yj
  by_cases h3:left - (l.length:Int) < ((l.map GPost.tot).sum:Nat)
  ·rw[if_pos h3,if_pos (by omega)]
  ·rw[if_neg h3,if_neg (by omega)]
   simp only[Option.some.injEq];omega
theorem Zkd (s:GScript) {left:Int} (h0:0≤left) (h1:left≤1048576) (hok:s.posts.length≤9223372036854775807∧(∀p∈s.posts,p.tot≤9223372036854775807)∧s.waits.length≤9223372036854775807∧s.says.length≤9223372036854775807):
  Kc s left=some (Yg left s.tot):=by
 unfold Kc
 rw[Zl1 _ h0 h1 hok.1 hok.2.1,Option.bind_some]
 unfold GScript.tot
 by_cases hc:left < (Yj s.posts:Int)
 ·rw[if_pos (by simpa using (Q5 h0).2 hc),Zay (by omega)]
 ·rw[if_neg (by simpa using fun h=>hc ((Q5 h0).1 h)),Zee hc,Zco _ (by omega) (by omega) hok.2.2.1,Option.bind_some]
  by_cases hc2:left - (Yj s.posts:Int) < (s.waits.length:Int)
  ·rw[if_pos (by simpa using (Q5 (by omega)).2 hc2),Zay (by omega)]
  ·rw[if_neg (by simpa using fun h=>hc2 ((Q5 (by omega)).1 h)),Zee hc2,Zco _ (by omega) (by omega) hok.2.2.2,Option.bind_some,Zem (by omega)]
   unfold Yg
   by_cases h3:left - (Yj s.posts:Int) - (s.waits.length:Int) < (s.says.length:Int)
   ·rw[if_pos h3,if_pos (by omega)]
   ·rw[if_neg h3,if_neg (by omega)]
    simp only[Option.some.injEq];omega
theorem Zky {l:List GPost} {p:GPost} (h:p∈l):p.tot≤Yj l:=by
 unfold Yj
 have:p.tot≤(l.map GPost.tot).sum:=by
  induction l with
  | nil=>simp at h
  | cons q l ih=>
   simp only[List.map_cons,List.sum_cons]
   rcases List.mem_cons.1 h with rfl|h
   ·omega
   ·have:=ih h;omega
 omega
theorem Zo6 (r:GReq) (h:r.data_.length < 1048577):Za6 r=some r:=by
 unfold Za6
 rw[Zct _ h];rfl
theorem Znc (p:GPost) (h:p.tot < 1048577):Kb p=some p:=by
 unfold Kb
 rw[Zo6 _ h];rfl
theorem Zlp (l:List GPost) (h:Yj l < 1048577):Ja l=some l:=by
 have hl:l.length < 1048577:=by unfold Yj at h;omega
 unfold Ja
 rw[Zmm (by omega) (by omega),Option.bind_some]
 have:=Zh9 l id (by omega) Kb (fun a ha=>Znc a (by have:=Zky ha;omega)) (Wl l) (fun m v i=>rfl) (List.replicate l.length (GPost.mk 0 0 (GReq.mk false 0 0 0 false []))) (by simp)
 simpa using this
theorem Zkl (s:GScript) (h:s.tot < 1048577):Xw s=some s:=by
 unfold GScript.tot at h
 unfold Xw
 rw[Zlp _ (by omega),Option.bind_some,Zct _ (by omega),Option.bind_some,Zct _ (by omega)];rfl
theorem Zog (a b:GReq) (h:a.data_.length < 4611686018427387904):Za5 a b=some (decide (a=b)):=by
 obtain⟨a1,a2,a3,a4,a5,a6⟩:=a
 obtain⟨b1,b2,b3,b4,b5,b6⟩:=b
 unfold Za5
 simp only[Zda _ _ h,Option.bind_some,GReq.mk.injEq,decide_eq_true_eq,ne_eq,bne_iff_ne]
 by_cases h1:a1=b1<;>simp[h1]
 by_cases h2:a2=b2<;>simp[h2]
 by_cases h3:a3=b3<;>simp[h3]
 by_cases h4:a4=b4<;>simp[h4]
 by_cases h5:a5=b5<;>simp[h5]
 by_cases h6:a6=b6<;>simp[h6]
theorem Znw (a b:GPost) (h:a.tot < 4611686018427387904):W9 a b=some (decide (a=b)):=by
 obtain⟨a1,a2,a3⟩:=a
 obtain⟨b1,b2,b3⟩:=b
 unfold W9
 simp only[Zog _ _ h,Option.bind_some,GPost.mk.injEq,decide_eq_true_eq,ne_eq]
 by_cases h1:a1=b1<;>simp[h1]
 by_cases h2:a2=b2<;>simp[h2]
 by_cases h3:a3=b3<;>simp[h3]
theorem Zln (xs ys:List GPost) (h:Yj xs < 4611686018427387904):Je xs ys=some (decide (xs=ys)):=by
 unfold Je
 refine Zh7 xs ys (by unfold Yj at h;omega) (fun a b=>(W9 a b).bind fun r=>if (!r)=true then some (some false) else some none) (Wr xs ys) (fun m i=>?_) (fun a b ha _=>?_)
 ·show Qw xs ys _ i=_
  unfold Qw
  congr 1;congr 1;funext a;congr 1;funext b
  cases hp:W9 a b with
  | none=>rfl
  | some r=>cases r<;>simp[Zdo]
 ·rw[Znw a b (by have:=Zky ha;omega)]
  by_cases h:a=b<;>simp[h]
theorem Zjl (a b:GScript) (h:a.tot < 4611686018427387904):Ka a b=some (decide (a=b)):=by
 unfold GScript.tot at h
 obtain⟨a1,a2,a3⟩:=a
 obtain⟨b1,b2,b3⟩:=b
 unfold Ka
 simp only at h
 simp only[Zln a1 b1 (by omega),Zda a2 b2 (by omega),Zda a3 b3 (by omega),Option.bind_some,GScript.mk.injEq]
 by_cases h1:a1=b1<;>simp[h1]
 by_cases h2:a2=b2<;>simp[h2]
 by_cases h3:a3=b3<;>simp[h3]
end Go.Proofs.YtgmmcfpabnoekaaDoor.Ev
namespace Go.Proofs.YtgmmcfpabnoekaaDoor.Ev
open Go Go.Proofs
set_option linter.unusedVariables false
theorem Zo7 {r:GReq} (h:r.ok):r.nums:=⟨Zbl h.2.1,fun x hx=>Zbl (h.2.2.2.2.2.2 x hx)⟩
theorem Zmq {p:GPost} (h:p.ok):p.nums:=⟨Zbl h.1,Zbl h.2.1,Zo7 h.2.2⟩
theorem sum_ge {l:List Nat} {x:Nat} (h:x∈l):x≤l.sum:=by
 induction l with
 | nil=>simp at h
 | cons a l ih=>
  rw[List.sum_cons]
  rcases List.mem_cons.1 h with rfl|h
  ·omega
  ·have:=ih h;omega
theorem scr_n {s:GScript} (h:s.ok) (ht:s.tot < 1048577):ScrN s:=by
 obtain⟨⟨h1,h2⟩,⟨h3,h4⟩,h5,h6⟩:=h
 unfold GScript.tot Yj at ht
 refine⟨by omega,by omega,by omega,fun p hp=>⟨Zmq (h2 p hp),?_⟩,fun x hx=>Zbl (h4 x hx),fun x hx=>Zbl (h6 x hx)⟩
 have:=sum_ge (List.mem_map_of_mem (f:=GPost.tot) hp)
 unfold GReq.sm
 unfold GPost.tot at this
 unfold GPost.tot at ht
 omega
theorem Zap (s:GScript) (h:s.ok):Xv s=some true:=by
 have hm:maxLen=9223372036854775807:=rfl
 unfold Xv
 rw[Zkd s (by omega) (by omega) ⟨by rw[←hm];exact h.1.1,fun p hp=>by rw[←hm];exact (h.1.2 p hp).2.2.2.2.2.2.2.1,by rw[←hm];exact h.2.1.1,by rw[←hm];exact h.2.2.1⟩,Option.bind_some]
 unfold Yg
 by_cases hc:(1048576:Int) < (s.tot:Int)
 ·rw[if_pos hc];rfl
 ·have ht:s.tot < 1048577:=by omega
  have hn:=scr_n h ht
  rw[if_neg hc,if_neg (by simp;omega),Zkl s ht,Option.bind_some,Zer hn,Option.bind_some,Option.bind_some,Zeu hn,Option.bind_some,if_neg (by simp),Option.bind_some,Zjl s s (by omega)]
  simp
end Go.Proofs.YtgmmcfpabnoekaaDoor.Ev
