/- A part of the proof of FnExactDesk: see the text YthdljdelfgofdaaGreatDoorLawFnExactDesk for what is proved and its conditions. Conditions here: those in each line. -/
import Derived.Test.YthdljdelfgofdaaGreatDoorA7
import Derived.Lib.AtoiAllCases
import Derived.Lib.IndexBytes
import Derived.Lib.IndexLaws
import Derived.Lib.SplitLaws
set_option linter.unusedSimpArgs false
set_option linter.unusedVariables false
set_option linter.unusedSectionVars false
namespace Go.Proofs.YthdljdelfgofdaaGreatDoor.Ev
open Go Go.Proofs
theorem RL {n:Int} (h1:-9223372036854775808<=n) (h2:n < 9223372036854775808):IntKind.i64.wrap n=n:=Y5j h1 h2
theorem Yl {a b:Int} (h1:-9223372036854775808<=a+b) (h2:a+b < 9223372036854775808):Zo a b=a+b:=RL h1 h2
theorem Xb {a b:Int} (h1:-9223372036854775808<=a - b) (h2:a - b < 9223372036854775808):Xd a b=a - b:=RL h1 h2
theorem EN {a b:Int} (h1:-9223372036854775808<=a*b) (h2:a*b < 9223372036854775808):Ky a b=a*b:=RL h1 h2
theorem Yf {k:Nat} (h:k < 4611686018427387904):Zo (k:Int) 1=((k+1:Nat):Int):=by rw[Yl (by omega) (by omega)];rfl
section
variable {α β σ U:Type}
theorem Zy {xs:List α} {k:Nat} (h:k < xs.length):idx xs (k:Int)=some xs[k]:=by
 simp[idx,h]
theorem Y5:4611686018427387904 < FU:=by decide
def MG (step:α->σ->Option (σ ⊕ U)) (fin:σ->Option U):List α->σ->Option U
 | [],s=>fin s
 | a::l,s=>(step a s).bind λr=>match r with|.inl s'=>MG step fin l s'|.inr x=>some x
def b9 (k:σ->Option U):σ ⊕ U->Option U
 | .inl s=>k s
 | .inr x=>some x
theorem Y5b (xs:List α) (hl:xs.length < 4611686018427387904) (step:α->σ->Option (σ ⊕ U)) (fin:σ->Option U) (L:Nat->σ->Int->Option U)
  (hL:∀m s i,L (m+1) s i=if decide (i < (xs.length:Int))=true then (idx xs i).bind λa=>(step a s).bind (b9 λs'=>L m s' (Zo i 1)) else fin s):
  ∀(m k:Nat) (s:σ),k<=xs.length->xs.length - k < m->L m s k=MG step fin (xs.drop k) s:=by
 intro m
 induction m with
 | zero=>intro k s _ h;omega
 | succ m ih=>
  intro k s hk hm;rw[hL];by_cases hc:k < xs.length
  .have h1:decide ((k:Int) < (xs.length:Int))=true:=by simpa using hc
   rw[Ah h1,Zy hc,Ag,D5 hc];simp only[MG]
   congr 1
   funext r
   cases r with
   | inl s'=>
    simp only[b9];rw[Yf (by omega)];exact ih (k+1) s' (by omega) (by omega)
   | inr x=>rfl
  .have h1:¬decide ((k:Int) < (xs.length:Int))=true:=by simpa using hc
   rw[Ai h1,EX (by omega)];rfl
theorem qZ (xs:List α) (hl:xs.length < 4611686018427387904) (step:α->σ->Option (σ ⊕ U)) (fin:σ->Option U) (L:Nat->σ->Int->Option U)
  (hL:∀m s i,L (m+1) s i=if decide (i < (xs.length:Int))=true then (idx xs i).bind λa=>(step a s).bind (b9 λs'=>L m s' (Zo i 1)) else fin s) (s:σ):
  L FU s 0=MG step fin xs s:=by
 have:=Y5b xs hl step fin L hL FU 0 s (Cd _) (by have:=Y5;omega);simpa using this
theorem Yp6 (step:α->σ->Option (σ ⊕ U)) (fin:σ->Option U) (f:σ->α->σ) (I:List α->σ->Prop) (h:∀a l s,I (a::l) s->step a s=some (.inl (f s a))/\I l (f s a)):∀(xs:List α) (s:σ),I xs s->MG step fin xs s=fin (xs.foldl f s):=by
 intro xs
 induction xs with
 | nil=>intro s _;rfl
 | cons a l ih=>
  intro s hi;obtain⟨h1,h2⟩:=h a l s hi;simp only[MG,h1,Ag,H2];exact ih _ h2
theorem Yug {sz n:Nat} {z:α} (h1:n*sz<=70368744177664) (h2:n<=9223372036854775807):Hj sz (n:Int) z=some (List.replicate n z):=by
 simp[Hj,h1,h2]
theorem Yp {sz:Nat} {xs ys:List α} (h1:(xs.length+ys.length)*sz<=140737488355328) (h2:xs.length+ys.length<=9223372036854775807):Y4 sz xs ys=some (xs++ys):=by
 unfold Y4;rw[Ah ⟨h1,h2⟩]
end
section
variable {α:Type}
theorem Qg (xs:List α) (i:Int) (a:α):Jz xs i a=some (xs.set i.toNat a):=rfl
def Ak [Inhabited α] (xs:List α) (i:Int):α:=xs.getD i.toNat default
theorem W7 [Inhabited α] {xs:List α} {k:Nat} (h:k < xs.length):Ak xs (k:Int)=xs[k]:=by
 simp[Ak,h]
theorem Xm [Inhabited α] {xs:List α} {i:Int} (h0:0<=i) (h1:i < (xs.length:Int)):idx xs i=some (Ak xs i):=by
 obtain⟨k,rfl⟩:∃k:Nat,i=k:=⟨i.toNat,by omega⟩;have hk:k < xs.length:=by omega
 rw[Zy hk,W7 hk]
theorem Gj [Inhabited α] {xs:List α} {i:Int} (h0:0<=i) (h1:i < (xs.length:Int)):Ak xs i∈xs:=by
 obtain⟨k,rfl⟩:∃k:Nat,i=k:=⟨i.toNat,by omega⟩;have hk:k < xs.length:=by omega
 rw[W7 hk];exact B6 hk
theorem cA [Inhabited α] {xs:List α} {i:Int} (a:α) (h0:0<=i) (h1:i < (xs.length:Int)):Ak (xs.set i.toNat a) i=a:=by
 obtain⟨k,rfl⟩:∃k:Nat,i=k:=⟨i.toNat,by omega⟩;have hk:k < xs.length:=by omega
 rw[W7 (by simpa using hk)];simp
theorem Yp4 [Inhabited α] {xs:List α} {i j:Int} (a:α) (h0:0<=i) (h1:0<=j) (hn:i≠j):Ak (xs.set i.toNat a) j=Ak xs j:=by
 unfold Ak;rw[OR,OR,List.getElem?_set_ne (by omega)]
theorem O1 {n:Int} (h:n≠0):GF n=some ():=by unfold GF;rw[Ai h]
theorem Y5p {n:Int} (h:0<=n):KR n=some ():=by unfold KR;rw[Ah h]
theorem Hn {a n:Int} (h0:0<=a):Dd a n=a % n:=by unfold Dd;rw[Int.tmod_eq_emod_of_nonneg h0]
theorem q6 {a n:Int} (h0:0<=a) (h1:a < 9223372036854775808) (hn:1<=n):Ft a n=a / n:=by
 unfold Ft;rw[Int.tdiv_eq_ediv_of_nonneg h0];have h2:0<=a / n:=Int.ediv_nonneg h0 (by omega);have h3:a / n<=a:=Int.ediv_le_self n h0;exact RL (by omega) (by omega)
theorem Z86 (xs:List α) (hl:xs.length < 4611686018427387904) (f:α->Option Bool) (q:α->Bool) (hf:∀a∈xs,f a=some (!q a)) (L:Nat->Int->Option Int)
  (hL:∀m i,L (m+1) i=if decide (i < (xs.length:Int))=true then (idx xs i).bind λa=>(f a).bind λr=>if r=true then some i else L m (Zo i 1) else some (-1)):
  (xs.all q=true/\L FU 0=some (-1))\/∃k:Nat,∃h:k < xs.length,L FU 0=some (k:Int)/\q xs[k]=false/\(xs.take k).all q=true:=by
 have key:∀(m k:Nat),k<=xs.length->xs.length - k < m->(xs.take k).all q=true->(xs.all q=true/\L m k=some (-1))\/∃j:Nat,∃h:j < xs.length,L m k=some (j:Int)/\q xs[j]=false/\(xs.take j).all q=true:=by
  intro m
  induction m with
  | zero=>intro k _ h;omega
  | succ m ih=>
   intro k hk hm ht;rw[hL];by_cases hc:k < xs.length
   .have h1:decide ((k:Int) < (xs.length:Int))=true:=by simpa using hc
    rw[Ah h1,Zy hc,Ag,hf _ (B6 hc),Ag];by_cases hq:q xs[k]=true
    .have h2:¬(!q xs[k])=true:=by simp[hq]
     rw[Ai h2,Yf (by omega)];refine ih (k+1) (by omega) (by omega) ?_;rw[List.take_succ_eq_append_getElem hc,List.all_append,ht];simp[hq]
    .have h2:(!q xs[k])=true:=by simpa using hq
     rw[Ah h2];exact .inr ⟨k,hc,rfl,by simpa using hq,ht⟩
   .have h1:¬decide ((k:Int) < (xs.length:Int))=true:=by simpa using hc
    rw[Ai h1];rw[D6 (by omega)] at ht;exact .inl ⟨ht,rfl⟩
 exact key FU 0 (Cd _) (by have:=Y5;omega) (by simp)
theorem q7 (xs:List α) (hl:xs.length < 4611686018427387904) (f:α->Option Bool) (q:α->Bool) (hf:∀a∈xs,f a=some (!q a)) (L:Nat->Int->Option Int)
  (hL:∀m i,L (m+1) i=if decide (i < (xs.length:Int))=true then (idx xs i).bind λa=>(f a).bind λr=>if r=true then some i else L m (Zo i 1) else some (-1)):
  ((L FU 0).bind λr=>some (decide (r≥0)))=some (!xs.all q):=by
 rcases Z86 xs hl f q hf L hL with⟨h1,h2⟩|⟨k,hk,h1,h2,h3⟩
 .rw[h2,h1];rfl
 .rw[h1,Ag]
  have:xs.all q=false:=by
   rw[List.all_eq_false];exact⟨xs[k],B6 hk,by simp[h2]⟩
  rw[this];have h4:((k:Nat):Int)≥0:=by omega
  simp[h4]
theorem Yzt (xs:List α) (z:α) (hl:xs.length < 4611686018427387904) (f:α->Option Bool) (q:α->Bool) (hf:∀a∈xs,f a=some (!q a)) (I:Nat->Int->Option Int)
  (hI:∀m i,I (m+1) i=if decide (i < (xs.length:Int))=true then (idx xs i).bind λa=>(f a).bind λr=>if r=true then some i else I m (Zo i 1) else some (-1))
  (L:Nat->List α->Int->Int->Option (List α))
  (hL:∀m v i j,L (m+1) v i j=if decide (j < (v.length:Int))=true then (idx v j).bind λa=>(f a).bind λr=>if (!r)=true then (idx v i).bind λ_=>(Jz v i a).bind λy=>L m y (Zo i 1) (Zo j 1) else L m v i (Zo j 1)
   else (Ys v i (v.length:Int)).bind λ_=>(KQ z v i (v.length:Int)).bind λy=>(Ys y 0 i).bind λs=>some s):
  ((I FU 0).bind λr=>if decide (r=(-1))=true then some xs else L FU xs r (Zo r 1))=some (xs.filter q):=by
 have key:∀(m i j:Nat) (v:List α),i<=j->j<=xs.length->xs.length - j < m->v.length=xs.length->v.take i=(xs.take j).filter q->v.drop j=xs.drop j->L m v i j=some (xs.filter q):=by
  intro m
  induction m with
  | zero=>intro i j v _ _ h;omega
  | succ m ih=>
   intro i j v hij hj hm hv ht hd;rw[hL];by_cases hc:j < v.length
   .have LU:j < xs.length:=by omega
    have h1:decide ((j:Int) < (v.length:Int))=true:=by simpa using hc
    have e:v[j]=xs[j]:=by
     have:=congrArg List.head? hd;simpa [List.head?_drop,hc,LU] using this
    have GJ:v.drop (j+1)=xs.drop (j+1):=by
     have:=congrArg (List.drop 1) hd;simpa [List.drop_drop] using this
    rw[Ah h1,Zy hc,Ag,e,hf _ (B6 LU),Ag,tL];by_cases hq:q xs[j]=true
    .rw[Ah hq,Zy (by omega:i < v.length),Ag]
     simp only[Jz,Ag];rw[Yf (by omega),Yf (by omega)];refine ih (i+1) (j+1) _ (by omega) (by omega) (by omega) (by simp[hv]) ?_ ?_
     .rw[Nh,List.take_succ_eq_append_getElem (by simpa using (by omega:i < v.length)),List.take_set_of_le (B4 _),ht,List.take_succ_eq_append_getElem LU,eW]
      simp[hq]
     .rw[Nh,List.drop_set_of_lt (by omega),GJ]
    .rw[Ai hq,Yf (by omega)]
     refine ih i (j+1) v (by omega) (by omega) (by omega) hv ?_ GJ;rw[ht,List.take_succ_eq_append_getElem LU,eW];simp[hq]
   .have h1:¬decide ((j:Int) < (v.length:Int))=true:=by simpa using hc
    have hjx:j=xs.length:=by omega
    rw[Ai h1];have h2:Ys v (i:Int) (v.length:Int)=some ((v.drop i).take (v.length - i)):=by
     unfold Ys;rw[Ah ⟨by omega,by omega,by omega⟩];simp
    have h3:KQ z v (i:Int) (v.length:Int)=some (v.take i++List.replicate (v.length - i) z++v.drop v.length):=by
     unfold KQ;have:(i:Int).toNat+((v.length:Int).toNat - (i:Int).toNat)=v.length:=by omega
     rw[Ah (by omega),this];simp
    rw[h2,Ag,h3,Ag];have h4:Ys (v.take i++List.replicate (v.length - i) z++v.drop v.length) 0 (i:Int)=some (v.take i):=by
     unfold Ys;rw[Ah ⟨by omega,by omega,by simp;omega⟩];have:(v.take i).length=i:=by rw[FX];omega
     simp[List.append_assoc,List.take_append,this]
    rw[h4,Ag,ht,hjx,EY]
 rcases Z86 xs hl f q hf I hI with⟨h1,h2⟩|⟨k,hk,h1,h2,h3⟩
 .rw[h2,Ag,Ah (by decide)]
  congr 1
  exact (List.filter_eq_self.2 (λa ha=>Cb.1 h1 a ha)).symm
 .rw[h1,Ag,Ai (by simp),Yf (by omega)]
  refine key FU k (k+1) xs (by omega) (by omega) (by have:=Y5;omega) rfl ?_ rfl;rw[List.take_succ_eq_append_getElem hk,eW,List.filter_eq_self.2 (λa ha=>Cb.1 h3 a ha)];simp[h2]
theorem Ype (sz:Nat) (hz:sz<=1024) (xs:List α) (hl:xs.length < 1048577) (f:α->Option α) (hf:∀a∈xs,f a=some a) {U:Type} (fin:List α->Option U) (L:Nat->List α->Int->Option U)
  (hL:∀m v i,L (m+1) v i=if decide (i < (xs.length:Int))=true then (idx xs i).bind λa=>(f a).bind λb=>(Y4 sz v [b]).bind λz=>L m z (Zo i 1) else fin v):L FU [] 0=fin xs:=by
 have key:∀(m k:Nat),k<=xs.length->xs.length - k < m->L m (xs.take k) k=fin xs:=by
  intro m
  induction m with
  | zero=>intro k _ h;omega
  | succ m ih=>
   intro k hk hm;rw[hL];by_cases hc:k < xs.length
   .have h1:decide ((k:Int) < (xs.length:Int))=true:=by simpa using hc
    have Yn:(xs.take k).length=k:=by rw[FX];omega
    have hb:(k+1)*sz<=140737488355328:=L7 (Nat.mul_le_mul (by omega:k+1<=1048577) hz) (by decide);rw[Ah h1,Zy hc,Ag,hf _ (B6 hc),Ag,Yp (by simpa [Yn] using hb) (by simp[Yn];omega),Ag,Yf (by omega),<-List.take_succ_eq_append_getElem hc];exact ih (k+1) (by omega) (by omega)
   .have h1:¬decide ((k:Int) < (xs.length:Int))=true:=by simpa using hc
    rw[Ai h1,D6 (by omega)]
 have:=key FU 0 (Cd _) (by have:=Y5;omega);simpa using this
end
theorem Xa3 (bs:ByteArray):∀(n i:Nat) (r:List UInt8),bs.size - i=n->ByteArray.toList.loop bs i r=r.reverse++bs.data.toList.drop i:=by
 intro n
 induction n with
 | zero=>
  intro i r h;unfold ByteArray.toList.loop;have hs:bs.data.toList.length=bs.size:=rfl;rw[Ai (by omega),EX (by omega)];simp
 | succ n ih=>
  intro i r h;unfold ByteArray.toList.loop;have hs:bs.data.toList.length=bs.size:=rfl;have hi:i < bs.data.toList.length:=by omega
  rw[Ah (by omega),ih (i+1) _ (by omega),D5 hi];have:bs.get! i=bs.data.toList[i]:=by
   have Ug:i < bs.data.size:=hi;simp[ByteArray.get!,getElem!_def,Var Ug]
  rw[this];simp
theorem Yqg (bs:ByteArray):bs.toList=bs.data.toList:=by
 unfold ByteArray.toList;rw[Xa3 bs _ 0 [] rfl];simp
theorem Yin {β:Type} {c:Prop} [Decidable c] {x:β}:(if c then x else x)=x:=by split<;>rfl
theorem K7 {σ U:Type} {n:Nat} (hn:n < 4611686018427387904) (st:Nat->σ) {B:(σ->Int->U)->σ->Int->U} {L:Nat->σ->Int->U} (hL:∀m s i,L (m+1) s i=B (L m) s i)
  (hs:∀k,k < n->∀κ,B κ (st k) (k:Int)=κ (st (k+1)) (Zo (k:Int) 1)) {r:U} (hf:∀κ,B κ (st n) (n:Int)=r):L FU (st 0) 0=r:=by
 have key:∀(m k:Nat),k<=n->n - k < m->L m (st k) (k:Int)=r:=by
  intro m
  induction m with
  | zero=>intro k _ h;omega
  | succ m ih=>
   intro k hk hm;rw[hL];by_cases hc:k < n
   .rw[hs k hc,Yf (by omega)]
    exact ih (k+1) (by omega) (by omega)
   .have:k=n:=by omega
    subst this;exact hf _
 have:=key FU 0 (Cd _) (by have:=Y5;omega);simpa using this
theorem Ytr {U:Type} {n:Nat} (hn:n < 4611686018427387904) {B:(Int->U)->Int->U} {L:Nat->Int->U} (hL:∀m i,L (m+1) i=B (L m) i)
  (hs:∀k,k < n->∀κ,B κ (k:Int)=κ (Zo (k:Int) 1)) {r:U} (hf:∀κ,B κ (n:Int)=r):L FU 0=r:=
 K7 (σ:=Unit) hn (λ_=>()) (B:=λκ _ i=>B (κ ()) i) (L:=λm _ i=>L m i) (λm _ i=>hL m i) (λk hk κ=>hs k hk _) λκ=>hf _
def L8 (b:ByteArray):List UInt8:=b.data.toList
theorem Wd (a b:ByteArray):L8 (a++b)=L8 a++L8 b:=by simp[L8]
theorem K3 {a b:ByteArray} (h:L8 a=L8 b):a=b:=by
 cases a;cases b;simp only[L8] at h;rw[Array.toList_inj.1 h]
theorem Z9 (a:ByteArray):a.size=(L8 a).length:=by show a.data.size=a.data.toList.length;rw[Array.length_toList]
theorem Wh (l:List UInt8):L8 ⟨l.toArray⟩=l:=rfl
theorem Z4 (l:List UInt8):L8 (Zd l)=l:=rfl
theorem FM:L8 ByteArray.empty=[]:=rfl
theorem Wr {a b:ByteArray} (h:a.size+b.size < 9223372036854775808):Ya a b=some ():=by
 unfold Ya;rw[Ai (by simp[IntKind.max,IntKind.signed,IntKind.bits];omega)]
theorem Y3 (a b:ByteArray):(a++b).size=a.size+b.size:=by rw[Z9,Wd,Cw,Z9,Z9]
theorem Z5 (l:List UInt8):(Zd l).size=l.length:=by rw[Z9,Z4]
theorem Z1x:∀(k u:Nat),u < 10^(k+1)->(Lib.decDigits u).length<=k+1:=by
 intro k
 induction k with
 | zero=>
  intro u hu;rw[Lib.decDigits,dif_pos (by omega)];simp
 | succ k ih=>
  intro u hu;rw[Lib.decDigits];split
  .simp
  .rw[Cw]
   have:=ih (u / 10) (by rw[SD] at hu;omega);simp;omega
def RM (u:Nat):List UInt8:=if u=0 then [] else Lib.decDigits u
theorem Y7q {u:Nat} (h:u≠0):RM u=RM (u / 10)++[UInt8.ofNat (48+u % 10)]:=by
 unfold RM;rw[Ai h,Lib.decDigits];split
 .rename_i h1
  rw[Ah (by omega),UM h1];rfl
 .rw[Ai (by omega)]
def B3 (x:Int):Prop:=-9223372036854775808<=x/\x<=9223372036854775807
def Zz (x:Int):ByteArray:=⟨(Lib.itoa x).toArray⟩
theorem Yw (x:Int):L8 (Zz x)=Lib.itoa x:=rfl
theorem K5 {x:Int} (h:B3 x):(Lib.itoa x).length<=20:=by
 obtain⟨h1,h2⟩:=h;unfold Lib.itoa;split
 .have:=Z1x 18 x.natAbs (by omega)
  simp;omega
 .have:=Z1x 18 x.toNat (by omega)
  omega
theorem Xo {x:Int} (h:B3 x):(Zz x).size<=20:=by rw[Z9,Yw];exact K5 h
theorem Xau {x:Int} (h:x≠0):Lib.itoa x=(if x < 0 then [45] else [])++RM x.natAbs:=by
 unfold Lib.itoa RM;have hn:¬x.natAbs=0:=by omega
 by_cases hx:x < 0
 .rw[Ah hx,Ah hx,Ai hn];rfl
 .have:x.toNat=x.natAbs:=by omega
  rw[Ai hx,Ai hx,Ai hn,this];rfl
theorem Y7c:Lib.itoa 0=[48]:=by
 unfold Lib.itoa;rw[Ai (by omega),show (0:Int).toNat=0 from rfl,Lib.decDigits,dif_pos (by omega)];rfl
theorem digB {d:Int} (h0:0<=d) (h1:d < 10):II [w8 (Zo 48 d)]=Zd [UInt8.ofNat (48+d.toNat)]:=by
 have:w8 (Zo 48 d)=((48+d.toNat:Nat):Int):=by
  simp[w8,Zo,IntKind.wrap,IntKind.bits,IntKind.signed];omega
 rw[this];rfl
theorem Y1y (x0:Int):∀(m:Nat) (v0:Int) (v1:ByteArray),v0.natAbs < m->B3 v0->(v1.size+v0.natAbs < 9223372036854775807\/v1.size=0)->
  ∃r,Ti x0 m v0 v1=some r/\L8 r=(if x0 < 0 then [45] else [])++RM v0.natAbs++L8 v1:=by
 intro m
 induction m with
 | zero=>intro v0 v1 h;omega
 | succ m ih=>
  intro v0 v1 hm hr hs;show ∃r,yN x0 (Ti x0 m) v0 v1=some r/\_;unfold yN;obtain⟨Ez,C6⟩:=hr;by_cases h0:v0=0
  .subst h0
   rw[Ai (by simp)];by_cases hx:x0 < 0
   .rw[Ah (by simpa using hx),Wr (by
     have hz:(0:Int).natAbs=0:=rfl;rw[hz] at hs;rw[Z5];show 1+v1.size < _;omega),Ag]
    exact⟨_,rfl,by rw[Ah hx,Wd];rfl⟩
   .rw[Ai (by simpa using hx)]
    exact⟨_,rfl,by rw[Ai hx];rfl⟩
  .rw[Ah (by simpa using h0)]
   have hq:Ft v0 10=v0.tdiv 10:=by
    unfold Ft;have:(v0.tdiv 10).natAbs=v0.natAbs / 10:=by rw[Int.natAbs_tdiv];rfl
    simp[IntKind.wrap,IntKind.bits,IntKind.signed];omega
   have hqa:(v0.tdiv 10).natAbs=v0.natAbs / 10:=by rw[Int.natAbs_tdiv];rfl
   have hra:(v0.tmod 10).natAbs=v0.natAbs % 10:=by rw[Int.natAbs_tmod];rfl
   have step:∀d:Int,0<=d->d.toNat=v0.natAbs % 10->∃r,XY x0 (Ti x0 m) v0 v1 d=some r/\L8 r=(if x0 < 0 then [45] else [])++RM v0.natAbs++L8 v1:=λd hd0 hd=>by
    unfold XY;rw[digB hd0 (by omega),Wr (by rw[Z5];simp;omega),Ag,hq];obtain⟨r,h1,h2⟩:=ih (v0.tdiv 10) (Zd [UInt8.ofNat (48+d.toNat)]++v1) (by omega) (by constructor<;>omega) (.inl (by rw[Y3,Z5,hqa];simp;omega));refine⟨r,h1,?_⟩;rw[h2,hqa,Wd,Z4,Y7q (u:=v0.natAbs) (by omega),hd];simp
   unfold Dd at*;by_cases hn:v0.tmod 10 < 0
   .rw[Ah (by simpa using hn)]
    have hneg:Tf (v0.tmod 10)=-(v0.tmod 10):=by
     simp[Tf,IntKind.wrap,IntKind.bits,IntKind.signed];omega
    rw[hneg];exact step _ (by omega) (by omega)
   .rw[Ai (by simpa using hn)]
    exact step _ (by omega) (by omega)
theorem Qk {x:Int} (h:B3 x):Qz x=some (Zz x):=by
 unfold Qz;by_cases h0:x=0
 .subst h0
  rw[Ah (by simp)];exact congrArg some (K3 (by rw[Yw,Y7c,Z4]))
 .rw[Ai (by simpa using h0)]
  obtain⟨r,h1,h2⟩:=Y1y x FU x ByteArray.empty (by obtain⟨h1,h2⟩:=h;unfold FU;omega) h (.inr rfl);rw[h1];exact congrArg some (K3 (by rw[h2,Yw,Xau h0,FM,Gu]))
theorem Ho {x:Int} (h:B3 x):FL x=some (Zz x):=by
 unfold FL mN;rw[Ah (show _/\_ from h)];rfl
theorem MH {ws:List ByteArray} {sep:ByteArray} (h1:ws.length<=1000000000) (h2:(Lib.join (ws.map L8) (L8 sep)).length<=140737488355328):Qf ws sep=some ⟨(Lib.join (ws.map L8) (L8 sep)).toArray⟩:=by
 unfold Qf;rw[Ah ⟨by omega,h2⟩];rfl
theorem Wm (x a b:Int):Ym x a b=some (decide (a<=x/\x<=b)):=by
 unfold Ym;by_cases h:a<=x<;>simp[h]
theorem Xr (x a b:Int):Z1 x a b=some (decide (a<=x/\x<=b)):=by
 unfold Z1;by_cases h:a<=x<;>simp[h]
def F0 (c:Zh):Int:=if (0<=c.An/\c.An<=3)/\(0<=c.As/\c.As<=3) then (c.An+2)*(c.As+6) else 0
def Ji (c:Zh):Int:=if F0 c=0 then 0 else if 1<=c.Am/\c.Am<=40 then 2*F0 c+c.Am else 0
def Q7 (c:Zh):Nat:=c.Ab.countP (·.prio)
def Q0 (c:Zh) (m:Ze):Bool:=decide (1<=m.weight/\m.weight<=4)&&if m.prio then decide (2*Ji c*Q7 c<=m.every/\m.every<=1000)&&decide (1<=m.cap/\m.cap<=8) else decide (m.every=0)&&decide (m.cap=0)
def Yr (c:Zh):Bool:=decide (1<=(c.Ab.length:Int)/\(c.Ab.length:Int)<=4)&&decide (1<=c.Av/\c.Av<=4)&&decide (1<=c.Ap/\c.Ap<=12)&&decide (Ji c≠0)&&c.Ab.all (Q0 c)
theorem q8 (c:Zh):0<=F0 c/\F0 c<=45:=by
 unfold F0;split
 .rename_i h
  obtain⟨⟨h1,h2⟩,h3,h4⟩:=h;generalize c.An=a at*;generalize c.As=b at*;have:a=0\/a=1\/a=2\/a=3:=by omega
  rcases this with rfl|rfl|rfl|rfl<;>omega
 .omega
theorem cB (c:Zh):0<=Ji c/\Ji c<=130:=by
 have:=q8 c;unfold Ji;split
 .omega
 .split<;>omega
theorem q9 (c:Zh):QX c=some (F0 c):=by
 unfold QX;rw[Xr,Ag,Xr,Ag];unfold iY F0;by_cases h1:0<=c.An/\c.An<=3
 .by_cases h2:0<=c.As/\c.As<=3
  .have:=q8 c
   unfold F0 at this;rw[Ah ⟨h1,h2⟩] at this;simp only[h1,h2,decide_true,Du,Bn,if_false,and_self,if_true];rw[Yl (by omega) (by omega),Yl (by omega) (by omega),EN (by omega) (by omega)]
  .simp[h1,h2]
 .simp[h1]
theorem Yze (c:Zh):ZR c=some (F0 c):=by
 rw[<-q9];unfold ZR QX;simp only[Xr,Wm];rfl
theorem Yg0 (c:Zh):NT c=some (Ji c):=by
 have:=q8 c;unfold NT Ji;rw[q9,Ag,Xr,Ag,Ag];by_cases h0:F0 c=0
 .simp[h0]
 .by_cases h1:1<=c.Am/\c.Am<=40
  .simp only[h0,h1,decide_true,decide_false,Du,Bn,if_false,and_self,if_true]
   rw[EN (by omega) (by omega),Yl (by omega) (by omega)]
  .simp[h0,h1]
theorem Yhl (c:Zh):ZS c=some (Ji c):=by
 rw[<-Yg0];unfold ZS NT;simp only[Xr,Wm,q9,Yze]
theorem Yr2 (c:Zh):iZ c=some (decide (1<=c.Av/\c.Av<=4)&&decide (1<=c.Ap/\c.Ap<=12)&&decide (Ji c≠0)):=by
 have:=q8 c;unfold iZ Ji;simp only[Xr,q9,Ag];by_cases h1:1<=c.Av/\c.Av<=4
 .by_cases h2:F0 c=0
  .simp[h2]
  .have h3:F0 c > 0:=by omega
   by_cases h4:1<=c.Ap/\c.Ap<=12
   .by_cases h5:1<=c.Am/\c.Am<=40
    .have:¬(2*F0 c+c.Am=0):=by omega
     simp[h1,h2,h3,h4,h5,this]
    .simp[h1,h2,h3,h4,h5]
   .simp[h1,h2,h3,h4]
 .simp[h1]
theorem Yl3 (xs:List Ze):∀(n:Int),0<=n->n+xs.length < 4611686018427387904->∀{U:Type} (fin:Int->Option U),MG (λ(a:Ze) n=>some (.inl (if a.prio=true then Zo n 1 else n))) fin xs n=fin (n+(xs.countP (·.prio):Nat)):=by
 induction xs with
 | nil=>intro n _ _ U fin;simp[MG]
 | cons a l ih=>
  intro n h0 hl U fin;simp only[AV] at hl;simp only[MG,Ag,fB];by_cases h:a.prio=true
  .rw[Ah h,Yl (by omega) (by omega),ih _ (by omega) (by omega),Ah h]
   congr 1;omega
  .rw[Ai h,ih _ (by omega) (by omega),Ai h]
   congr 1
theorem Y2d (c:Zh) (hl:c.Ab.length < 1048577):mK c=some (Q7 c:Int):=by
 unfold mK;rw[qZ c.Ab (by omega) (λ(a:Ze) n=>some (.inl (if a.prio=true then Zo n 1 else n))) some (mJ c) (λm s i=>?_) 0,Yl3 _ _ (by omega) (by omega)]
 .simp[Q7]
 .show y8 c _ s i=_
  unfold y8
  congr 1;congr 1;funext a
  by_cases h:a.prio=true<;>simp[h,b9]
theorem Yp1 (c:Zh):Q7 c<=c.Ab.length:=Vef
theorem Yt3 (c:Zh) (hl:c.Ab.length < 1048577):0<=Ji c*(Q7 c:Int)/\Ji c*(Q7 c:Int)<=136314880:=by
 have h1:=cB c;have h2:=Yp1 c;constructor
 .exact tJ h1.1 (by omega)
 .have h3:Ji c*(Q7 c:Int)<=130*(Q7 c:Int):=Int.mul_le_mul_of_nonneg_right h1.2 (by omega)
  omega
theorem Ym2 (c:Zh) (hl:c.Ab.length < 1048577):mL c=some (2*Ji c*Q7 c):=by
 have h1:=cB c;have h2:=Yt3 c hl;unfold mL;rw[Yhl,Ag,Y2d c hl,Ag];rw[EN (a:=2) (by omega) (by omega),EN (by rw[Int.mul_assoc];omega) (by rw[Int.mul_assoc];omega)]
theorem Yrq (c:Zh) (m:Ze) (hl:c.Ab.length < 1048577):mM m c=some (!Q0 c m):=by
 unfold mM Q0;simp only[Wm,Ag,Ym2 c hl];by_cases h1:1<=m.weight/\m.weight<=4
 .by_cases h2:m.prio=true
  .by_cases h3:2*Ji c*Q7 c<=m.every/\m.every<=1000
   .simp[h1,h2,h3]
   .simp[h1,h2,h3]
  .by_cases h3:m.every=0
   .simp[h1,h2,h3]
   .simp[h1,h2,h3]
 .simp[h1]
theorem Yzq (c:Zh) (xs:List Ze) (hl:c.Ab.length < 1048577) (hx:xs.length < 4611686018427387904):Wk xs c=some (!xs.all (Q0 c)):=by
 unfold Wk Kq;have key:∀(m k:Nat),k<=xs.length->xs.length - k < m->∃r,Y8 xs c m k=some r/\decide (r≥0)=!(xs.drop k).all (Q0 c):=by
  intro m
  induction m with
  | zero=>intro k _ h;omega
  | succ m ih=>
   intro k hk hm;have e:Y8 xs c (m+1) k=Qp xs c (Y8 xs c m) k:=rfl;rw[e];unfold Qp;by_cases hc:k < xs.length
   .have h1:decide ((k:Int) < (xs.length:Int))=true:=by simpa using hc
    rw[Ah h1,Zy hc,Ag,Yrq c _ hl,Ag,D5 hc,DT];by_cases hq:Q0 c xs[k]=true
    .have h2:¬(!Q0 c xs[k])=true:=by simp[hq]
     rw[Ai h2,Yf (by omega),hq,GV];exact ih (k+1) (by omega) (by omega)
    .have h2:(!Q0 c xs[k])=true:=by simpa using hq
     rw[Ah h2];refine⟨_,rfl,?_⟩;simp[hq]
   .have h1:¬decide ((k:Int) < (xs.length:Int))=true:=by simpa using hc
    rw[Ai h1,EX (by omega)];exact⟨_,rfl,by simp⟩
 obtain⟨r,hr,hq⟩:=key FU 0 (Cd _) (by have:=Y5;omega);rw[show ((0:Nat):Int)=0 from rfl] at hr;rw[hr,Ag,hq,L4]
theorem Uh (c:Zh) (hl:c.Ab.length < 1048577):Lc c=some (Yr c):=by
 unfold Lc Yr;simp only[Wm,Ag,Yhl,Yzq c c.Ab hl (by omega),tL];by_cases h1:1<=(c.Ab.length:Int)/\(c.Ab.length:Int)<=4
 .by_cases h2:1<=c.Av/\c.Av<=4
  .by_cases h3:1<=c.Ap/\c.Ap<=12
   .by_cases h4:Ji c=0<;>simp[h1,h2,h3,h4]
   .simp[h1,h2,h3]
  .simp[h1,h2]
 .simp[h1]
theorem Y8b (c:Zh) (m:Ze) (hl:c.Ab.length < 1048577) (k:Option Bool):
  ((Z1 m.weight 1 4).bind λcC=>
  if (!cC)=true then some false
  else if (!m.prio)=true then
    if decide (m.every≠0)=true then some false
    else if decide (m.cap≠0)=true then some false
     else if m.prio=true then
       (NT c).bind λIP=>
       (Z1 m.every (Ky (Ky 2 (Q7 c:Int)) IP) 1000).bind λIQ=>
       if (!IQ)=true then some false
       else (Z1 m.cap 1 8).bind λIS=>if (!IS)=true then some false else k
      else k
   else if m.prio=true then
     (NT c).bind λIP=>
     (Z1 m.every (Ky (Ky 2 (Q7 c:Int)) IP) 1000).bind λIQ=>
     if (!IQ)=true then some false
     else (Z1 m.cap 1 8).bind λIS=>if (!IS)=true then some false else k
    else k)=if Q0 c m=true then k else some false:=by
 have h1:=cB c;have h2:=Yt3 c hl;have h3:=Yp1 c;have e:Ky (Ky 2 (Q7 c:Int)) (Ji c)=2*Ji c*Q7 c:=by
  have e2:2*(Q7 c:Int)*Ji c=2*(Ji c*(Q7 c:Int)):=by rw[Int.mul_assoc,SE (Q7 c:Int)]
  rw[EN (a:=2) (by omega) (by omega),EN (by rw[e2];omega) (by rw[e2];omega),e2,Int.mul_assoc]
 unfold Q0;simp only[Xr,Ag,Yg0,e];by_cases h1:1<=m.weight/\m.weight<=4
 .by_cases h2:m.prio=true
  .by_cases h3:2*Ji c*Q7 c<=m.every/\m.every<=1000
   .by_cases h4:1<=m.cap/\m.cap<=8<;>simp[h1,h2,h3,h4]
   .simp[h1,h2,h3]
  .by_cases h3:m.every=0
   .by_cases h4:m.cap=0<;>simp[h1,h2,h3,h4]
   .simp[h1,h2,h3]
 .simp[h1]
theorem Yj0 (c:Zh) (hl:c.Ab.length < 1048577):NU c FU (Q7 c:Int) 0=some (Yr c):=by
 have key:∀(m k:Nat),k<=c.Ab.length->c.Ab.length - k < m->NU c m (Q7 c:Int) k=some (decide (1<=(c.Ab.length:Int)/\(c.Ab.length:Int)<=4)&&decide (1<=c.Av/\c.Av<=4)&&decide (1<=c.Ap/\c.Ap<=12)&&decide (Ji c≠0)&&(c.Ab.drop k).all (Q0 c)):=by
  intro m
  induction m with
  | zero=>intro k _ h;omega
  | succ m ih=>
   intro k hk hm;have e:NU c (m+1) (Q7 c:Int) k=yK c (NU c m) (Q7 c:Int) k:=rfl;rw[e];unfold yK;by_cases hc:k < c.Ab.length
   .have h1:decide ((k:Int) < (c.Ab.length:Int))=true:=by simpa using hc
    rw[Ah h1,Zy hc,Ag,Y8b c _ hl,D5 hc,DT,Yf (by omega),ih (k+1) (by omega) (by omega)];by_cases hq:Q0 c c.Ab[k]=true
    .simp[hq]
    .simp[hq]
   .have h1:¬decide ((k:Int) < (c.Ab.length:Int))=true:=by simpa using hc
    rw[Ai h1,EX (by omega),Xr,Ag,Yr2];by_cases h2:1<=(c.Ab.length:Int)/\(c.Ab.length:Int)<=4
    .simp[h2]
    .simp[h2]
 have:=key FU 0 (Cd _) (by have:=Y5;omega);simpa [Yr] using this
theorem RN (c:Zh) (hl:c.Ab.length < 1048577):Mx c=some (Yr c):=by
 unfold Mx;rw[qZ c.Ab (by omega) (λ(a:Ze) n=>some (.inl (if a.prio=true then Zo n 1 else n))) (λn=>NU c FU n 0) (jA c) (λm s i=>?_) 0,Yl3 _ _ (by omega) (by omega)]
 .rw[show (0:Int)+(c.Ab.countP (·.prio):Nat)=(Q7 c:Int) by simp[Q7]]
  exact Yj0 c hl
 .show yL c _ s i=_
  unfold yL
  congr 1;congr 1;funext a
  by_cases h:a.prio=true<;>simp[h,b9]
def cE (c:Zh) (i:Int):Int:=((c.Ab[i.toNat]?).map (·.weight)).getD 0
def Zn (c:Zh) (i:Int):Bool:=decide (0<=i/\i < (c.Ab.length:Int))
def FN (c:Zh) (i:Int):Int:=if Yr c=true/\Zn c i=true then cE c i*c.Av else 0
theorem Ykj {c:Zh} {i:Int} (h:Zn c i=true):∃m,idx c.Ab i=some m/\m∈c.Ab/\m.weight=cE c i:=by
 simp only[Zn,Bj] at h;obtain⟨k,rfl⟩:∃k:Nat,i=k:=⟨i.toNat,by omega⟩;have hk:k < c.Ab.length:=by omega
 refine⟨c.Ab[k],Zy hk,B6 hk,?_⟩;simp[cE,hk]
theorem Z5z {c:Zh} {m:Ze} (h:Yr c=true) (hm:m∈c.Ab):1<=m.weight/\m.weight<=4:=by
 simp only[Yr,Bg,Cb] at h;have:=h.2 m hm;simp only[Q0,Bg,Bj] at this;exact this.1
theorem Ydr {c:Zh} (h:Yr c=true):1<=c.Av/\c.Av<=4:=by
 simp only[Yr,Bg,Bj] at h;exact h.1.1.1.2
theorem Ytn {c:Zh} {i:Int} (h:Yr c=true) (hm:Zn c i=true):1<=cE c i/\cE c i<=4:=by
 obtain⟨m,_,h1,h2⟩:=Ykj hm;rw[<-h2];exact Z5z h h1
theorem Yth {a b:Int} (h1:1<=a) (h2:a<=4) (h3:1<=b) (h4:b<=4):1<=a*b/\a*b<=16:=by
 have:a=1\/a=2\/a=3\/a=4:=by omega
 rcases this with rfl|rfl|rfl|rfl<;>omega
theorem rA {c:Zh} {i:Int} (h:Yr c=true) (hm:Zn c i=true):1<=FN c i/\FN c i<=16:=by
 unfold FN;rw[Ah ⟨h,hm⟩];have h1:=Ytn h hm;have h2:=Ydr h;exact Yth h1.1 h1.2 h2.1 h2.2
theorem Y2q {c:Zh} {i:Int}:FN c i=0↔¬(Yr c=true/\Zn c i=true):=by
 constructor
 .intro h hc
  have:=rA hc.1 hc.2;omega
 .intro h;unfold FN;rw[Ai h]
theorem Ui (c:Zh) (i:Int):0<=FN c i/\FN c i<=16:=by
 by_cases h:Yr c=true/\Zn c i=true
 .have:=rA h.1 h.2;omega
 .rw[Y2q.2 h];omega
theorem cF {c:Zh} (i:Int) (hl:c.Ab.length < 1048577):decide (0<=i/\i<=Xd (c.Ab.length:Int) 1)=Zn c i:=by
 rw[Xb (by omega) (by omega)];unfold Zn
 congr 1
 apply propext;omega
theorem rB (c:Zh) (i:Int) (hl:c.Ab.length < 1048577):QY c i=some (FN c i):=by
 unfold QY;rw[RN c hl,Ag,Xr,Ag,cF i hl];unfold jF;by_cases h1:Yr c=true
 .by_cases h2:Zn c i=true
  .obtain⟨m,cG,JY,hm3⟩:=Ykj h2
   have hw:=Z5z h1 JY;have hq:=Ydr h1;have:=Yth hw.1 hw.2 hq.1 hq.2;simp only[h1,h2,cG,Du,Bn,if_false,Ag];rw[EN (by omega) (by omega)];simp[FN,h1,h2,hm3]
  .simp[FN,h1,h2]
 .simp[FN,h1]
theorem Lm (c:Zh) (i:Int) (hl:c.Ab.length < 1048577):IL c i=some (Zn c i):=by
 unfold IL;rw[Wm,Ag,cF i hl]
theorem Z6d (c:Zh) (i:Int) (hl:c.Ab.length < 1048577):TD c i=some (FN c i):=by
 rw[<-rB c i hl];unfold TD QY;rw[RN c hl,Uh c hl,Lm c i hl,Xr,cF i hl];rfl
theorem Gk (a b:Int):D3 a b=min a b:=by unfold D3;omega
theorem MI (a b:Int):EM a b=max a b:=by unfold EM;omega
theorem Km {c:Zh} (h:Yr c=true):1<=(c.Ab.length:Int)/\(c.Ab.length:Int)<=4:=by
 simp only[Yr,Bg,Bj] at h;exact h.1.1.1.1
theorem Gl {c:Zh} (h:Yr c=true):c.Ab.length < 1048577:=by have:=Km h;omega
instance:Inhabited Ze:=⟨Ze.z0⟩
instance:Inhabited Zj:=⟨Zj.z0⟩
theorem IT {c:Zh} {i:Int} (h:Yr c=true) (hm:Zn c i=true):Q0 c (Ak c.Ab i)=true:=by
 simp only[Zn,Bj] at hm;have:=Gj hm.1 hm.2;simp only[Yr,Bg,Cb] at h;exact h.2 _ this
theorem MJ {c:Zh} {m:Ze} (h:Q0 c m=true):-1<=m.every/\m.every<=1000/\0<=m.cap/\m.cap<=8:=by
 have h1:=cB c;have h2:0<=2*Ji c*(Q7 c:Int):=tJ (by omega) (by omega);simp only[Q0,Bg,Bj] at h;obtain⟨h3,h4⟩:=h;split at h4
 .simp only[Bg,Bj] at h4;omega
 .simp only[Bg,Bj] at h4;omega
def Y0 (b:Zj) (m:Ze):Bool:=if m.prio then decide (0<=b.tokens/\b.tokens<=m.cap)&&decide (0<=b.count/\b.count < m.every) else decide (b.tokens=0)&&decide (b.count=0)
def IU (b:Zj) (m:Ze):Zj:=if (m.prio&&Y0 b m)=true then (if b.count+1=m.every then ⟨min (b.tokens+1) m.cap,0⟩ else ⟨b.tokens,b.count+1⟩) else b
def F4 (b:Zj) (m:Ze):Zj×Bool:=if (m.prio&&Y0 b m&&decide (b.tokens≠0))=true then (⟨b.tokens - 1,b.count⟩,true) else (b,false)
def RO (b:Zj) (m:Ze):Zj:=if (m.prio&&Y0 b m)=true then ⟨min (b.tokens+1) m.cap,b.count⟩ else b
def Ln (m:Ze):Zj:=if m.prio then ⟨max m.cap 0,0⟩ else ⟨0,0⟩
theorem rC (b:Zj) {m:Ze} (h:-1<=m.every/\m.every<=1000):Ra b m=some (Y0 b m):=by
 unfold Ra Y0;rw[Xr,Ag,Xr,Ag,Xb (by omega) (by omega)];by_cases h1:m.prio=true
 .have e:(0<=b.count/\b.count<=m.every - 1)↔(0<=b.count/\b.count < m.every):=by omega
  by_cases h2:0<=b.tokens/\b.tokens<=m.cap
  .simp[h1,h2,e]
  .simp[h1,h2]
 .simp[h1]
theorem Yaz (b:Zj) (m:Ze):aF b m=some (Y0 b m):=by
 unfold aF Y0;rw[Wm,Ag];by_cases h1:m.prio=true
 .by_cases h2:0<=b.tokens/\b.tokens<=m.cap
  .by_cases h3:0<=b.count<;>simp[h1,h2,h3]
  .simp[h1,h2]
 .simp[h1]
theorem RP {b:Zj} {c:Zh} {m:Ze} (h:Y0 b m=true) (hm:Q0 c m=true):0<=b.tokens/\b.tokens<=8/\0<=b.count/\b.count<=1000:=by
 have:=MJ hm;unfold Y0 at h;split at h<;>simp only[Bg,Bj] at h<;>omega
theorem Ylg (b:Zj) {c:Zh} {m:Ze} (h:Q0 c m=true):kC b m=some (IU b m):=by
 have hm:=MJ h;unfold kC kB IU;rw[rC b ⟨hm.1,hm.2.1⟩,Ag];by_cases h1:m.prio=true
 .by_cases h2:Y0 b m=true
  .have:=RP h2 h
   simp only[h1,h2,Du,Bn,if_false,L6,if_true];rw[Yl (by omega) (by omega),Yl (by omega) (by omega),Gk,UW];by_cases h3:b.count+1=m.every<;>simp[h3]
  .simp[h1,h2]
 .simp[h1]
theorem Z6k (b:Zj) (m:Ze):TC b m=some (m.prio&&Y0 b m):=by
 unfold TC;rw[Yaz,Ag];by_cases h1:m.prio=true<;>simp[h1]
theorem Ymu (b:Zj) {c:Zh} {m:Ze} (h:Q0 c m=true):nP b m=some (IU b m):=by
 unfold nP IU;rw[Z6k,Ag];by_cases h1:(m.prio&&Y0 b m)=true
 .have h2:Y0 b m=true:=by simp only[Bg] at h1;exact h1.2
  have:=RP h2 h;rw[Ai (by simp[h1]),Ah h1,Yl (by omega) (by omega),Yl (by omega) (by omega),Gk];by_cases h3:b.count+1=m.every<;>simp[h3]
 .rw[Ah (by cases hq:(m.prio&&Y0 b m)<;>simp_all),Ai h1]
theorem Ylq (b:Zj) {c:Zh} {m:Ze} (h:Q0 c m=true):lB b m=some (F4 b m):=by
 have hm:=MJ h;unfold lB ZA F4;rw[rC b ⟨hm.1,hm.2.1⟩,Ag];by_cases h1:m.prio=true
 .by_cases h2:Y0 b m=true
  .have:=RP h2 h
   rw[Xb (by omega) (by omega)];by_cases h3:b.tokens=0<;>simp[h1,h2,h3]
  .simp[h1,h2]
 .simp[h1]
theorem Ylv (b:Zj) {c:Zh} {m:Ze} (h:Q0 c m=true):oY b m=some (F4 b m):=by
 unfold oY oX F4;rw[Z6k,Ag];by_cases h1:(m.prio&&Y0 b m)=true
 .have h2:Y0 b m=true:=by simp only[Bg] at h1;exact h1.2
  have:=RP h2 h;rw[Xb (by omega) (by omega)];by_cases h3:b.tokens=0<;>simp[h1,h3]
 .simp[h1]
theorem Yk5 (b:Zj) {c:Zh} {m:Ze} (h:Q0 c m=true):kG b m=some (RO b m):=by
 have hm:=MJ h;unfold kG kF RO;rw[rC b ⟨hm.1,hm.2.1⟩,Ag];by_cases h1:m.prio=true
 .by_cases h2:Y0 b m=true
  .have:=RP h2 h
   simp only[h1,h2,if_true,L6];rw[Yl (by omega) (by omega),Gk,UW]
  .simp[h1,h2]
 .simp[h1]
theorem Ylf (b:Zj) {c:Zh} {m:Ze} (h:Q0 c m=true):nS b m=some (RO b m):=by
 unfold nS RO;rw[Z6k,Ag];by_cases h1:(m.prio&&Y0 b m)=true
 .have h2:Y0 b m=true:=by simp only[Bg] at h1;exact h1.2
  have h4:m.prio=true:=by simp only[Bg] at h1;exact h1.1
  have:=RP h2 h;have h5:b.tokens<=m.cap:=by
   unfold Y0 at h2;rw[Ah h4] at h2;simp only[Bg,Bj] at h2;exact h2.1.2
  rw[Ah h1,Ah h1,Yl (by omega) (by omega)];by_cases h3:b.tokens < m.cap
  .rw[Ah (by simpa using h3),Int.min_eq_left (by omega)]
  .rw[Ai (by simpa using h3),Int.min_eq_right (by omega)]
   have:b.tokens=m.cap:=by omega
   rw[<-this]
 .rw[Ai h1,Ai h1]
theorem Yoj (m:Ze):jB m=some (Ln m):=by
 unfold jB Ln;rw[MI,Int.max_comm];by_cases h1:m.prio=true<;>simp[h1]
theorem Yoo (m:Ze):nD m=some (Ln m):=by
 unfold nD Ln;rw[MI];by_cases h1:m.prio=true<;>simp[h1]
theorem Xb5 {c:Zh} {m:Ze} (h:Q0 c m=true) (hs:0 < Ji c/\(m.prio=true->0 < Q7 c)):Y0 (Ln m) m=true:=by
 have hm:=MJ h;unfold Y0 Ln;by_cases h1:m.prio=true
 .simp only[h1,if_true,Bg,Bj]
  simp only[Q0,h1,if_true,Bg,Bj] at h;have h2:0 < Ji c*(Q7 c:Int):=Int.mul_pos hs.1 (by have:=hs.2 h1;omega);have h3:2*Ji c*(Q7 c:Int)=2*(Ji c*(Q7 c:Int)):=Int.mul_assoc ..;omega
 .simp[h1]
theorem Xbv {b:Zj} {c:Zh} {m:Ze} (h:Y0 b m=true) (hm:Q0 c m=true):Y0 (IU b m) m=true:=by
 have hb:=MJ hm;have hn:=RP h hm;unfold IU;split
 .rename_i h1
  simp only[Bg] at h1;unfold Y0 at h;rw[Ah h1.1] at h;simp only[Bg,Bj] at h;split
  .unfold Y0
   rw[Ah h1.1];simp only[Bg,Bj];omega
  .unfold Y0
   rw[Ah h1.1];simp only[Bg,Bj];omega
 .exact h
theorem Xa0 {b:Zj} {c:Zh} {m:Ze} (h:Y0 b m=true) (hm:Q0 c m=true):Y0 (F4 b m).1 m=true:=by
 unfold F4;split
 .rename_i h1
  simp only[Bg,Bj] at h1;unfold Y0 at h ⊢;rw[Ah h1.1.1] at h ⊢;simp only[Bg,Bj] at h ⊢;omega
 .exact h
theorem Y8q {b:Zj} {c:Zh} {m:Ze} (h:Y0 b m=true) (hm:Q0 c m=true):Y0 (RO b m) m=true:=by
 have hb:=MJ hm;unfold RO;split
 .rename_i h1
  simp only[Bg] at h1;unfold Y0 at h ⊢;rw[Ah h1.1] at h ⊢;simp only[Bg,Bj] at h ⊢;omega
 .exact h
def CG (w:Yb) (c:Zh):Bool:=Yr c&&(Zn c w.at_&&decide (0<=w.Bc/\w.Bc<=FN c w.at_))
theorem Z9z (w:Yb) (c:Zh) (hl:c.Ab.length < 1048577):Tk w c=some (CG w c):=by
 unfold Tk CG;rw[RN c hl,Ag,Xr,Ag,cF _ hl,rB c _ hl,Ag,Xr,Ag];by_cases h1:Yr c=true<;>by_cases h2:Zn c w.at_=true<;>simp[h1,h2]
theorem Z9s (w:Yb) (c:Zh) (hl:c.Ab.length < 1048577):R4 w c=some (CG w c):=by
 unfold R4 CG;rw[Uh c hl,Ag,Lm c _ hl,Ag,Z6d c _ hl,Ag,Wm,Ag];by_cases h1:Yr c=true<;>by_cases h2:Zn c w.at_=true<;>simp[h1,h2]
def IV (w:Yb) (c:Zh) (wants:List Bool):Nat->Int->Yb×Int
 | 0,_=>(⟨w.at_,0⟩,-1)
 | r+1,k=>if Ak wants ((w.at_+k) % (wants.length:Int))=true then (⟨(w.at_+k) % (wants.length:Int),FN c ((w.at_+k) % (wants.length:Int)) - 1⟩,(w.at_+k) % (wants.length:Int)) else IV w c wants r (k+1)
def F5 (w:Yb) (c:Zh) (wants:List Bool):Yb×Int:=if (decide (0 < w.Bc)&&Ak wants w.at_)=true then (⟨w.at_,w.Bc - 1⟩,w.at_) else IV w c wants wants.length 1
def RQ (w:Yb) (c:Zh) (Aj:Int):Yb:=if w.at_=Aj then ⟨w.at_,min (w.Bc+1) (FN c Aj)⟩ else w
theorem O2 {w:Yb} {c:Zh} (h:CG w c=true):Yr c=true/\Zn c w.at_=true/\0<=w.Bc/\w.Bc<=FN c w.at_:=by
 simp only[CG,Bg,Bj] at h;exact⟨h.1,h.2.1,h.2.2.1,h.2.2.2⟩
theorem Y0n (w:Yb) (c:Zh) (wants:List Bool) (h:CG w c=true) (hn:wants.length=c.Ab.length):∀(m r:Nat) (k:Int),r < m->k+r=wants.length+1->1<=k->oZ w c wants m k=some (IV w c wants r k)/\lE w c wants m k=some (IV w c wants r k):=by
 obtain⟨hc,hm,h1,h2⟩:=O2 h;have hl:=Km hc;have CJ:=Gl hc;simp only[Zn,Bj] at hm;intro m
 induction m with
 | zero=>intro r k hr;omega
 | succ m ih=>
  intro r k hr hk h1k;show zD w c wants _ k=_/\yY w c wants _ k=_;unfold zD yY;rw[<-hn];cases r with
  | zero=>
   rw[Ai (by simp;omega),Ai (by simp;omega)];exact⟨rfl,rfl⟩
  | succ r=>
   have h0:0<=(w.at_+k) % (wants.length:Int):=UQ _ (by omega);have gY:(w.at_+k) % (wants.length:Int) < (wants.length:Int):=UK _ (by omega);have cH:Zn c ((w.at_+k) % (wants.length:Int))=true:=by
    simp only[Zn,Bj];omega
   have ht:=rA hc cH;rw[Ah (by simp;omega),Ah (by simp;omega),O1 (by omega),Ag,Ag,Yl (a:=w.at_) (by omega) (by omega),Hn (by omega),Xm h0 gY,Ag,Ag,Z6d c _ CJ,rB c _ CJ,Ag,Xb (by omega) (by omega),Yl (a:=k) (by omega) (by omega)];have:=ih r (k+1) (by omega) (by omega) (by omega);simp only[IV];by_cases hq:Ak wants ((w.at_+k) % (wants.length:Int))=true
   .simp[hq]
   .simp only[hq,if_false,Bn]
    exact this
theorem Yuw (w:Yb) (c:Zh) (wants:List Bool) (h:CG w c=true) (hn:wants.length=c.Ab.length):o6 w c wants=some (F5 w c wants):=by
 obtain⟨hc,hm,h1,h2⟩:=O2 h;have hl:=Km hc;have CJ:=Gl hc;simp only[Zn,Bj] at hm;have hs:=(Y0n w c wants h hn FU wants.length 1 (by have:=Y5;omega) (by omega) (by omega)).1;have ht:=Ui c w.at_;unfold o6 o5 o4 F5;rw[Z9s w c CJ,Ag,h,Xm hm.1 (by omega),Ag,hs,Xb (by omega) (by omega)];have h3:¬((wants.length:Int)≠(c.Ab.length:Int)):=by omega
 by_cases h4:0 < w.Bc<;>by_cases h5:Ak wants w.at_=true<;>simp[h3,h4,h5]
theorem Ysq (w:Yb) (c:Zh) (wants:List Bool) (h:CG w c=true) (hn:wants.length=c.Ab.length):lH w c wants=some (F5 w c wants):=by
 obtain⟨hc,hm,h1,h2⟩:=O2 h;have hl:=Km hc;have CJ:=Gl hc;simp only[Zn,Bj] at hm;have hs:=(Y0n w c wants h hn FU wants.length 1 (by have:=Y5;omega) (by omega) (by omega)).2;have ht:=Ui c w.at_;unfold lH lG lF F5;rw[Z9z w c CJ,Ag,h,Xm hm.1 (by omega),Ag,hs,Xb (by omega) (by omega)];have h3:¬((wants.length:Int)≠(c.Ab.length:Int)):=by omega
 by_cases h4:0 < w.Bc<;>by_cases h5:Ak wants w.at_=true<;>simp[h3,h4,h5]
theorem Ywe (w:Yb) (c:Zh) (Aj:Int) (h:CG w c=true):kI w c Aj=some (RQ w c Aj):=by
 obtain⟨hc,hm,h1,h2⟩:=O2 h;have CJ:=Gl hc;have ht:=Ui c w.at_;unfold kI kH RQ;rw[Z9z w c CJ,Ag,h,rB c _ CJ,Ag,Yl (by omega) (by omega),Gk,UW];by_cases h4:w.at_=Aj<;>simp[h4]
theorem Yus (w:Yb) (c:Zh) (Aj:Int) (h:CG w c=true):nU w c Aj=some (RQ w c Aj):=by
 obtain⟨hc,hm,h1,h2⟩:=O2 h;have CJ:=Gl hc;have ht:=Ui c w.at_;unfold nU nT RQ;rw[Z9s w c CJ,Ag,h,Z6d c _ CJ,Ag,Yl (by omega) (by omega),Gk];by_cases h4:w.at_=Aj
 .simp[h4]
 .have:¬Aj=w.at_:=λh=>h4 h.symm
  simp[h4,this]
theorem Y76 {w:Yb} {c:Zh} (Aj:Int) (h:CG w c=true):CG (RQ w c Aj) c=true:=by
 obtain⟨hc,hm,h1,h2⟩:=O2 h;unfold RQ;split
 .rename_i h4
  subst h4;have ht:=Ui c w.at_;simp only[CG,Bg,Bj];exact⟨hc,hm,by omega,by omega⟩
 .exact h
theorem Y8j {w:Yb} {c:Zh} {wants:List Bool} (h:CG w c=true) (hn:wants.length=c.Ab.length):∀(r:Nat) (k:Int),1<=k->CG (IV w c wants r k).1 c=true/\((IV w c wants r k).2=-1\/(Zn c (IV w c wants r k).2=true/\Ak wants (IV w c wants r k).2=true)):=by
 obtain⟨hc,hm,h1,h2⟩:=O2 h;have hl:=Km hc;intro r
 induction r with
 | zero=>
  intro k _;refine⟨?_,.inl rfl⟩;simp only[IV];simp only[CG,Bg,Bj];exact⟨hc,hm,by omega,by omega⟩
 | succ r ih=>
  intro k hk;simp only[IV];split
  .rename_i hq
   have h0:0<=(w.at_+k) % (wants.length:Int):=UQ _ (by omega);have gY:(w.at_+k) % (wants.length:Int) < (wants.length:Int):=UK _ (by omega);have cH:Zn c ((w.at_+k) % (wants.length:Int))=true:=by
    simp only[Zn,Bj];omega
   have ht:=rA hc cH;refine⟨?_,.inr ⟨cH,hq⟩⟩;simp only[CG,Bg,Bj];exact⟨hc,cH,by omega,by omega⟩
  .exact ih (k+1) (by omega)
theorem Y9x {w:Yb} {c:Zh} {wants:List Bool} (h:CG w c=true) (hn:wants.length=c.Ab.length):CG (F5 w c wants).1 c=true/\((F5 w c wants).2=-1\/(Zn c (F5 w c wants).2=true/\Ak wants (F5 w c wants).2=true)):=by
 obtain⟨hc,hm,h1,h2⟩:=O2 h;unfold F5;split
 .rename_i h3
  simp only[Bg,Bj] at h3;refine⟨?_,.inr ⟨hm,h3.2⟩⟩;simp only[CG,Bg,Bj];exact⟨hc,hm,by omega,by omega⟩
 .exact Y8j h hn _ _ (by omega)
def Y1 (s:Int):Int:=if s=0 then 1 else if s=1 then 2 else if s=2 then 4 else 0
def GK (s:Int):Int:=if s=0 then 256 else if s=1 then 65536 else if s=2 then 4294967296 else 0
def Xv (b:Int):Int:=if b=0 then 1 else if b=1 then 4 else if b=2 then 4 else if b=3 then 8 else 0
theorem O3 (s:Int):0<=Y1 s/\Y1 s<=4:=by unfold Y1;repeat' split<;>omega
theorem Uj (s:Int):0<=GK s/\GK s<=4294967296:=by unfold GK;repeat' split<;>omega
theorem O4 (b:Int):0<=Xv b/\Xv b<=8:=by unfold Xv;repeat' split<;>omega
theorem MK (s:Int):HG s=some (Y1 s):=by
 unfold HG;rw[Xr,Ag];by_cases h:0<=s/\s<=2
 .have:s=0\/s=1\/s=2:=by omega
  rcases this with rfl|rfl|rfl<;>rfl
 .have:Y1 s=0:=by unfold Y1;repeat' split<;>omega
  simp[h,this]
theorem Uk (s:Int):IK s=some (Y1 s):=by
 rw[<-MK];unfold IK HG;rw[Wm,Xr]
theorem Ul (b:Int):KX b=some (Xv b):=by
 unfold KX;rw[Xr,Ag];by_cases h:0<=b/\b<=3
 .have:b=0\/b=1\/b=2\/b=3:=by omega
  rcases this with rfl|rfl|rfl|rfl<;>rfl
 .have:Xv b=0:=by unfold Xv;repeat' split<;>omega
  simp[h,this]
theorem rD (b:Int):Ry b=some (Xv b):=by
 rw[<-Ul];unfold Ry KX;rw[Wm,Xr]
theorem ML (s:Int):Ke s=some (GK s):=by
 unfold Ke;rw[MK,Ag,Ag];by_cases h:s=0\/s=1\/s=2
 .rcases h with rfl|rfl|rfl<;>rfl
 .have h1:Y1 s=0:=by unfold Y1;repeat' split<;>omega
  have h2:GK s=0:=by unfold GK;repeat' split<;>omega
  simp[h1,h2]
theorem Ydw (s:Int):ZW s=some (GK s):=by
 rw[<-ML];unfold ZW Ke;simp only[Uk,MK]
def Xw (v s:Int):Bool:=decide (0<=v/\v < GK s)
theorem RR (v s:Int):Lf v s=some (Xw v s):=by
 have:=Uj s;unfold Lf Xw;rw[Ydw,Ag,Wm,Ag,Xb (by omega) (by omega)]
 congr 2
 apply propext;omega
theorem RS (v s:Int):Z1 v 0 (Xd (GK s) 1)=some (Xw v s):=by
 have:=Uj s;unfold Xw;rw[Xr,Xb (by omega) (by omega)]
 congr 2
 apply propext;omega
def X4 (a s:Int):Bool:=decide (0 < Y1 s)&&(decide (0<=a)&&decide (a % Y1 s=0))
theorem rE (a s:Int):KY a s=some (X4 a s):=by
 unfold KY X4;rw[MK,Ag,Ag];by_cases h1:0 < Y1 s
 .by_cases h2:0<=a
  .rw[O1 (by omega),Hn h2];simp[h1,h2]
  .simp[h1,h2]
 .simp[h1]
theorem Um (s:Int):0 < Y1 s↔(0<=s/\s<=2):=by
 unfold Y1
 repeat' split<;>omega
theorem rF (a s:Int):Rz a s=some (X4 a s):=by
 unfold Rz X4;rw[Wm,Ag,Uk,Ag];by_cases h1:0 < Y1 s
 .have h3:=(Um s).1 h1
  by_cases h2:0<=a
  .rw[O1 (by omega),Hn h2];simp[h1,h2,h3]
  .simp[h1,h2,h3]
 .have h3:¬(0<=s/\s<=2):=λh=>h1 ((Um s).2 h)
  simp[h1,h3]
def FO (a s b:Int):Int:=if (X4 a s=true/\a < 512)/\Xv b≠0 then (if b=2/\(a+Y1 s) % (4*Y1 s)=0 then a+Y1 s - 4*Y1 s else a+Y1 s) else -1
theorem Jm {a s:Int} (h:X4 a s=true):0 < Y1 s/\0<=a/\a % Y1 s=0:=by
 simpa [X4,Bg,Bj] using h
theorem Yrl (a s b:Int):YF a s b=some (FO a s b):=by
 have hb:=O3 s;unfold YF YE jI FO;rw[MK,Ag,rE,Ag,Xr,Ag,Ul,Ag];by_cases h1:X4 a s=true
 .obtain⟨h2,h3,h4⟩:=Jm h1
  by_cases h5:a < 512
  .have h6:0<=a/\a<=511:=by omega
   rw[EN (by omega) (by omega),Yl (by omega) (by omega),Xb (by omega) (by omega),O1 (by omega),Hn (by omega)];by_cases h7:Xv b=0
   .simp[h1,h5,h6,h7]
   .by_cases h8:b=2
    .subst h8
     by_cases h9:(a+Y1 s) % (4*Y1 s)=0<;>simp[h1,h5,h6,h7,h9]
    .simp[h1,h5,h6,h7,h8]
  .have h6:¬(0<=a/\a<=511):=by omega
   simp[h1,h5,h6]
 .simp[h1]
theorem Yrp (a s b:Int):mS a s b=some (FO a s b):=by
 have hb:=O3 s;unfold mS ZT FO;rw[rF,Ag,Uk,Ag,Ag,rD,Ag];by_cases h1:X4 a s=true
 .obtain⟨h2,h3,h4⟩:=Jm h1
  by_cases h5:a < 512
  .have h6:¬a≥512:=by omega
   rw[EN (by omega) (by omega),Yl (by omega) (by omega),Xb (by omega) (by omega),O1 (by omega),Hn (by omega)];by_cases h7:Xv b=0
   .simp[h1,h5,h6,h7]
   .by_cases h8:b=2
    .subst h8
     by_cases h9:(a+Y1 s) % (4*Y1 s)=0<;>simp[h1,h5,h6,h7,h9]
    .simp[h1,h5,h6,h7,h8]
  .have h6:a≥512:=by omega
   simp[h1,h5,h6]
 .simp[h1]
theorem Yxu {a s b:Int} (h:0<=FO a s b):X4 a s=true/\a < 512:=by
 unfold FO at h;split at h
 .rename_i h1;exact h1.1
 .omega
def E7 (s b:Int):Nat->Int->Option (List Int)
 | 0,_=>some []
 | n+1,a=>if FO a s b < 0 then none else (E7 s b n (FO a s b)).map (a::·)
def Ki (a s b:Int):List Int:=(E7 s b (Xv b).toNat a).getD []
theorem Z42 (a s b:Int):ZV a s b=some (Ki a s b):=by
 have hb:=O4 b;unfold ZV;rw[rD,Ag];have key:∀(n m:Nat) (x:Int) (out:List Int) (k:Nat),n < m->(k:Int)+n=Xv b->out.length=k->mT a s b m x out (Xv b) k=some (match E7 s b n x with|some l=>out++l|none=>[]):=by
  intro n
  induction n with
  | zero=>
   intro m x out k hm hk ho;obtain⟨m,rfl⟩:∃m',m=m'+1:=⟨m - 1,by omega⟩;show ZU a s b _ x out (Xv b) k=_;unfold ZU;rw[Ai (by simp;omega)];simp[E7]
  | succ n ih=>
   intro m x out k hm hk ho;obtain⟨m,rfl⟩:∃m',m=m'+1:=⟨m - 1,by omega⟩;show ZU a s b _ x out (Xv b) k=_;unfold ZU;rw[Ah (by simp;omega),Yrp,Ag];simp only[E7];by_cases h1:FO x s b < 0
   .rw[Ah (by simpa using h1),Ah h1]
   .rw[Ai (by simpa using h1),Ai h1,Yp (by simp;omega) (by simp;omega),Ag,Yf (by omega),ih m _ _ (k+1) (by omega) (by omega) (by simp[ho])]
    cases E7 s b n (FO x s b)<;>simp
 have:=key (Xv b).toNat FU a [] 0 (by have:=Y5;omega) (by omega) rfl;rw[show ((0:Nat):Int)=0 from rfl] at this;rw[this];unfold Ki;cases E7 s b (Xv b).toNat a<;>simp
theorem Z4g (a s b:Int):YI a s b=some (Ki a s b):=by
 have hb:=O4 b;unfold YI;have key:∀(n m:Nat) (x:Int) (out:List Int),n < m->(out.length:Int)+n=Xv b->jJ a s b m x out=some (match E7 s b n x with|some l=>out++l|none=>[]):=by
  intro n
  induction n with
  | zero=>
   intro m x out hm hk;obtain⟨m,rfl⟩:∃m',m=m'+1:=⟨m - 1,by omega⟩;show YH a s b _ x out=_;unfold YH YG;have h1:¬((out.length:Int) < Xv b):=by omega
   simp[Ul,h1,E7]
  | succ n ih=>
   intro m x out hm hk;obtain⟨m,rfl⟩:∃m',m=m'+1:=⟨m - 1,by omega⟩;show YH a s b _ x out=_;unfold YH YG;have h1:(out.length:Int) < Xv b:=by omega
   simp only[Ul,Yrl,Ag,h1,decide_true,if_true,E7,Bj];by_cases h2:FO x s b < 0
   .have h3:¬(FO x s b≥0):=by omega
    rw[Ai h3,Ah h2]
   .have h3:FO x s b≥0:=by omega
    rw[Ah h3,Ai h2,Yp (by simp;omega) (by simp;omega),Ag,ih m _ _ (by omega) (by simp;omega)];cases E7 s b n (FO x s b)<;>simp
 have:=key (Xv b).toNat FU a [] (by have:=Y5;omega) (by simp;omega);rw[this];unfold Ki;cases E7 s b (Xv b).toNat a<;>simp
theorem Ydd {s b:Int}:∀{n:Nat} {a:Int} {l:List Int},E7 s b n a=some l->l.length=n/\(∀x∈l,X4 x s=true/\x < 512)/\(0 < n->l.head?=some a):=by
 intro n
 induction n with
 | zero=>intro a l h;simp only[E7,AE] at h;subst h;simp
 | succ n ih=>
  intro a l h;simp only[E7] at h;split at h
  .cases h
  .rename_i h1
   obtain⟨l',h2,rfl⟩:=AL.1 h;obtain⟨h3,h4,_⟩:=ih h2;refine⟨by simp[h3],λx hx=>?_,λ_=>rfl⟩;rcases Cj.1 hx with rfl|hx
   .exact Yxu (s:=s) (b:=b) (by omega)
   .exact h4 x hx
theorem Ylp (a s b:Int):Ki a s b=[]\/((Ki a s b).length:Int)=Xv b:=by
 unfold Ki;have hb:=O4 b;cases h:E7 s b (Xv b).toNat a with
 | none=>exact .inl rfl
 | some l=>
  have:=(Ydd h).1;exact .inr (by simp only[FY];omega)
theorem cI {a s b x:Int} (h:x∈Ki a s b):X4 x s=true/\0<=x/\x < 512:=by
 unfold Ki at h;cases h2:E7 s b (Xv b).toNat a with
 | none=>rw[h2] at h;simp at h
 | some l=>
  rw[h2] at h;have:=(Ydd h2).2.1 x h;exact⟨this.1,(Jm this.1).2.1,this.2⟩
theorem Ypq (a s b:Int):(Ki a s b).length<=8:=by
 have:=O4 b;rcases Ylp a s b with h|h
 .rw[h];simp
 .omega
def Lo (a s b:Int):Bool:=(Ki a s b).all (λx=>decide (x / 64=Ak (Ki a s b) 0 / 64))&&decide (Ki a s b≠[])
theorem rG {x:Int} (h0:0<=x) (h1:x < 512):Ft x 64=x / 64:=q6 h0 (by omega) (by omega)
theorem Yuq (a s b:Int):mV a s b=some (Lo a s b):=by
 unfold mV Lo;rw[Z42,Ag];generalize hA:Ki a s b=l;have hm:∀x∈l,0<=x/\x < 512:=λx hx=>by rw[<-hA] at hx;exact (cI hx).2
 have hl:l.length<=8:=by rw[<-hA];exact Ypq a s b
 have key:∀(m k:Nat),k<=l.length->l.length - k < m->mU a s b m l (l.length:Int) k=some ((l.drop k).all (λx=>decide (x / 64=Ak l 0 / 64))&&decide (l≠[])):=by
  intro m
  induction m with
  | zero=>intro k _ h;omega
  | succ m ih=>
   intro k hk JY;show y9 a s b _ l (l.length:Int) k=_;unfold y9;by_cases hc:k < l.length
   .have h0:=hm _ (B6 hc)
    have h1:=hm _ (B6 (by omega:0 < l.length));rw[Ah (by simpa using hc),Zy hc,Ag,show (0:Int)=((0:Nat):Int) from rfl,Zy (by omega:0 < l.length),Ag,rG h0.1 h0.2,rG h1.1 h1.2,W7 (by omega:0 < l.length),D5 hc,DT];by_cases hq:(l[k]:Int) / (64:Int)=(l[0]:Int) / (64:Int)
    .rw[Ai (by simpa using hq),Yf (by omega),ih (k+1) (by omega) (by omega),show (0:Int)=((0:Nat):Int) from rfl,W7 (by omega:0 < l.length),decide_eq_true hq,GV]
    .rw[Ah (by simpa using hq),decide_eq_false hq,HW,HW]
   .rw[Ai (by simpa using hc),EX (by omega)]
    simp[Cv]
 have:=key FU 0 (Cd _) (by have:=Y5;omega);simpa using this
theorem Yv6 (a s b:Int):jL a s b=some (Lo a s b):=by
 unfold jL Lo;rw[Z4g,Ag];generalize hA:Ki a s b=l;have hm:∀x∈l,0<=x/\x < 512:=λx hx=>by rw[<-hA] at hx;exact (cI hx).2
 have hl:l.length<=8:=by rw[<-hA];exact Ypq a s b
 have key:∀(m k:Nat),k<=l.length->l.length - k < m->jK a s b m l k=some ((l.drop k).all (λx=>decide (x / 64=Ak l 0 / 64))&&decide (l≠[])):=by
  intro m
  induction m with
  | zero=>intro k _ h;omega
  | succ m ih=>
   intro k hk JY;show yR a s b _ l k=_;unfold yR;by_cases hc:k < l.length
   .have h0:=hm _ (B6 hc)
    have h1:=hm _ (B6 (by omega:0 < l.length));rw[Ah (by simpa using hc),Zy hc,Ag,show (0:Int)=((0:Nat):Int) from rfl,Zy (by omega:0 < l.length),Ag,rG h0.1 h0.2,rG h1.1 h1.2,W7 (by omega:0 < l.length),D5 hc,DT];by_cases hq:(l[k]:Int) / (64:Int)=(l[0]:Int) / (64:Int)
    .rw[Ai (by simpa using hq),Yf (by omega),ih (k+1) (by omega) (by omega),show (0:Int)=((0:Nat):Int) from rfl,W7 (by omega:0 < l.length),decide_eq_true hq,GV]
    .rw[Ah (by simpa using hq),decide_eq_false hq,HW,HW]
   .rw[Ai (by simpa using hc),EX (by omega)]
    simp[Cv]
 have:=key FU 0 (Cd _) (by have:=Y5;omega);simpa using this
instance:Inhabited Zk:=⟨Zk.z0⟩
def Qn (r:Zk):Bool:=Lo r.addr r.size r.Az&&(decide ((r.Aa.length:Int)=if r.write then Xv r.Az else 0)&&r.Aa.all λv=>Xw v r.size)
def Zk.sm (r:Zk):Prop:=r.Aa.length < 1048577
theorem rH (r:Zk) (hs:r.sm):Ok r=some (Qn r):=by
 unfold Zk.sm at hs;have hf:W4 r.Aa r=some (!r.Aa.all λv=>Xw v r.size):=by
  unfold W4 J5;refine q7 r.Aa (by omega) (λv=>mX v r) (λv=>Xw v r.size) (λv _=>?_) _ (λm i=>rfl);unfold mX;rw[RR];rfl
 unfold Ok mY Qn;rw[rD,Ag,Yuq,Ag,hf,Ag,tL];by_cases h1:Lo r.addr r.size r.Az=true
 .by_cases h2:r.write=true
  .by_cases h3:(r.Aa.length:Int)=Xv r.Az<;>simp[h1,h2,h3]
  .by_cases h3:r.Aa=[]<;>simp[h1,h2,h3]
 .by_cases h2:r.write=true<;>simp[h1,h2]
theorem Z8u (r:Zk) (hs:r.sm):Tl r=some (Qn r):=by
 unfold Zk.sm at hs;unfold Tl;rw[Yv6,Ag];have hb:=O4 r.Az;have key:∀(m k:Nat),k<=r.Aa.length->r.Aa.length - k < m->jM r m k=some (decide ((r.Aa.length:Int)=if r.write then Xv r.Az else 0)&&(r.Aa.drop k).all λv=>Xw v r.size):=by
  intro m
  induction m with
  | zero=>intro k _ h;omega
  | succ m ih=>
   intro k hk hm;show yS r _ k=_;unfold yS;by_cases hc:k < r.Aa.length
   .rw[Ah (by simpa using hc),Zy hc,Ag,ML,Ag,RS,Ag,D5 hc,DT]
    by_cases hq:Xw r.Aa[k] r.size=true
    .rw[Ai (by simp[hq]),Yf (by omega),ih (k+1) (by omega) (by omega)]
     simp[hq]
    .rw[Ah (by simp[hq])]
     simp[hq]
   .rw[Ai (by simpa using hc),EX (by omega),Ul]
    cases h2:r.write<;>simp only[if_true,if_false,Bn,Ag,UU,L5]<;>generalize decide ((r.Aa.length:Int)=0)=x<;>generalize decide ((r.Aa.length:Int)=Xv r.Az)=y<;>cases x<;>cases y<;>rfl
 have:=key FU 0 (Cd _) (by have:=Y5;omega);unfold Qn;by_cases h1:Lo r.addr r.size r.Az=true
 .rw[Ai (by simp[h1]),show (0:Int)=((0:Nat):Int) from rfl,this]
  simp[h1]
 .rw[Ah (by simp[h1])]
  simp[h1]
theorem IW {r:Zk} (h:Qn r=true):Lo r.addr r.size r.Az=true/\(r.Aa.length:Int)=(if r.write then Xv r.Az else 0)/\∀v∈r.Aa,Xw v r.size=true:=by
 simp only[Qn,Bg,Bj,Cb] at h;exact⟨h.1,h.2.1,h.2.2⟩
theorem O5 {a s b:Int} (h:Lo a s b=true):((Ki a s b).length:Int)=Xv b/\1<=Xv b:=by
 simp only[Lo,Bg,Bj] at h;rcases Ylp a s b with h1|h1
 .exact absurd h1 h.2
 .have:0 < (Ki a s b).length:=Cv.2 h.2
  omega
theorem cJ {r:Zk} (h:Qn r=true):r.sm:=by
 have:=(IW h).2.1;have hb:=O4 r.Az;unfold Zk.sm;split at this<;>omega
theorem Ybq (r:Zk) (hs:r.sm):R3 r=some r:=by
 unfold Zk.sm at hs;unfold R3 Xh;rw[Yp (by simp;omega) (by simp;omega)];rfl
theorem Yb5 (r:Zk) (hs:r.sm):Re r=some r:=by
 unfold Zk.sm at hs;unfold Re;rw[Yp (by simp;omega) (by simp;omega)];rfl
instance:Inhabited Zg:=⟨Zg.z0⟩
def Zw (m:Zg):Int:=if m.queue=[] then 0 else Xv (Ak m.queue 0).Az
theorem cK (m:Zg):0<=Zw m/\Zw m<=8:=by
 unfold Zw;have:=O4 (Ak m.queue 0).Az;split<;>omega
def O6 (m:Zg):Bool:=decide (m.queue.length<=4)&&(decide (0<=m.tries)&&(m.queue.all Qn&&
 (if m.queue=[] then decide (m.Ao=0)&&(decide (m.done=0)&&(decide (m.tries=0)&&(!m.Ax&&!m.broken))) else decide (0<=m.done/\m.done<=Zw m - 1)&&decide (m.done<=m.Ao/\m.Ao<=min (m.done+2) (Zw m)))))
def Zg.sm (m:Zg):Prop:=m.queue.length < 1048577/\∀r∈m.queue,r.sm
structure Yy (m:Zg):Prop where
 len:m.queue.length<=4
 tries:0<=m.tries
 reqs:∀r∈m.queue,Qn r=true
 none:m.queue=[]->m.Ao=0/\m.done=0/\m.tries=0/\m.Ax=false/\m.broken=false
 some:m.queue≠[]->0<=m.done/\m.done < Zw m/\m.done<=m.Ao/\m.Ao<=m.done+2/\m.Ao<=Zw m
theorem Gm {m:Zg}:O6 m=true↔Yy m:=by
 unfold O6;by_cases h:m.queue=[]
 .constructor
  .intro h1
   simp only[h,if_true,Bg,Bj,Ni] at h1;exact⟨by simp[h],h1.2.1,by simp[h],λ_=>⟨h1.2.2.2.1,h1.2.2.2.2.1,h1.2.2.2.2.2.1,h1.2.2.2.2.2.2.1,h1.2.2.2.2.2.2.2⟩,λh2=>absurd h h2⟩
  .intro h1
   obtain⟨h2,h3,h4,h5,h6⟩:=h1.none h;simp[h,h2,h3,h4,h5,h6]
 .constructor
  .intro h1
   rw[Ai h] at h1;simp only[Bg,Bj,Cb] at h1;exact⟨h1.1,h1.2.1,h1.2.2.1,λh2=>absurd h2 h,λ_=>by omega⟩
  .intro h1
   have h2:=h1.some h;rw[Ai h];simp only[Bg,Bj,Cb];exact⟨h1.len,h1.tries,h1.reqs,by omega,by omega⟩
theorem Yy.sm {m:Zg} (h:Yy m):m.sm:=⟨by have:=h.len;omega,λr hr=>cJ (h.reqs r hr)⟩
theorem rI (m:Zg):Om m=some (Zw m):=by
 unfold Om Zw;by_cases h:m.queue=[]
 .simp[h]
 .have h1:0 < m.queue.length:=Cv.2 h
  rw[Ai (by simpa using h),Ai h,Xm (by omega) (by omega),Ag,rD];rfl
theorem rJ (m:Zg):NX m=some (Zw m):=by
 unfold NX Zw;by_cases h:m.queue=[]
 .simp[h]
 .have h1:0 < m.queue.length:=Cv.2 h
  rw[Ai (by simpa using h),Ai h,Xm (by omega) (by omega),Ag,Ul];rfl
theorem Un (m:Zg) (hs:m.sm):Jb m=some (O6 m):=by
 have hf:Wc m.queue=some (!m.queue.all Qn):=by
  unfold Wc Kc;refine q7 m.queue (by have:=hs.1;omega) nI Qn (λr hr=>?_) _ (λm i=>rfl);unfold nI;rw[rH r (hs.2 r hr)];rfl
 have hb:=cK m;have hJ:W3 m false=some (if m.queue=[] then decide (m.Ao=0)&&(decide (m.done=0)&&(decide (m.tries=0)&&(!m.Ax&&!m.broken))) else decide (0<=m.done/\m.done<=Zw m - 1)&&decide (m.done<=m.Ao/\m.Ao<=min (m.done+2) (Zw m))):=by
  unfold W3;rw[rI,Ag,Ag,Wm,Ag,Wm,Ag,Xb (by omega) (by omega)];by_cases h:m.queue=[]
  .rw[Ai (by simp),Ah (by simpa using h),Ah h]
   by_cases h1:m.Ao=0<;>by_cases h2:m.done=0<;>by_cases h3:m.tries=0<;>by_cases h4:m.Ax=true<;>simp[h1,h2,h3,h4]
  .rw[Ai (by simp),Ai (by simpa using h),Ai h]
   by_cases h1:0<=m.done/\m.done<=Zw m - 1
   .rw[Yl (by omega) (by omega),Gk]
    simp[h1]
   .simp[h1]
 unfold Jb O6;rw[hf,Ag];by_cases h1:(m.queue.length:Int) > 4
 .have h2:¬m.queue.length<=4:=by omega
  simp[h1,h2,W3]
 .have h2:m.queue.length<=4:=by omega
  by_cases h3:m.tries < 0
  .have h4:¬0<=m.tries:=by omega
   simp[h1,h2,h3,h4,W3]
  .have h4:0<=m.tries:=by omega
   rw[Ai (by simpa using h1),Ai (by simpa using h3)];by_cases h5:m.queue.all Qn=true
   .rw[h5,Du,hJ]
    simp only[h2,h4,decide_true,GV]
   .have h6:m.queue.all Qn=false:=by simpa using h5
    rw[h6,FF];simp[W3]
theorem Uo (m:Zg) (hs:m.sm):My m=some (O6 m):=by
 have hb:=cK m;have hJ:QZ m false=some (if m.queue=[] then decide (m.Ao=0)&&(decide (m.done=0)&&(decide (m.tries=0)&&(!m.Ax&&!m.broken))) else decide (0<=m.done/\m.done<=Zw m - 1)&&decide (m.done<=m.Ao/\m.Ao<=min (m.done+2) (Zw m))):=by
  unfold QZ;rw[rJ,Ag,Ag,Xr,Ag,Xr,Ag,Xb (by omega) (by omega)];by_cases h:m.queue=[]
  .rw[Ai (by simp),Ah (by simpa using h),Ah h]
   by_cases h1:m.Ao=0<;>by_cases h2:m.done=0<;>by_cases h3:m.tries=0<;>by_cases h4:m.Ax=true<;>simp[h1,h2,h3,h4]
  .rw[Ai (by simp),Ai (by simpa using h),Ai h]
   by_cases h1:0<=m.done/\m.done<=Zw m - 1
   .rw[Yl (by omega) (by omega),Gk]
    simp[h1]
   .simp[h1]
 unfold My;have hl:=hs.1;have key:∀(n k:Nat),k<=m.queue.length->m.queue.length - k < n->jN m n k=some (decide (m.queue.length<=4)&&(decide (0<=m.tries)&&((m.queue.drop k).all Qn&&
 (if m.queue=[] then decide (m.Ao=0)&&(decide (m.done=0)&&(decide (m.tries=0)&&(!m.Ax&&!m.broken))) else decide (0<=m.done/\m.done<=Zw m - 1)&&decide (m.done<=m.Ao/\m.Ao<=min (m.done+2) (Zw m)))))):=by
  intro n
  induction n with
  | zero=>intro k _ h;omega
  | succ n ih=>
   intro k hk hm;show yT m _ k=_;unfold yT;by_cases hc:k < m.queue.length
   .rw[Ah (by simpa using hc),Zy hc,Ag,Z8u _ (hs.2 _ (B6 hc)),Ag,D5 hc,DT]
    by_cases hq:Qn m.queue[k]=true
    .rw[Ai (by simp[hq]),Yf (by omega),ih (k+1) (by omega) (by omega)]
     simp[hq]
    .rw[Ah (by simp[hq])]
     simp[hq]
   .rw[Ai (by simpa using hc),EX (by omega)]
    by_cases h1:(m.queue.length:Int) > 4
    .have h2:¬m.queue.length<=4:=by omega
     simp[h1,h2,QZ]
    .have h2:m.queue.length<=4:=by omega
     by_cases h3:m.tries < 0
     .have h4:¬0<=m.tries:=by omega
      simp[h1,h2,h3,h4,QZ]
     .have h4:0<=m.tries:=by omega
      rw[Ai (by simpa using h1),decide_eq_false h3,hJ];simp only[h2,h4,decide_true,GV,UU]
 have:=key FU 0 (Cd _) (by have:=Y5;omega);simpa [O6] using this
theorem cL (m:Zg) (hs:m.sm):Oo m=some m:=by
 unfold Oo;refine (Ype 64 (by decide) m.queue hs.1 R3 (λr hr=>Ybq r (hs.2 r hr)) (λv=>some {m with queue:=v}) (nN m) (λn v i=>rfl)).trans ?_;rfl
theorem cM (m:Zg) (hs:m.sm):NY m=some m:=by
 unfold NY;refine (Ype 64 (by decide) m.queue hs.1 Re (λr hr=>Yb5 r (hs.2 r hr)) (λv=>some {m with queue:=v}) (jX m) (λn v i=>rfl)).trans ?_;rfl
def Dp (m:Zg) (r:Zk):Zg:=if Qn r=true/\m.queue.length≠4 then {m with queue:=m.queue++[r]} else m
def Lp (m:Zg):Bool:=decide (m.Ao < Zw m)
def Xn (m:Zg) (b:Int):Int:=if 0<=b/\b<=Zw m - 1 then Ak (Ki (Ak m.queue 0).addr (Ak m.queue 0).size (Ak m.queue 0).Az) b else -1
def Wi (m:Zg):Zg:=if m.Ao < Zw m/\m.Ao≠m.done+2 then {m with Ao:=m.Ao+1} else m
def DH (m:Zg):Zg:=if m.Ao=m.done then m else {m with Ao:=m.Ao - 1}
def C4 (m:Zg):Zg:=if m.Ao=m.done then m else if m.done+1=Zw m then Zg.mk m.queue.tail 0 0 0 false false else Zg.mk m.queue m.Ao (m.done+1) 0 false m.broken
theorem J9 {m:Zg} (h:Yy m):0<=m.done/\m.done<=8/\0<=m.Ao/\m.Ao<=8:=by
 have hb:=cK m;by_cases hq:m.queue=[]
 .have:=h.none hq;omega
 .have:=h.some hq;omega
theorem rK {m:Zg} (h:Yy m) (hq:m.queue≠[]):Qn (Ak m.queue 0)=true/\Zw m=Xv (Ak m.queue 0).Az/\1<=Zw m:=by
 have h1:0 < m.queue.length:=Cv.2 hq;have h2:Qn (Ak m.queue 0)=true:=h.reqs _ (Gj (by omega) (by omega));have h3:Zw m=Xv (Ak m.queue 0).Az:=by unfold Zw;rw[Ai hq]
 exact⟨h2,h3,by rw[h3];exact (O5 (IW h2).1).2⟩
theorem Ytj {m:Zg} {b:Int} (h:Yy m) (h0:0<=b) (h1:b < Zw m):Xn m b∈Ki (Ak m.queue 0).addr (Ak m.queue 0).size (Ak m.queue 0).Az/\X4 (Xn m b) (Ak m.queue 0).size=true/\0<=Xn m b/\Xn m b < 512:=by
 have hq:m.queue≠[]:=by
  intro hq;unfold Zw at h1;rw[Ah hq] at h1;omega
 obtain⟨h2,h3,h4⟩:=rK h hq;have h5:=(O5 (IW h2).1).1;have h6:Xn m b=Ak (Ki (Ak m.queue 0).addr (Ak m.queue 0).size (Ak m.queue 0).Az) b:=by
  unfold Xn;rw[Ah (by omega)]
 have h7:=Gj (xs:=Ki (Ak m.queue 0).addr (Ak m.queue 0).size (Ak m.queue 0).Az) h0 (by omega);rw[h6];have h8:=cI h7;exact⟨h7,h8.1,h8.2.1,h8.2.2⟩
theorem RT {m:Zg} (b:Int) (h:Yy m):On m b=some (Xn m b):=by
 have hb:=cK m;unfold On nJ;rw[Un m h.sm,Ag,Gm.2 h,rI,Ag,Wm,Ag,Xb (by omega) (by omega)];by_cases h1:0<=b/\b<=Zw m - 1
 .have hq:m.queue≠[]:=by
   intro hq;unfold Zw at h1;rw[Ah hq] at h1;omega
  obtain⟨h2,h3,h4⟩:=rK h hq;have h5:=(O5 (IW h2).1).1;have h6:0 < m.queue.length:=Cv.2 hq;rw[Xm (by omega) (by omega),Ag,Z42,Ag,Xm h1.1 (by omega)];simp[h1,Xn]
 .simp[h1,Xn]
theorem Up {m:Zg} (b:Int) (h:Yy m):Rf m b=some (Xn m b):=by
 have hb:=cK m;unfold Rf jZ;rw[Uo m h.sm,Ag,Gm.2 h,rJ,Ag,Xr,Ag,Xb (by omega) (by omega)];by_cases h1:0<=b/\b<=Zw m - 1
 .have hq:m.queue≠[]:=by
   intro hq;unfold Zw at h1;rw[Ah hq] at h1;omega
  obtain⟨h2,h3,h4⟩:=rK h hq;have h5:=(O5 (IW h2).1).1;have h6:0 < m.queue.length:=Cv.2 hq;rw[Xm (by omega) (by omega),Ag,Z4g,Ag,Xm h1.1 (by omega)];simp[h1,Xn]
 .simp[h1,Xn]
theorem Yau {m:Zg} (h:Yy m):aT m=some (Lp m):=by
 unfold aT Lp;rw[Un m h.sm,Ag,Gm.2 h,rI];rfl
theorem Yav {m:Zg} (h:Yy m):YZ m=some (Lp m):=by
 unfold YZ Lp;rw[Uo m h.sm,Ag,Gm.2 h,rJ];rfl
theorem Yu5 {m:Zg} {r:Zk} (h:Yy m) (hr:r.sm):∃b,nO m r=some (Dp m r,b):=by
 have hl:=h.len;unfold nO aE Dp;rw[cL m h.sm,Ag,Un m h.sm,Ag,Gm.2 h,rH r hr,Ag,Ybq r hr,Ag,Yp (by simp;omega) (by simp;omega),Ag];by_cases h1:Qn r=true
 .by_cases h2:m.queue.length=4
  .simp[h1,h2]
  .have h3:¬((m.queue.length:Int)=4):=by omega
   simp[h1,h2,h3]
 .simp[h1]
theorem Yvf {m:Zg} {r:Zk} (h:Yy m) (hr:r.sm):∃b,kA m r=some (Dp m r,b):=by
 have hl:=h.len;unfold kA YP Dp;rw[cM m h.sm,Ag,Uo m h.sm,Ag,Gm.2 h,Z8u r hr,Ag,Yb5 r hr,Ag,Yp (by simp;omega) (by simp;omega),Ag];by_cases h1:Qn r=true
 .by_cases h2:m.queue.length=4
  .simp[h1,h2]
  .have h3:¬((m.queue.length:Int)=4):=by omega
   simp[h1,h2,h3]
 .simp[h1]
theorem Yry {m:Zg} (h:Yy m):∃b,pC m=some (Wi m,b):=by
 have hb:=J9 h;unfold pC pB Wi;rw[cL m h.sm,Ag,Yau h,Ag,Yl (a:=m.done) (by omega) (by omega),Yl (by omega) (by omega)];unfold Lp;by_cases h1:m.Ao < Zw m
 .by_cases h2:m.Ao=m.done+2<;>simp[h1,h2]
 .simp[h1]
theorem Yr9 {m:Zg} (h:Yy m):∃b,lD m=some (Wi m,b):=by
 have hb:=J9 h;unfold lD lC Wi;rw[cM m h.sm,Ag,Yav h,Ag,Yl (a:=m.done) (by omega) (by omega),Yl (by omega) (by omega)];unfold Lp;by_cases h1:m.Ao < Zw m
 .by_cases h2:m.Ao=m.done+2<;>simp[h1,h2]
 .simp[h1]
theorem Yu7 {m:Zg} (h:Yy m):∃b,nR m=some (DH m,b):=by
 have hb:=J9 h;unfold nR nQ DH;rw[cL m h.sm,Ag,Un m h.sm,Ag,Gm.2 h,Xb (by omega) (by omega)];by_cases h1:m.Ao=m.done<;>simp[h1]
theorem Yum {m:Zg} (h:Yy m):∃b,kE m=some (DH m,b):=by
 have hb:=J9 h;unfold kE kD DH;rw[cM m h.sm,Ag,Uo m h.sm,Ag,Gm.2 h,Xb (by omega) (by omega)];by_cases h1:m.Ao=m.done<;>simp[h1]
theorem rL {α:Type} (xs:List α) (h:xs≠[]) (hl:xs.length < 1048577):Ys xs 1 (xs.length:Int)=some xs.tail:=by
 have h1:0 < xs.length:=Cv.2 h;unfold Ys;rw[Ah ⟨by omega,by omega,by omega⟩]
 congr 1
 rw[D6 (by simp),<-List.drop_one];rfl
theorem Lq {m:Zg} (h:Yy m) (hb:m.Ao≠m.done):m.queue≠[]:=by
 intro hq;have:=h.none hq;omega
theorem Yxx {m:Zg} (h:Yy m):∃b,oN m=some (C4 m,b):=by
 have hb:=J9 h;have hl:=h.len;unfold oN oM C4;rw[cL m h.sm,Ag,Un m h.sm,Ag,Gm.2 h,Yl (by omega) (by omega),rI,Ag];have e:Zw {m with done:=m.done+1}=Zw m:=rfl;rw[e];by_cases h1:m.Ao=m.done
 .simp[h1]
 .rw[rL _ (Lq h h1) (by omega),Ag]
  by_cases h2:m.done+1=Zw m<;>simp[h1,h2]
theorem Yyu {m:Zg} (h:Yy m):∃b,kW m=some (C4 m,b):=by
 have hb:=J9 h;have hl:=h.len;unfold kW kV C4;rw[cM m h.sm,Ag,Uo m h.sm,Ag,Gm.2 h,Yl (by omega) (by omega),rJ,Ag];by_cases h1:m.Ao=m.done
 .simp[h1]
 .rw[rL _ (Lq h h1) (by omega),Ag]
  by_cases h2:m.done+1=Zw m<;>simp[h1,h2]
theorem Yg7 {m:Zg} {r:Zk} (h:m.queue≠[]):Ak (m.queue++[r]) 0=Ak m.queue 0:=by
 cases hq:m.queue with
 | nil=>exact absurd hq h
 | cons a l=>rfl
theorem Y2l {m:Zg} {r:Zk} (h:Yy m):Yy (Dp m r):=by
 unfold Dp;split
 .rename_i h1
  have hl:=h.len;have Yh:m.queue++[r]≠[]:=by simp
  refine⟨by simp;omega,h.tries,λx hx=>?_,λhx=>absurd hx Yh,λ_=>?_⟩
  .rcases BT.1 hx with hx|hx
   .exact h.reqs x hx
   .rw[List.mem_singleton.1 hx];exact h1.1
  .by_cases hq:m.queue=[]
   .obtain⟨h2,h3,h4,h5,h6⟩:=h.none hq
    have hm:Zw {m with queue:=m.queue++[r]}=Xv r.Az:=by
     unfold Zw;rw[Ai Yh];simp[hq,Ak]
    have:=(O5 (IW h1.1).1).2;rw[hm];simp only[h2,h3];omega
   .have h2:=h.some hq
    have hm:Zw {m with queue:=m.queue++[r]}=Zw m:=by
     unfold Zw;rw[Ai Yh,Ai hq];simp only[Yg7 hq]
    rw[hm];exact h2
 .exact h
theorem Yyj {m:Zg} (h:Yy m):Yy (Wi m):=by
 unfold Wi;split
 .rename_i h1
  have hq:m.queue≠[]:=by
   intro hq;unfold Zw at h1;rw[Ah hq] at h1;have:=J9 h;omega
  have h2:=h.some hq;refine⟨h.len,h.tries,h.reqs,λhx=>absurd hx hq,λ_=>?_⟩;have hm:Zw {m with Ao:=m.Ao+1}=Zw m:=rfl;rw[hm];simp only;omega
 .exact h
theorem Yk1 {m:Zg} (h:Yy m):Yy (DH m):=by
 unfold DH;split
 .exact h
 .rename_i h1
  have hq:=Lq h h1;have h2:=h.some hq;refine⟨h.len,h.tries,h.reqs,λhx=>absurd hx hq,λ_=>?_⟩;have hm:Zw {m with Ao:=m.Ao - 1}=Zw m:=rfl;rw[hm];simp only;omega
theorem Y60 {m:Zg} (h:Yy m):Yy (C4 m):=by
 unfold C4;split
 .exact h
 .rename_i h1
  have hq:=Lq h h1;have h2:=h.some hq;split
  .have hr:∀r∈m.queue.tail,Qn r=true:=λr hr=>h.reqs r (List.mem_of_mem_tail hr)
   refine⟨by have:=h.len;simp;omega,by simp,hr,λ_=>by simp,λhx=>?_⟩;have h3:Yy (Zg.mk m.queue.tail 0 0 0 false false)->True:=λ_=>trivial;have h4:0 < m.queue.tail.length:=Cv.2 hx;have h5:Qn (Ak m.queue.tail 0)=true:=hr _ (Gj (by omega) (by omega));have h6:=(O5 (IW h5).1).2;have hm:Zw (Zg.mk m.queue.tail 0 0 0 false false)=Xv (Ak m.queue.tail 0).Az:=by
    unfold Zw;rw[Ai hx]
   rw[hm];simp only;omega
  .rename_i h3
   refine⟨h.len,by simp,h.reqs,λhx=>absurd hx hq,λ_=>?_⟩;have hm:Zw (Zg.mk m.queue m.Ao (m.done+1) 0 false m.broken)=Zw m:=rfl;rw[hm];simp only;omega
theorem Xbb {a b:Int} {k:Nat} (h0:0<=a) (h1:a < 2^k) (hb:0<=b) (hk:b*2^k+a < 9223372036854775808):yB a (b*2^k)=a+b*2^k:=by
 obtain⟨a,rfl⟩:=sZ h0;obtain⟨b,rfl⟩:=sZ hb;have e1:(b:Int)*2^k=((b*2^k:Nat):Int):=by simp
 rw[e1] at hk ⊢;have KF:a < 2^k:=by
  have:((a:Nat):Int) < ((2^k:Nat):Int):=by simpa using h1
  exact Int.ofNat_lt.1 this
 have h2:a+b*2^k < 18446744073709551616:=by omega
 unfold yB;show IntKind.i64.wrap (((BitVec.ofInt 64 ((a:Nat):Int) ||| BitVec.ofInt 64 ((b*2^k:Nat):Int)).toNat:Nat):Int)=_;rw[eV,eV,BitVec.toNat_or,eX,eX,UM (by omega),UM (by omega)];have h3:a ||| b*2^k=a+b*2^k:=by
  rw[Nat.or_comm,<-Nat.shiftLeft_eq,<-Nat.shiftLeft_add_eq_or_of_lt KF,fF]
 rw[h3,RL (by omega) (by omega)];simp
theorem Y9o {a:Int} (h0:0<=a) (h1:a < 9223372036854775808):QT a 255=a % 256:=by
 obtain⟨a,rfl⟩:=sZ h0;unfold QT;show IntKind.i64.wrap (((BitVec.ofInt 64 ((a:Nat):Int) &&& BitVec.ofInt 64 ((255:Nat):Int)).toNat:Nat):Int)=_;rw[eV,eV,BitVec.toNat_and,eX,eX,UM (by omega),UM (by omega)];have h3:a &&& 255=a % 256:=Nat.and_two_pow_sub_one_eq_mod a 8;rw[h3,RL (by omega) (by omega)];omega
theorem Xb3 {a:Int} {k:Nat} (hk:k<=64) (h0:0<=a) (h1:a*2^k < 9223372036854775808):QU a (k:Int)=a*2^k:=by
 unfold QU;have:min ((k:Int).toNat) IntKind.i64.bits=k:=by
  show min ((k:Int).toNat) 64=k;omega
 rw[this];have:0<=a*2^k:=tJ h0 (Int.pow_nonneg (by omega));exact RL (by omega) h1
theorem Xbz {a:Int} {k:Nat} (hk:k<=64) (h0:0<=a):QV a (k:Int)=a / 2^k:=by
 unfold QV;have:min ((k:Int).toNat) IntKind.i64.bits=k:=by
  show min ((k:Int).toNat) 64=k;omega
 rw[this,Int.fdiv_eq_ediv_of_nonneg _ (Int.pow_nonneg (by omega))]
def DN (n:Int):Bool:=decide (0<=n/\n<=255)
def Lr (mem:List Int):Bool:=decide (mem.length<=512)&&mem.all DN
def GL (mem:List Int) (a s:Int):Bool:=Lr mem&&(X4 a s&&decide (a<=(mem.length:Int) - Y1 s))
theorem Ydp (mem:List Int) (a s:Int) (hl:mem.length < 1048577):TH mem a s=some (GL mem a s):=by
 have hb:=O3 s;have hf:Qj mem=some (!mem.all DN):=by
  unfold Qj zC;refine q7 mem (by omega) nY DN (λr hr=>?_) _ (λm i=>rfl);unfold nY;rw[Wm];rfl
 unfold TH GL Lr;rw[hf,Ag,rF,Ag,Uk,Ag,Xb (by omega) (by omega)];by_cases h1:mem.length<=512
 .have h2:(mem.length:Int)<=512:=by omega
  by_cases h3:mem.all DN=true
  .by_cases h4:X4 a s=true<;>simp only[h1,h2,h3,h4,decide_true,if_true,Du,FF,GV,L6,HW,Bn,if_false]
  .simp[h1,h2,h3]
 .have h2:¬(mem.length:Int)<=512:=by omega
  simp[h1,h2]
theorem Ydv (mem:List Int) (hl:mem.length < 1048577):YA mem=some (Lr mem):=by
 unfold YA Lr;have key:∀(n k:Nat),k<=mem.length->mem.length - k < n->jG mem n k=some (decide (mem.length<=512)&&(mem.drop k).all DN):=by
  intro n
  induction n with
  | zero=>intro k _ h;omega
  | succ n ih=>
   intro k hk hm;show yP mem _ k=_;unfold yP;by_cases hc:k < mem.length
   .rw[Ah (by simpa using hc),Zy hc,Ag,Xr,Ag,D5 hc,DT]
    by_cases hq:0<=mem[k]/\mem[k]<=255
    .rw[Ai (by simp[hq]),Yf (by omega),ih (k+1) (by omega) (by omega)]
     simp[hq,DN]
    .rw[Ah (by simp[hq])]
     simp[hq,DN]
   .rw[Ai (by simpa using hc),EX (by omega)]
    by_cases h1:mem.length<=512
    .have h2:(mem.length:Int)<=512:=by omega
     simp[h1,h2]
    .have h2:¬(mem.length:Int)<=512:=by omega
     simp[h1,h2]
 have:=key FU 0 (Cd _) (by have:=Y5;omega);simpa using this
theorem Ygz (mem:List Int) (a s:Int) (hl:mem.length < 1048577):YS mem a s=some (GL mem a s):=by
 have hb:=O3 s;unfold YS GL;rw[Ydv mem hl,Ag,rE,Ag,MK,Ag,Xb (by omega) (by omega)];by_cases h3:Lr mem=true
 .by_cases h4:X4 a s=true<;>simp only[h3,h4,if_true,GV,HW,Bn,if_false]
 .simp[h3]
def Ek (mem:List Int):Nat->Int->Int
 | 0,_=>0
 | n+1,a=>Ak mem a+256*Ek mem n (a+1)
def MM:Nat->List Int->Int->Int->List Int
 | 0,l,_,_=>l
 | n+1,l,a,v=>MM n (l.set a.toNat (v % 256)) (a+1) (v / 256)
theorem Y7s:∀(n:Nat) (l:List Int) (a v:Int),(MM n l a v).length=l.length:=by
 intro n
 induction n with
 | zero=>intro l a v;rfl
 | succ n ih=>intro l a v;simp only[MM,ih,JM]
theorem Y1t:∀(n:Nat) (l:List Int) (a v:Int),l.all DN=true->(MM n l a v).all DN=true:=by
 intro n
 induction n with
 | zero=>intro l a v h;exact h
 | succ n ih=>
  intro l a v h;refine ih _ _ _ ?_;rw[Cb] at h ⊢;intro x hx;rcases eP hx with hx|rfl
  .exact h x hx
  .have h1:0<=v % 256:=UQ _ (by omega)
   have h2:v % 256 < 256:=UK _ (by omega);simp[DN];omega
theorem Ypx (mem:List Int):∀(n:Nat) (a:Int),Ek mem (n+1) a=Ek mem n a+256^n*Ak mem (a+n):=by
 intro n
 induction n with
 | zero=>intro a;simp[Ek]
 | succ n ih=>
  intro a;rw[Ek,ih (a+1),Ek];rw[Int.mul_add,<-Int.mul_assoc,show (256:Int)*256^n=256^(n+1) by rw[Int.pow_succ,SE],show a+1+(n:Int)=a+((n+1:Nat):Int) by omega];omega
theorem Y05 {mem:List Int} (h:mem.all DN=true):∀(n:Nat) (a:Int),0<=a->a+n<=(mem.length:Int)->0<=Ek mem n a/\Ek mem n a < 256^n:=by
 intro n
 induction n with
 | zero=>intro a _ _;simp[Ek]
 | succ n ih=>
  intro a h0 h1;have h2:=ih (a+1) (by omega) (by omega);have h3:=Cb.1 h _ (Gj h0 (by omega:a < (mem.length:Int)));simp only[DN,Bj] at h3;simp only[Ek];have e:(256:Int)^(n+1)=256*256^n:=by rw[Int.pow_succ,SE]
  rw[e];omega
def O7 (mem:List Int) (a s:Int):Int:=Ek mem (Y1 s).toNat a
def O8 (mem:List Int) (a s v:Int):List Int:=MM (Y1 s).toNat mem a v
theorem cN {mem:List Int} {a s:Int} (h:GL mem a s=true):mem.length<=512/\mem.all DN=true/\0 < Y1 s/\0<=a/\a+Y1 s<=(mem.length:Int):=by
 simp only[GL,Lr,Bg,Bj] at h;have:=Jm h.2.1;exact⟨h.1.1,h.1.2,this.1,this.2.1,by omega⟩
theorem Yt8 (k:Nat) (h:k<=4):(256:Int)^k=2^(8*k)/\(256:Int)^k<=4294967296:=by
 have:k=0\/k=1\/k=2\/k=3\/k=4:=by omega
 rcases this with rfl|rfl|rfl|rfl|rfl<;>decide
theorem Yzo {mem:List Int} {a s:Int} (h:GL mem a s=true):oJ mem a s=some (O7 mem a s,true):=by
 obtain⟨h1,h2,h3,h4,h5⟩:=cN h;have hb:=O3 s;unfold oJ O7;rw[Ydp mem a s (by omega),Ag,h,Ai (by simp),Uk,Ag];have key:∀(r n k:Nat),r < n->(k:Int)+r=Y1 s->oI mem a s n (Ek mem k a) (Y1 s) k=some (Ek mem (k+r) a,true):=by
  intro r
  induction r with
  | zero=>
   intro n k hn hk;obtain⟨n,rfl⟩:∃m',n=m'+1:=⟨n - 1,by omega⟩;show aN mem a s _ (Ek mem k a) (Y1 s) k=_;unfold aN;rw[Ai (by simp;omega)];rfl
  | succ r ih=>
   intro n k hn hk;obtain⟨n,rfl⟩:∃m',n=m'+1:=⟨n - 1,by omega⟩;show aN mem a s _ (Ek mem k a) (Y1 s) k=_;unfold aN;have h6:0<=a+(k:Int):=by omega
   have h7:a+(k:Int) < (mem.length:Int):=by omega
   have h8:=Cb.1 h2 _ (Gj h6 h7);simp only[DN,Bj] at h8;have h9:=Y05 h2 k a h4 (by omega);have hp:=Yt8 k (by omega);have VP:(0:Int) < 2^(8*k):=Int.pow_pos (by omega);have IX:Ak mem (a+k)*2^(8*k)<=255*4294967296:=by
    rw[<-hp.1];exact Int.mul_le_mul h8.2 hp.2 (by rw[hp.1];omega) (by omega)
   rw[Ah (by simp;omega),Yl (by omega) (by omega),Xm h6 h7,Ag,EN (by omega) (by omega),Y5p (by omega),Ag,show (8:Int)*(k:Int)=((8*k:Nat):Int) by omega,Xb3 (by omega) h8.1 (by omega),Xbb h9.1 (by rw[<-hp.1];exact h9.2) h8.1 (by have:=h9.2;rw[hp.1] at this;have:=hp.2;rw[hp.1] at this;omega),Yf (by omega)];have e:Ek mem k a+Ak mem (a+k)*2^(8*k)=Ek mem (k+1) a:=by
    rw[Ypx,hp.1,SE]
   rw[e,ih n (k+1) (by omega) (by omega),show k+1+r=k+(r+1) by omega]
 have:=key (Y1 s).toNat FU 0 (by have:=Y5;omega) (by omega);simpa [Ek] using this
theorem Yzs {mem:List Int} {a s:Int} (h:GL mem a s=true):kS mem a s=some (O7 mem a s,true):=by
 obtain⟨h1,h2,h3,h4,h5⟩:=cN h;have hb:=O3 s;unfold kS O7;rw[Ygz mem a s (by omega),Ag,h,Ai (by simp),MK,Ag,Xb (by omega) (by omega)];have key:∀(r n j:Nat) (v:Int),r < n->(r:Int)<=Y1 s->j+r<=4->0<=v->v < 256^j->kR mem a s n v ((r:Int) - 1)=some (v*256^r+Ek mem r a,true):=by
  intro r
  induction r with
  | zero=>
   intro n j v hn hk _ _ _;obtain⟨n,rfl⟩:∃m',n=m'+1:=⟨n - 1,by omega⟩;show YW mem a s _ v _=_;unfold YW;rw[Ai (by simp)];simp[Ek]
  | succ r ih=>
   intro n j v hn hk hj hv D4;obtain⟨n,rfl⟩:∃m',n=m'+1:=⟨n - 1,by omega⟩;show YW mem a s _ v _=_;unfold YW;have h6:0<=a+(r:Int):=by omega
   have h7:a+(r:Int) < (mem.length:Int):=by omega
   have h8:=Cb.1 h2 _ (Gj h6 h7);simp only[DN,Bj] at h8;have hp:=(Yt8 j (by omega)).2;have e1:(256:Int)^(r+1)=256^r*256:=Int.pow_succ ..;have e3:(256:Int)^(j+1)=256^j*256:=Int.pow_succ ..;have e2:(((r+1:Nat):Int) - 1)=(r:Int):=by omega
   rw[e2,Ah (by simp),Yl (by omega) (by omega),Xm h6 h7,Ag,EN (by omega) (by omega),Yl (by omega) (by omega),Xb (by omega) (by omega),ih n (j+1) _ (by omega) (by omega) (by omega) (by omega) (by rw[e3];omega)];rw[Ypx,Int.add_mul,e1,SE (256^r) 256,<-Int.mul_assoc,SE (256^r) (Ak mem (a+r))]
   congr 2
   omega
 have:=key (Y1 s).toNat FU 0 0 (by have:=Y5;omega) (by omega) (by omega) (by omega) (by simp);rw[show ((Y1 s).toNat:Int)=Y1 s by omega] at this;simpa using this
theorem Uq (xs:List Int) (h:xs.length < 1048577):Xh xs=some xs:=by
 unfold Xh;rw[Yp (by simp;omega) (by simp;omega)];rfl
theorem cO (xs:List Int) (h:xs.length < 1048577):Y4 8 [] xs=some xs:=by
 rw[Yp (by simp;omega) (by simp;omega)];rfl
theorem Yy4 {mem:List Int} {a s v:Int} (h:GL mem a s=true) (hv:Xw v s=true):oH mem a s v=some (O8 mem a s v,true):=by
 obtain⟨h1,h2,h3,h4,h5⟩:=cN h;have hb:=O3 s;have hl:=Uj s;simp only[Xw,Bj] at hv;unfold oH oG O8;rw[Uq mem (by omega),Ag,Ydp mem a s (by omega),Ag,h,Ai (by simp),RR,Ag,Uk,Ag];have hn:Xw v s=true:=by simp[Xw,hv]
 rw[hn,Ai (by simp)];have key:∀(r n k:Nat) (l:List Int),r < n->(k:Int)+r=Y1 s->l.length=mem.length->oF mem a s v n l (Y1 s) k=some (MM r l (a+k) (v / 256^k),true):=by
  intro r
  induction r with
  | zero=>
   intro n k l hn hk _;obtain⟨n,rfl⟩:∃m',n=m'+1:=⟨n - 1,by omega⟩;show aM mem a s v _ l (Y1 s) k=_;unfold aM;rw[Ai (by simp;omega)];rfl
  | succ r ih=>
   intro n k l hn hk CJ;obtain⟨n,rfl⟩:∃m',n=m'+1:=⟨n - 1,by omega⟩;show aM mem a s v _ l (Y1 s) k=_;unfold aM;have h6:0<=a+(k:Int):=by omega
   have h7:a+(k:Int) < (l.length:Int):=by omega
   have hp:=Yt8 k (by omega);have VP:(0:Int) < 256^k:=Int.pow_pos (by omega);have h8:0<=v / 256^k:=Int.ediv_nonneg hv.1 (by omega);have h9:v / 256^k<=v:=Int.ediv_le_self _ hv.1;rw[Ah (by simp;omega),EN (by omega) (by omega),Y5p (by omega),Ag,Yl (a:=a) (by omega) (by omega),Xm h6 h7,Ag,Qg,Ag,show (8:Int)*(k:Int)=((8*k:Nat):Int) by omega,Xbz (by omega) hv.1,<-hp.1,Y9o h8 (by omega),Yf (by omega),ih n (k+1) _ (by omega) (by omega) (by simp[CJ])];simp only[MM];rw[Int.ediv_ediv_of_nonneg (by omega),<-Int.pow_succ,show a+((k+1:Nat):Int)=a+k+1 by omega]
 have:=key (Y1 s).toNat FU 0 mem (by have:=Y5;omega) (by omega) rfl;simpa using this
theorem Yzl {mem:List Int} {a s v:Int} (h:GL mem a s=true) (hv:Xw v s=true):kN mem a s v=some (O8 mem a s v,true):=by
 obtain⟨h1,h2,h3,h4,h5⟩:=cN h;have hb:=O3 s;have hl:=Uj s;unfold kN kM O8;rw[cO mem (by omega),Ag,Ygz mem a s (by omega),Ag,h,Ai (by simp),ML,Ag,RS,Ag,hv,Ai (by simp)];simp only[Xw,Bj] at hv;have key:∀(r n k:Nat) (l:List Int) (x:Int),r < n->(k:Int)+r=Y1 s->l.length=mem.length->0<=x->x < 9223372036854775808->kL mem a s v n x l k=some (MM r l (a+k) x,true):=by
  intro r
  induction r with
  | zero=>
   intro n k l x hn hk _ _ _;obtain⟨n,rfl⟩:∃m',n=m'+1:=⟨n - 1,by omega⟩;show YT mem a s v _ x l k=_;unfold YT;rw[MK,Ag,Ai (by simp;omega)];rfl
  | succ r ih=>
   intro n k l x hn hk CJ hx DY;obtain⟨n,rfl⟩:∃m',n=m'+1:=⟨n - 1,by omega⟩;show YT mem a s v _ x l k=_;unfold YT;have h6:0<=a+(k:Int):=by omega
   have h7:a+(k:Int) < (l.length:Int):=by omega
   rw[MK,Ag,Ah (by simp;omega),Yl (a:=a) (by omega) (by omega),Xm h6 h7,Ag,Qg,Ag,Hn hx,q6 hx DY (by omega),Yf (by omega),ih n (k+1) _ _ (by omega) (by omega) (by simp[CJ]) (by omega) (by omega)];simp only[MM];rw[show a+((k+1:Nat):Int)=a+k+1 by omega]
 have:=key (Y1 s).toNat FU 0 mem v (by have:=Y5;omega) (by omega) rfl hv.1 (by omega);simpa using this
def Zm.sm (d:Zm):Prop:=d.AB.length < 1048577/\d.A1.length < 1048577
def RU (d:Zm):Bool:=decide (d.AB.length=4)&&(d.AB.all (λv=>Xw v 2)&&(Xw d.timer 2&&(decide (d.A1.length<=4)&&d.A1.all λv=>Xw v 2)))
theorem Yj6 (d:Zm) (hs:d.sm):aH d=some (RU d):=by
 have hf:∀xs:List Int,xs.length < 1048577->X9 xs=some (!xs.all λv=>Xw v 2):=by
  intro xs hl;unfold X9 J4;refine q7 xs (by omega) nZ (λv=>Xw v 2) (λr hr=>?_) _ (λm i=>rfl);unfold nZ;rw[RR];rfl
 unfold aH RU;rw[hf _ hs.1,Ag,hf _ hs.2,Ag,RR,Ag];by_cases h1:d.AB.length=4
 .have h2:(d.AB.length:Int)=4:=by omega
  by_cases h3:d.A1.length<=4
  .have h4:(d.A1.length:Int)<=4:=by omega
   cases h5:(d.AB.all λv=>Xw v 2)<;>cases h6:(d.A1.all λv=>Xw v 2)<;>cases h7:Xw d.timer 2<;>simp[h1,h2,h3,h4]
  .have h4:¬(d.A1.length:Int)<=4:=by omega
   simp[h1,h2,h3,h4]
 .have h2:¬(d.AB.length:Int)=4:=by omega
  simp[h1,h2]
theorem Ybn (xs:List Int) (hl:xs.length < 1048577):YB xs=some (xs.all λv=>Xw v 2):=by
 unfold YB;have key:∀(n k:Nat),k<=xs.length->xs.length - k < n->jH xs n k=some ((xs.drop k).all λv=>Xw v 2):=by
  intro n
  induction n with
  | zero=>intro k _ h;omega
  | succ n ih=>
   intro k hk hm;show yQ xs _ k=_;unfold yQ;by_cases hc:k < xs.length
   .rw[Ah (by simpa using hc),Zy hc,Ag,ML,Ag,RS,Ag,D5 hc,DT]
    by_cases hq:Xw xs[k] 2=true
    .rw[Ai (by simp[hq]),Yf (by omega),ih (k+1) (by omega) (by omega)]
     simp[hq]
    .rw[Ah (by simp[hq])]
     simp[hq]
   .rw[Ai (by simpa using hc),EX (by omega)]
    rfl
 have:=key FU 0 (Cd _) (by have:=Y5;omega);simpa using this
theorem Yjy (d:Zm) (hs:d.sm):YC d=some (RU d):=by
 unfold YC RU;rw[Ybn _ hs.1,Ag,Ybn _ hs.2,Ag,ML,Ag,RS,Ag];by_cases h1:d.AB.length=4
 .have h2:(d.AB.length:Int)=4:=by omega
  by_cases h3:d.A1.length<=4
  .have h4:(d.A1.length:Int)<=4:=by omega
   cases h5:(d.AB.all λv=>Xw v 2)<;>cases h6:(d.A1.all λv=>Xw v 2)<;>cases h7:Xw d.timer 2<;>simp[h1,h2,h3,h4]
  .have h4:¬(d.A1.length:Int)<=4:=by omega
   cases h5:(d.AB.all λv=>Xw v 2)<;>cases h7:Xw d.timer 2<;>simp[h1,h2,h3,h4]
 .have h2:¬(d.AB.length:Int)=4:=by omega
  simp[h1,h2]
structure O9 (d:Zm):Prop where
 AB:d.AB.length=4
 B7:∀v∈d.AB,Xw v 2=true
 timer:Xw d.timer 2=true
 len:d.A1.length<=4
 A1:∀v∈d.A1,Xw v 2=true
theorem Yo6 {d:Zm}:RU d=true↔O9 d:=by
 simp only[RU,Bg,Bj,Cb];constructor
 .intro h;exact⟨h.1,h.2.1,h.2.2.1,h.2.2.2.1,h.2.2.2.2⟩
 .intro h;exact⟨h.AB,h.B7,h.timer,h.len,h.A1⟩
theorem O9.sm {d:Zm} (h:O9 d):d.sm:=⟨by have:=h.AB;omega,by have:=h.len;omega⟩
theorem Yhc (d:Zm) (hs:d.sm):aG d=some d:=by
 unfold aG;rw[Uq _ hs.1,Ag,Uq _ hs.2];rfl
theorem Yhe (d:Zm) (hs:d.sm):YL d=some d:=by
 unfold YL;rw[cO _ hs.1,Ag,cO _ hs.2];rfl
def E8 (d:Zm) (w:Bool) (a v:Int):Zm×Int×Bool:=
 if (w&&!Xw v 2)=true then (d,0,false) else
 if a=16 then (if w then ({d with timer:=v},v,true) else ({d with timer:=(d.timer+1) % 4294967296},d.timer,true)) else
 if a=20 then (if w then (if d.A1.length < 4 then ({d with A1:=d.A1++[v]},v,true) else (d,0,false)) else (if d.A1=[] then (d,0,false) else ({d with A1:=d.A1.tail},Ak d.A1 0,true))) else
 if (0<=a/\a < 16)/\a % 4=0 then (if w then ({d with AB:=d.AB.set (a / 4).toNat v},v,true) else (d,Ak d.AB (a / 4),true)) else (d,0,false)
theorem RV {v:Int} (h:Xw v 2=true):0<=v/\v < 4294967296:=by
 simpa [Xw,GK] using h
theorem Y2w {d:Zm} (w:Bool) (a v:Int) (h:O9 d):oD d w a v=some (E8 d w a v):=by
 have ht:=RV h.timer;have hl:=h.len;have hr:=h.AB;unfold oD;rw[Yhc d h.sm,Ag,Yj6 d h.sm,Ag,Yo6.2 h,RR,Ag];have hJ:R6 d w a v d false=some (if a=16 then (if w then ({d with timer:=v},v,true) else ({d with timer:=(d.timer+1) % 4294967296},d.timer,true)) else
 if a=20 then (if w then (if d.A1.length < 4 then ({d with A1:=d.A1++[v]},v,true) else (d,0,false)) else (if d.A1=[] then (d,0,false) else ({d with A1:=d.A1.tail},Ak d.A1 0,true))) else
 if (0<=a/\a < 16)/\a % 4=0 then (if w then ({d with AB:=d.AB.set (a / 4).toNat v},v,true) else (d,Ak d.AB (a / 4),true)) else (d,0,false)):=by
  unfold R6 oC aL aK aJ;by_cases IY:a=16
  .subst IY
   rw[Ydw,Ag,show GK 2=4294967296 from rfl,O1 (by omega),Yl (by omega) (by omega),Hn (by omega)];cases w<;>simp
  .by_cases IZ:a=20
   .subst IZ
    cases w with
    | true=>
     by_cases h3:d.A1.length < 4
     .have h4:(d.A1.length:Int) < 4:=by omega
      rw[Yp (by simp;omega) (by simp;omega)];simp[h3,h4]
     .have h4:¬(d.A1.length:Int) < 4:=by omega
      simp[h3,h4]
    | false=>
     by_cases h3:d.A1=[]
     .simp[h3]
     .have h4:0 < d.A1.length:=Cv.2 h3
      have h5:(d.A1.length:Int) > 0:=by omega
      rw[Xm (by omega) (by omega),Ag,rL _ h3 (by omega),Ag,Uq _ (by simp;omega)];simp[h3,h5]
   .by_cases h3:(0<=a/\a < 16)/\a % 4=0
    .obtain⟨⟨h4,h5⟩,h6⟩:=h3
     have h7:¬a≥16:=by omega
     have h8:¬a < 0:=by omega
     rw[q6 h4 (by omega) (by omega),Xm (xs:=d.AB) (by omega) (by omega),Ag,Ag,Qg,Hn h4];cases w<;>simp[IY,IZ,h4,h5,h6,h7,h8]
    .by_cases h4:a≥16
     .have h5:¬a < 16:=by omega
      cases w<;>simp[IY,IZ,h4,h5]
     .by_cases h5:a < 0
      .have h6:¬0<=a:=by omega
       cases w<;>simp[IY,IZ,h4,h5,h6]
      .have h6:a % 4≠0:=λh=>h3 ⟨by omega,h⟩
       rw[Hn (by omega)];cases w<;>simp[IY,IZ,h4,h5,h6]
 unfold E8;cases w with
 | false=>simp only[Du,Bn,if_false,HW];exact hJ
 | true=>
  by_cases hv:Xw v 2=true
  .simp only[hv,Du,Bn,if_false,if_true,US]
   exact hJ
  .simp[hv,R6]
theorem Y1r {d:Zm} (w:Bool) (a v:Int) (h:O9 d):kQ d w a v=some (E8 d w a v):=by
 have ht:=RV h.timer;have hl:=h.len;have hr:=h.AB;unfold kQ;rw[Yhe d h.sm,Ag,Yjy d h.sm,Ag,Yo6.2 h,ML,Ag,RS,Ag];have hJ:∀_:Dd a 4=0,M1 d w a v d false=some (if a=16 then (if w then ({d with timer:=v},v,true) else ({d with timer:=(d.timer+1) % 4294967296},d.timer,true)) else
 if a=20 then (if w then (if d.A1.length < 4 then ({d with A1:=d.A1++[v]},v,true) else (d,0,false)) else (if d.A1=[] then (d,0,false) else ({d with A1:=d.A1.tail},Ak d.A1 0,true))) else
 if (0<=a/\a < 16)/\a % 4=0 then (if w then ({d with AB:=d.AB.set (a / 4).toNat v},v,true) else (d,Ak d.AB (a / 4),true)) else (d,0,false)):=by
  intro Ls;unfold M1 kP kO YV YU;rw[Xr,Ag,Ag];by_cases IY:a=16
  .subst IY
   rw[ML,Ag,show GK 2=4294967296 from rfl,O1 (by omega),Yl (by omega) (by omega),Hn (by omega)];cases w<;>simp
  .by_cases IZ:a=20
   .subst IZ
    cases w with
    | true=>
     by_cases h3:d.A1.length < 4
     .have h4:(d.A1.length:Int) < 4:=by omega
      rw[Yp (by simp;omega) (by simp;omega)];simp[h3,h4]
     .have h4:¬(d.A1.length:Int) < 4:=by omega
      simp[h3,h4]
    | false=>
     by_cases h3:d.A1=[]
     .simp[h3]
     .have h4:0 < d.A1.length:=Cv.2 h3
      have h5:(d.A1.length:Int) > 0:=by omega
      rw[Xm (xs:=d.A1) (by omega) (by omega),Ag,rL _ h3 (by omega),Ag];simp[h3,h5]
   .by_cases h3:0<=a/\a < 16
    .rw[Hn h3.1] at Ls
     have h4:0<=a/\a<=12:=by omega
     rw[q6 h3.1 (by omega) (by omega),Xm (xs:=d.AB) (by omega) (by omega),Ag,Ag,Qg];cases w<;>simp[IY,IZ,h3,h4,Ls]
    .have h4:¬(0<=a/\a<=12):=by omega
     cases w<;>simp[IY,IZ,h3,h4]
 unfold E8;by_cases Ls:Dd a 4=0
 .rw[Ai (by simp),Ai (by simp[Ls])]
  cases w with
  | false=>simp only[Bn,if_false,HW];exact hJ Ls
  | true=>
   by_cases hv:Xw v 2=true
   .simp only[hv,Du,Bn,if_false,if_true,US]
    exact hJ Ls
   .simp[hv,M1]
 .have IY:a≠16:=λh=>Ls (by subst h;rfl)
  have IZ:a≠20:=λh=>Ls (by subst h;rfl);have h3:¬((0<=a/\a < 16)/\a % 4=0):=λh=>Ls (by rw[Hn h.1.1];exact h.2);rw[Ai (by simp),Ah (by simp[Ls])];simp only[IY,IZ,h3,if_false,M1,if_true];split<;>rfl
theorem Xb4 {xs:List Int} {p:Int->Prop} (h:∀x∈xs,p x) {k:Nat} {v:Int} (hv:p v):∀x∈xs.set k v,p x:=by
 intro x hx;rcases eP hx with hx|rfl
 .exact h x hx
 .exact hv
theorem Y9r {d:Zm} {w:Bool} {a v:Int} (h:O9 d):O9 (E8 d w a v).1/\((E8 d w a v).2.2=true->Xw (E8 d w a v).2.1 2=true):=by
 have ht:=RV h.timer;have hl:=h.len;unfold E8;split
 .exact⟨h,by simp⟩
 .rename_i hw
  have hv:w=true->Xw v 2=true:=by
   intro h1;rw[h1] at hw;simpa using hw
  split
  .split
   .rename_i h1
    exact⟨⟨h.AB,h.B7,hv h1,h.len,h.A1⟩,λ_=>hv h1⟩
   .refine⟨⟨h.AB,h.B7,?_,h.len,h.A1⟩,λ_=>h.timer⟩
    have:GK 2=4294967296:=rfl;simp only[Xw,this,Bj];omega
  .split
   .split
    .rename_i h1
     split
     .rename_i h2
      refine⟨⟨h.AB,h.B7,h.timer,by simp;omega,λx hx=>?_⟩,λ_=>hv h1⟩;rcases BT.1 hx with hx|hx
      .exact h.A1 x hx
      .rw[List.mem_singleton.1 hx];exact hv h1
     .exact⟨h,by simp⟩
    .split
     .exact⟨h,by simp⟩
     .rename_i h2
      have h4:0 < d.A1.length:=Cv.2 h2;refine⟨⟨h.AB,h.B7,h.timer,by simp;omega,λx hx=>h.A1 x (List.mem_of_mem_tail hx)⟩,λ_=>h.A1 _ (Gj (by omega) (by omega))⟩
   .split
    .rename_i h3
     split
     .rename_i h1
      exact⟨⟨by simp[h.AB],Xb4 h.B7 (hv h1),h.timer,h.len,h.A1⟩,λ_=>hv h1⟩
     .refine⟨h,λ_=>h.B7 _ (Gj (by omega) (by have:=h.AB;omega))⟩
    .exact⟨h,by simp⟩
def Y6 (a:Int):Int:=if a < 0\/224<=a then 0 else if a < 128 then 1 else if a < 192 then 2 else 3
theorem Z1s (a:Int):aI a=some (Y6 a):=by
 unfold aI oA Y6;by_cases h1:a < 0
 .simp[h1]
 .by_cases h2:a≥224
  .simp[h1,h2]
  .by_cases h3:a < 128
   .simp[h1,h2,h3]
   .by_cases h4:a < 192<;>simp[h1,h2,h3,h4]
theorem Yd9 (a:Int):kK a=some (Y6 a):=by
 rw[<-Z1s];rfl
def Zf.sm (m:Zf):Prop:=m.mem.length < 1048577/\m.dev.sm
def RW (m:Zf):Bool:=decide (m.mem.length=192)&&(m.mem.all DN&&RU m.dev)
structure Ec (m:Zf):Prop where
 len:m.mem.length=192
 bytes:m.mem.all DN=true
 dev:O9 m.dev
theorem cP {m:Zf}:RW m=true↔Ec m:=by
 simp only[RW,Bg,Bj,Yo6];constructor
 .intro h;exact⟨h.1,h.2.1,h.2.2⟩
 .intro h;exact⟨h.len,h.bytes,h.dev⟩
theorem Ec.sm {m:Zf} (h:Ec m):m.sm:=⟨by have:=h.len;omega,h.dev.sm⟩
theorem Ydi (m:Zf) (hs:m.sm):R5 m=some (RW m):=by
 unfold R5 RW;rw[Ydp m.mem 0 0 hs.1,Ag,Yj6 m.dev hs.2,Ag];by_cases h1:m.mem.length=192
 .have h2:(m.mem.length:Int)=192:=by omega
  have h3:GL m.mem 0 0=m.mem.all DN:=by
   simp[GL,Lr,h1,X4,Y1]
  rw[h3];cases h4:m.mem.all DN<;>simp[h1,h2]
 .have h2:¬(m.mem.length:Int)=192:=by omega
  simp[h1,h2]
theorem Ybm (m:Zf) (hs:m.sm):YD m=some (RW m):=by
 unfold YD RW;rw[Ydv m.mem hs.1,Ag,Yjy m.dev hs.2,Ag];by_cases h1:m.mem.length=192
 .have h2:(m.mem.length:Int)=192:=by omega
  have h3:Lr m.mem=m.mem.all DN:=by
   simp[Lr,h1]
  rw[h3];cases h4:m.mem.all DN<;>simp[h1,h2]
 .have h2:¬(m.mem.length:Int)=192:=by omega
  simp[h1,h2]
theorem Zzv (m:Zf) (hs:m.sm):TG m=some m:=by
 unfold TG;rw[Uq _ hs.1,Ag,Yhc _ hs.2];rfl
theorem Yf1 (m:Zf) (hs:m.sm):YM m=some m:=by
 unfold YM;rw[cO _ hs.1,Ag,Yhe _ hs.2];rfl
def Qv (m:Zf) (w:Bool) (a s v:Int):Zf×Int×Int:=
 if (X4 a s&&!(w&&!Xw v s))=true then
  (if Y6 a=1\/Y6 a=2 then (if w then ({m with mem:=O8 m.mem a s v},v,0) else (m,O7 m.mem a s,0))
  else if Y6 a=3/\s=2 then (if (E8 m.dev w (a - 192) v).2.2=true then ({m with dev:=(E8 m.dev w (a - 192) v).1},(E8 m.dev w (a - 192) v).2.1,0) else (m,0,1))
  else (m,0,1))
 else (m,0,1)
theorem Y6p {a:Int} (h:Y6 a=1\/Y6 a=2):0<=a/\a < 192:=by
 unfold Y6 at h
 repeat' split at h
 all_goals omega
theorem Yqh {a:Int} (h:Y6 a=3):192<=a/\a < 224:=by
 unfold Y6 at h
 repeat' split at h
 all_goals omega
theorem Yic {m:Zf} {a s:Int} (h:Ec m) (ha:X4 a s=true) (hs:Y6 a=1\/Y6 a=2):GL m.mem a s=true:=by
 have h1:=Y6p hs;have h2:=h.len;have h3:=Jm ha;have h4:a+Y1 s<=192:=by
  have h5:=(Um s).1 h3.1;have h6:s=0\/s=1\/s=2:=by omega
  have h7:=h3.2.2;rcases h6 with rfl|rfl|rfl<;>simp[Y1] at h7 ⊢<;>omega
 simp only[GL,Lr,Bg,Bj];exact⟨⟨by omega,h.bytes⟩,ha,by omega⟩
theorem Yc2 {m:Zf} (w:Bool) (a s v:Int) (h:Ec m):aO m w a s v=some (Qv m w a s v):=by
 unfold aO Qv;rw[Zzv m h.sm,Ag,Ydi m h.sm,Ag,cP.2 h,rF,Ag,RR,Ag,Ai (by simp)];by_cases ha:X4 a s=true
 .rw[ha,Ai (by simp)]
  have hJ:(w=true->Xw v s=true)->J1 m w a s v m false=some (if Y6 a=1\/Y6 a=2 then (if w then ({m with mem:=O8 m.mem a s v},v,0) else (m,O7 m.mem a s,0))
  else if Y6 a=3/\s=2 then (if (E8 m.dev w (a - 192) v).2.2=true then ({m with dev:=(E8 m.dev w (a - 192) v).1},(E8 m.dev w (a - 192) v).2.1,0) else (m,0,1))
  else (m,0,1)):=by
   intro hw;unfold J1;rw[Ai (by simp),Z1s,Ag];unfold oL oK TI;rw[Zzv m h.sm,Ag];by_cases h1:Y6 a=1\/Y6 a=2
   .have h3:¬Y6 a=3:=by omega
    have hf:=Yic h ha h1;cases w with
    | true=>
     rw[Yy4 hf (hw rfl),Ag];rcases h1 with h1|h1<;>simp[h1,h3]
    | false=>
     rw[Yzo hf,Ag];rcases h1 with h1|h1<;>simp[h1,h3]
   .have h2:¬Y6 a=1:=λh=>h1 (.inl h)
    have h4:¬Y6 a=2:=λh=>h1 (.inr h);by_cases h3:Y6 a=3
    .have h5:=Yqh h3
     rw[Xb (by omega) (by omega),Y2w w _ v h.dev,Ag];by_cases h6:s=2
     .by_cases h7:(E8 m.dev w (a - 192) v).2.2=true<;>simp[h3,h6,h7]
     .simp[h3,h6]
    .simp[h2,h3,h4]
  cases w with
  | false=>
   simp only[Bn,if_false,HW,FF,L5,if_true];exact hJ (by simp)
  | true=>
   by_cases hv:Xw v s=true
   .simp only[hv,Du,if_true,US,FF,L5]
    exact hJ (λ_=>hv)
   .simp[hv,J1]
 .simp[ha,J1]
theorem Z2i {m:Zf} (w:Bool) (a s v:Int) (h:Ec m):To m w a s v=some (Qv m w a s v):=by
 unfold To Qv;rw[Yf1 m h.sm,Ag,Ybm m h.sm,Ag,cP.2 h,rE,Ag,ML,Ag,RS,Ag,Ai (by simp)];by_cases ha:X4 a s=true
 .rw[ha,Ai (by simp)]
  have hJ:(w=true->Xw v s=true)->J2 m w a s v m false=some (if Y6 a=1\/Y6 a=2 then (if w then ({m with mem:=O8 m.mem a s v},v,0) else (m,O7 m.mem a s,0))
  else if Y6 a=3/\s=2 then (if (E8 m.dev w (a - 192) v).2.2=true then ({m with dev:=(E8 m.dev w (a - 192) v).1},(E8 m.dev w (a - 192) v).2.1,0) else (m,0,1))
  else (m,0,1)):=by
   intro hw;unfold J2;rw[Ai (by simp),Yd9,Ag];unfold kU kT;by_cases h1:Y6 a=1\/Y6 a=2
   .have h3:¬Y6 a=3:=by omega
    have hf:=Yic h ha h1;cases w with
    | true=>
     rw[Yzl hf (hw rfl),Ag];rcases h1 with h1|h1<;>simp[h1,h3]
    | false=>
     rw[Yzs hf,Ag];rcases h1 with h1|h1<;>simp[h1,h3]
   .have h2:¬Y6 a=1:=λh=>h1 (.inl h)
    have h4:¬Y6 a=2:=λh=>h1 (.inr h);by_cases h3:Y6 a=3
    .have h5:=Yqh h3
     rw[Xb (by omega) (by omega),Y1r w _ v h.dev,Ag];by_cases h6:s=2
     .by_cases h7:(E8 m.dev w (a - 192) v).2.2=true<;>simp[h3,h6,h7]
     .simp[h3,h6]
    .simp[h2,h3,h4]
  cases w with
  | false=>
   simp only[Bn,if_false,HW,FF,L5,if_true];exact hJ (by simp)
  | true=>
   by_cases hv:Xw v s=true
   .simp only[hv,Du,if_true,US,FF,L5]
    exact hJ (λ_=>hv)
   .simp[hv,J2]
 .simp[ha,J2]
theorem Y5d (s:Int) (h:0 < Y1 s):(256:Int)^(Y1 s).toNat=GK s:=by
 have h1:=(Um s).1 h;have:s=0\/s=1\/s=2:=by omega
 rcases this with rfl|rfl|rfl<;>decide
theorem Z9g {m:Zf} {w:Bool} {a s v:Int} (h:Ec m) (hs:X4 a s=true):Ec (Qv m w a s v).1/\Xw (Qv m w a s v).2.1 s=true/\((Qv m w a s v).2.2=0\/(Qv m w a s v).2.2=1):=by
 have hp:=Jm hs;have hz:Xw 0 s=true:=by
  have h1:=(Um s).1 hp.1;have:s=0\/s=1\/s=2:=by omega
  rcases this with rfl|rfl|rfl<;>decide
 unfold Qv;split
 .rename_i h1
  split
  .rename_i h2
   have hf:=Yic h hs h2;split
   .rename_i hw
    have hv:Xw v s=true:=by
     rw[hw] at h1;simpa [hs] using h1
    exact⟨⟨by simp only[O8,Y7s,h.len],Y1t _ _ _ _ h.bytes,h.dev⟩,hv,.inl rfl⟩
   .obtain⟨h3,h4,h5,h6,h7⟩:=cN hf
    have h8:=Y05 h4 (Y1 s).toNat a h6 (by omega);rw[Y5d s h5] at h8;exact⟨h,by simp only[Xw,O7];exact decide_eq_true h8,.inl rfl⟩
  .split
   .rename_i h3
    split
    .rename_i h4
     have h5:=Y9r (w:=w) (a:=a - 192) (v:=v) h.dev;have h6:=h5.2 h4;rw[h3.2];exact⟨⟨h.len,h.bytes,h5.1⟩,h6,.inl rfl⟩
    .exact⟨h,hz,.inr rfl⟩
   .exact⟨h,hz,.inr rfl⟩
 .exact⟨h,hz,.inr rfl⟩
def Y9 (p:Option Bool) (P:Prop):Prop:=∃r,p=some r/\(r=true↔P)
theorem Y9.of {b:Bool} {P:Prop} (h:b=true↔P):Y9 (some b) P:=⟨b,rfl,h⟩
theorem Y9.iff {p:Option Bool} {P Q:Prop} (h:Y9 p P) (e:P↔Q):Y9 p Q:=by
 obtain⟨r,h1,h2⟩:=h;exact⟨r,h1,h2.trans e⟩
theorem Y9.yes {P:Prop} (h:P):Y9 (some true) P:=⟨true,rfl,by simp[h]⟩
theorem Y9.no {P:Prop} (h:¬P):Y9 (some false) P:=⟨false,rfl,by simp[h]⟩
theorem Y9.eq {p q:Option Bool} {P:Prop} (h:Y9 p P) (h':Y9 q P):∃r,p=some r/\q=some r/\(r=true↔P):=by
 obtain⟨r,h1,h2⟩:=h;obtain⟨r',h3,h4⟩:=h';have:r=r':=by
  cases r<;>cases r'<;>simp_all
 subst this;exact⟨r,h1,h3,h2⟩
theorem Y9.AD {x:Option Bool} {P Q:Prop} {f:Bool->Option Bool} (h:Y9 x P) (h1:P->Y9 (f true) Q) (h2:¬P->Y9 (f false) Q):Y9 (x.bind f) Q:=by
 obtain⟨r,rfl,hr⟩:=h;rw[Ag];cases r with
 | true=>exact h1 (hr.1 rfl)
 | false=>exact h2 (λhp=>by simpa using hr.2 hp)
theorem Y9.and {x y:Option Bool} {P Q:Prop} (h:Y9 x P) (h1:P->Y9 y Q):Y9 (x.bind λr=>if r=true then y else some false) (P/\Q):=by
 refine h.AD (λhp=>?_) (λhp=>?_)
 .rw[Ah rfl];exact (h1 hp).iff ⟨λq=>⟨hp,q⟩,λq=>q.2⟩
 .rw[Ai (by simp)];exact .no λq=>hp q.1
section
variable {σ:Type}
theorem rM {n:Nat} (hn:n < 4611686018427387904) {P:Nat->Prop} {Q:Prop} (st:Nat->σ) {B:(σ->Int->Option Bool)->σ->Int->Option Bool} {L:Nat->σ->Int->Option Bool} (hL:∀m s i,L (m+1) s i=B (L m) s i)
  (hs:∀k,k < n->(P k/\∀κ,B κ (st k) (k:Int)=κ (st (k+1)) (Zo (k:Int) 1))\/(¬P k/\∀κ,B κ (st k) (k:Int)=some false))
  (hf:(∀k,k < n->P k)->∃r,(∀κ,B κ (st n) (n:Int)=some r)/\(r=true↔Q)):Y9 (L FU (st 0) 0) ((∀k,k < n->P k)/\Q):=by
 have key:∀(m k:Nat),k<=n->n - k < m->(∀j,j < k->P j)->Y9 (L m (st k) (k:Int)) ((∀j,j < n->P j)/\Q):=by
  intro m
  induction m with
  | zero=>intro k _ h;omega
  | succ m ih=>
   intro k hk hm hp;rw[hL];by_cases hc:k < n
   .rcases hs k hc with⟨h1,h2⟩|⟨h1,h2⟩
    .rw[h2,Yf (by omega)]
     refine ih (k+1) (by omega) (by omega) λj hj=>?_;by_cases cQ:j=k
     .subst cQ;exact h1
     .exact hp j (by omega)
    .rw[h2];exact .no λq=>h1 (q.1 k hc)
   .have:k=n:=by omega
    subst this;obtain⟨r,hr,hq⟩:=hf hp;rw[hr];exact .of ⟨λh=>⟨hp,hq.1 h⟩,λh=>hq.2 h.2⟩
 have:=key FU 0 (Cd _) (by have:=Y5;omega) (λj hj=>by omega);simpa using this
theorem cR {n:Nat} (hn:n < 4611686018427387904) {P:Nat->Prop} {Q:Prop} {B:(Int->Option Bool)->Int->Option Bool} {L:Nat->Int->Option Bool} (hL:∀m i,L (m+1) i=B (L m) i)
  (hs:∀k,k < n->(P k/\∀κ,B κ (k:Int)=κ (Zo (k:Int) 1))\/(¬P k/\∀κ,B κ (k:Int)=some false))
  (hf:(∀k,k < n->P k)->∃r,(∀κ,B κ (n:Int)=some r)/\(r=true↔Q)):Y9 (L FU 0) ((∀k,k < n->P k)/\Q):=
 rM (σ:=Unit) hn (λ_=>()) (B:=λκ _ i=>B (κ ()) i) (L:=λm _ i=>L m i) (λm _ i=>hL m i) (λk hk=>(hs k hk).imp (λh=>⟨h.1,λκ=>h.2 _⟩) λh=>⟨h.1,λκ=>h.2 _⟩)
  (λh=>by obtain⟨r,h1,h2⟩:=hf h;exact⟨r,λκ=>h1 _,h2⟩)
end
instance:Inhabited Zt:=⟨Zt.z0⟩
instance:Inhabited Zi:=⟨Zi.z0⟩
def Yq (m:Zg):Bool:=decide (m.queue≠[])&&((Ak m.queue 0).lock&&!m.broken)
def Jt (b:Za) (i:Int):Int:=(if b.addr.live=true/\b.addr.Aj=i then 1 else 0)+(if b.Aa.live=true/\b.Aa.Aj=i then 1 else 0)
structure HJ (c:Zh) (b:Za) (i:Int):Prop where
 right:Yy (Ak b.m i)
 tries:(Ak b.m i).tries<=c.An
 bucket:Y0 (Ak b.buckets i) (Ak c.Ab i)=true
 split:0<=Ak b.splits i/\Ak b.splits i<=c.Ap
def Dv (b:Za) (x:Zi):Prop:=Zn b.Ae x.Aj=true/\(1<=x.B2/\x.B2<=3)/\Ak b.splits x.Aj=0
def Jq (b:Za):Prop:=if b.addr.live=true then b.addr.Ao=(Ak b.m b.addr.Aj).Ao - 1/\b.addr.left=0/\b.addr.Ar=0/\b.addr.second=false else b.addr=Zi.z0
def Kt (b:Za):Prop:=if b.Aa.live=true then
  (b.Aa.Ao=(Ak b.m b.Aa.Aj).done/\(0<=b.Aa.left/\b.Aa.left<=b.Ae.As+2)/\(0<=b.Aa.Ar/\b.Aa.Ar<=3))/\
  (b.Aa.Ar=2->(Ak b.m b.Aa.Aj).tries < b.Ae.An)/\(b.Aa.Ar=3->(Ak b.m b.Aa.Aj).Ax=false/\b.Aa.Aj≠b.Af)/\
  (b.Aa.second=true->b.Aa.left=0/\b.Aa.Ar≠0/\b.addr.live=false)
 else b.Aa=Zi.z0
def Gn (b:Za):Prop:=(∀i,Zn b.Ae i=true->(Ak b.m i).Ao > 0->Yq (Ak b.m i)=true->b.Af=i)/\
 (if b.Af=-1 then b.held=0 else Zn b.Ae b.Af=true/\Yq (Ak b.m b.Af)=true/\Ak b.splits b.Af=0/\(0<=b.held/\b.held<=b.Ae.Am))
def RX (c:Zh) (now:Int) (d:Zt):Prop:=(0<=d.A4/\d.A4 < now)/\Zn c d.Aj=true/\X4 d.addr d.size=true/\d.addr < 512/\Xw d.value d.size=true/\(d.Ar=0\/d.Ar=1)
def MN (b:Za):Prop:=(∀d∈b.log,RX b.Ae b.now d)/\b.log.Pairwise λx y=>x.A4 < y.A4
structure CV (b:Za):Prop where
 Ae:Yr b.Ae=true
 now:0<=b.now/\b.now<=4000
 ml:b.m.length=b.Ae.Ab.length
 bl:b.buckets.length=b.Ae.Ab.length
 sl:b.splits.length=b.Ae.Ab.length
 Bx:∀i,Zn b.Ae i=true->HJ b.Ae b i
 Bm:CG b.Bm b.Ae=true
 last:b.last=-1\/Zn b.Ae b.last=true
 model:Ec b.model
 Au:0<=b.Au/\b.Au<=b.now
 alive:b.addr.live=true->Dv b b.addr
 B9:b.Aa.live=true->Dv b b.Aa
 Dq:∀i,Zn b.Ae i=true->(Ak b.m i).Ao - (Ak b.m i).done=Jt b i
 addr:Jq b
 data:Kt b
 held:Gn b
 log:MN b
structure Za.sm (b:Za):Prop where
 Ae:b.Ae.Ab.length < 1048577
 ml:b.m.length < 1048577
 Bx:∀x∈b.m,x.sm
 bl:b.buckets.length < 1048577
 sl:b.splits.length < 1048577
 model:b.model.sm
 log:b.log.length < 1048577
theorem FP {c:Zh} {k:Nat} (h:k < c.Ab.length):Zn c (k:Int)=true:=by simp[Zn,h]
theorem cS {c:Zh} {i:Int} (h:Zn c i=true):∃k:Nat,i=(k:Int)/\k < c.Ab.length:=by
 simp only[Zn,Bj] at h;exact⟨i.toNat,by omega,by omega⟩
theorem Ur {c:Zh} {P:Int->Prop}:(∀i,Zn c i=true->P i)↔∀k:Nat,k < c.Ab.length->P (k:Int):=by
 constructor
 .intro h k hk;exact h _ (FP hk)
 .intro h i hi
  obtain⟨k,rfl,hk⟩:=cS hi;exact h k hk
theorem Wq {b:Za} (hl:b.m.length=b.Ae.Ab.length) {i:Int} (h:Zn b.Ae i=true):idx b.m i=some (Ak b.m i):=by
 simp only[Zn,Bj] at h;exact Xm h.1 (by omega)
theorem Us {b:Za} (hl:b.buckets.length=b.Ae.Ab.length) {i:Int} (h:Zn b.Ae i=true):idx b.buckets i=some (Ak b.buckets i):=by
 simp only[Zn,Bj] at h;exact Xm h.1 (by omega)
theorem HK {b:Za} (hl:b.splits.length=b.Ae.Ab.length) {i:Int} (h:Zn b.Ae i=true):idx b.splits i=some (Ak b.splits i):=by
 simp only[Zn,Bj] at h;exact Xm h.1 (by omega)
theorem OA {c:Zh} {i:Int} (h:Zn c i=true):idx c.Ab i=some (Ak c.Ab i):=by
 simp only[Zn,Bj] at h;exact Xm h.1 h.2
theorem OB {b:Za} (hl:b.m.length=b.Ae.Ab.length) {i:Int} (h:Zn b.Ae i=true):Ak b.m i∈b.m:=by
 simp only[Zn,Bj] at h;exact Gj h.1 (by omega)
theorem cT (x:Zi):((x.live == false)&&(decide (x.Aj=0)&&(decide (x.Ao=0)&&((x.first == false)&&(decide (x.B2=0)&&(decide (x.left=0)&&(decide (x.Ar=0)&&((x.second == false)&&true))))))))=true↔x=Zi.z0:=by
 obtain⟨a1,a2,a3,a4,a5,a6,a7,a8⟩:=x;simp only[Bg,beq_iff_eq,Bj,Zi.mk.injEq,and_true]
theorem Z9x (m:Zg):TK m=some (Yq m):=by
 unfold TK Yq;by_cases h:m.queue=[]
 .simp[h]
 .have h1:0 < m.queue.length:=Cv.2 h
  rw[Xm (by omega) (by omega),Ag,Ah (by simp;omega)];cases h2:(Ak m.queue 0).lock<;>simp[h]
theorem Zyq (b:Za) (hs:b.sm) (hc:Yr b.Ae=true):Y9 (pN b) (b.m.length=b.Ae.Ab.length/\b.buckets.length=b.Ae.Ab.length/\b.splits.length=b.Ae.Ab.length/\∀i,Zn b.Ae i=true->HJ b.Ae b i):=by
 unfold pN;by_cases h1:b.m.length=b.Ae.Ab.length
 .rw[Ai (by simp;omega)]
  by_cases h2:b.buckets.length=b.Ae.Ab.length
  .rw[Ai (by simp;omega)]
   unfold Kd;by_cases h3:b.splits.length=b.Ae.Ab.length
   .rw[Ai (by simp;omega)]
    have:=Km hc;refine (cR (n:=b.m.length) (P:=λk=>HJ b.Ae b (k:Int)) (Q:=True) (by omega) (B:=pM b) (λm i=>rfl) (λk hk=>?_) λ_=>⟨true,λκ=>?_,by simp⟩).iff ?_
    .have hm:=FP (c:=b.Ae) (k:=k) (by omega)
     have hms:=hs.Bx _ (OB h1 hm);unfold pM;simp only[Ah (show decide ((k:Int) < (b.m.length:Int))=true by simpa using hk),Wq h1 hm,Us h2 hm,HK h3 hm,OA hm,Ag,Un _ hms,Yaz,Wm];by_cases e1:O6 (Ak b.m (k:Int))=true
     .by_cases e2:(Ak b.m (k:Int)).tries<=b.Ae.An
      .by_cases e3:Y0 (Ak b.buckets (k:Int)) (Ak b.Ae.Ab (k:Int))=true
       .by_cases e4:0<=Ak b.splits (k:Int)/\Ak b.splits (k:Int)<=b.Ae.Ap
        .refine .inl ⟨⟨Gm.1 e1,e2,e3,e4⟩,λκ=>?_⟩
         have e5:¬(Ak b.m (k:Int)).tries > b.Ae.An:=by omega
         simp[e1,e3,e4,e5]
        .refine .inr ⟨λh=>e4 h.split,λκ=>?_⟩
         simp[e1,e3,e4]
       .refine .inr ⟨λh=>e3 h.bucket,λκ=>?_⟩
        simp[e1,e3]
      .refine .inr ⟨λh=>e2 h.tries,λκ=>?_⟩
       have e5:(Ak b.m (k:Int)).tries > b.Ae.An:=by omega
       simp[e1,e5]
     .refine .inr ⟨λh=>e1 (Gm.2 h.right),λκ=>?_⟩
      simp[e1]
    .unfold pM
     rw[Ai (by simp)]
    .rw[and_true,h1,<-Ur]
     exact⟨λh=>⟨rfl,h2,h3,h⟩,λh=>h.2.2.2⟩
   .rw[Ah (by simp;omega)]
    exact .no λh=>h3 h.2.2.1
  .rw[Ah (by simp;omega)]
   unfold Kd;rw[Ah rfl];exact .no λh=>h2 h.2.1
 .rw[Ah (by simp;omega)]
  unfold Kd;rw[Ah rfl];exact .no λh=>h1 h.1
theorem Y6h (b:Za):pP b=some ([b.addr,b.Aa].filter (·.live)):=by
 unfold pP;have:Wu [b.addr,b.Aa]=some ([b.addr,b.Aa].filter (·.live)):=by
  unfold Wu Kn;exact Yzt [b.addr,b.Aa] Zi.z0 (by simp) pO (·.live) (λa _=>rfl) _ (λm i=>rfl) _ (λm v i j=>rfl)
 rw[this];rfl
def DO:List Zi->List Int->List Int
 | [],l=>l
 | x::xs,l=>DO xs (l.set x.Aj.toNat (Ak l x.Aj+1))
theorem Y5o:∀(xs:List Zi) (x:Zi) (l:List Int),DO (xs++[x]) l=(DO xs l).set x.Aj.toNat (Ak (DO xs l) x.Aj+1):=by
 intro xs
 induction xs with
 | nil=>intro x l;rfl
 | cons y xs ih=>intro x l;exact ih x _
theorem Yv0:∀(xs:List Zi) (l:List Int),(DO xs l).length=l.length:=by
 intro xs
 induction xs with
 | nil=>intro l;rfl
 | cons y xs ih=>intro l;rw[DO,ih,JM]
theorem Xbx:∀(xs:List Zi) (l:List Int) (i:Int),0<=i->i < (l.length:Int)->(∀x∈xs,0<=x.Aj/\x.Aj < (l.length:Int))->Ak (DO xs l) i=Ak l i+(xs.countP λx=>decide (x.Aj=i):Nat):=by
 intro xs
 induction xs with
 | nil=>intro l i _ _ _;simp[DO]
 | cons y xs ih=>
  intro l i h0 h1 hx;have hy:=hx y (BJ ..);rw[DO,ih _ i h0 (by simpa using h1) (λx hxm=>by simpa using hx x (Co _ hxm)),fB];by_cases h:y.Aj=i
  .subst h
   rw[cA _ hy.1 hy.2];simp;omega
  .rw[Yp4 _ hy.1 h0 h]
   simp[h]
theorem Y6w (b:Za) (i:Int):(([b.addr,b.Aa].filter (·.live)).countP λx=>decide (x.Aj=i):Nat)=Jt b i:=by
 unfold Jt;by_cases h1:b.addr.live=true<;>by_cases h2:b.Aa.live=true<;>by_cases h3:b.addr.Aj=i<;>by_cases h4:b.Aa.Aj=i<;>simp[h1,h2,h3,h4]
theorem Y70 {b:Za} {P:Zi->Prop}:(∀k (h:k < ([b.addr,b.Aa].filter (·.live)).length),P (([b.addr,b.Aa].filter (·.live))[k]))↔(b.addr.live=true->P b.addr)/\(b.Aa.live=true->P b.Aa):=by
 have:(∀k (h:k < ([b.addr,b.Aa].filter (·.live)).length),P (([b.addr,b.Aa].filter (·.live))[k]))↔∀x∈[b.addr,b.Aa].filter (·.live),P x:=by
  constructor
  .intro h x hx
   obtain⟨k,hk,rfl⟩:=OU hx;exact h k hk
  .intro h k hk;exact h _ (B6 hk)
 rw[this];constructor
 .intro h;exact⟨λh1=>h _ (by simp[h1]),λh1=>h _ (by simp[h1])⟩
 .intro h x hx
  simp only[OX,Cj,HV,or_false] at hx;rcases hx with⟨rfl|rfl,hx⟩
  .exact h.1 hx
  .exact h.2 hx
theorem Ykx (b:Za):Y9 (Q1 b false) (b.Aa.second=true->b.Aa.left=0/\b.Aa.Ar≠0/\b.addr.live=false):=by
 unfold Q1;rw[Ai (by simp)];by_cases h1:b.Aa.second=true
 .rw[Ai (by simp[h1])]
  by_cases h2:b.Aa.left=0
  .rw[Ah (by simpa using h2)]
   by_cases h3:b.Aa.Ar=0
   .rw[Ai (by simpa using h3)];exact .no λh=>(h h1).2.1 h3
   .rw[Ah (by simpa using h3)]
    exact .of (by simp[h1,h2,h3])
  .rw[Ai (by simpa using h2)];exact .no λh=>h2 (h h1).1
 .rw[Ah (by simpa using h1)];exact .yes λh=>absurd h h1
theorem W1 {c:Zh} (hc:Yr c=true):(0<=c.An/\c.An<=3)/\(0<=c.As/\c.As<=3)/\(1<=c.Am/\c.Am<=40)/\(1<=c.Ap/\c.Ap<=12):=by
 simp only[Yr,Bg,Bj] at hc;have h3:=hc.1.2;have h4:F0 c≠0:=λh=>h3 (by unfold Ji;rw[Ah h]);have h5:1<=c.Am/\c.Am<=40:=by
  unfold Ji at h3;rw[Ai h4] at h3;by_cases h6:1<=c.Am/\c.Am<=40
  .exact h6
  .rw[Ai h6] at h3;exact absurd rfl h3
 have h6:(0<=c.An/\c.An<=3)/\(0<=c.As/\c.As<=3):=by
  unfold F0 at h4;by_cases h7:(0<=c.An/\c.An<=3)/\(0<=c.As/\c.As<=3)
  .exact h7
  .rw[Ai h7] at h4;exact absurd rfl h4
 exact⟨h6.1,h6.2,h5,hc.1.1.2⟩
theorem Y1x (b:Za) (hc:Yr b.Ae=true) (h1:b.m.length=b.Ae.Ab.length) (hl:b.Aa.live=true->Dv b b.Aa):Y9 (Xi b false) (Kt b):=by
 have hw:=(W1 hc).2.1;unfold Xi Kt;rw[Ai (by simp)];by_cases hd:b.Aa.live=true
 .obtain⟨hm,P0,JA⟩:=hl hd
  rw[Ai (by simp[hd]),Wq h1 hm,Ag,Ah hd,Wm,Ag,Wm,Ag,Yl (by omega) (by omega)];have cU:∀v,Y9 (bF b (Ak b.m b.Aa.Aj) v) (v=false/\(b.Aa.Ar=3->(Ak b.m b.Aa.Aj).Ax=false/\b.Aa.Aj≠b.Af)/\(b.Aa.second=true->b.Aa.left=0/\b.Aa.Ar≠0/\b.addr.live=false)):=by
   intro v;unfold bF;cases v with
   | true=>rw[Ah rfl];exact .no λh=>by simp at h
   | false=>
    rw[Ai (by simp)];by_cases h3:b.Aa.Ar=3
    .rw[Ah (by simpa using h3)]
     by_cases h4:(Ak b.m b.Aa.Aj).Ax=true
     .rw[Ah h4]
      unfold Q1;rw[Ah rfl];exact .no λh=>by have:=(h.2.1 h3).1;rw[h4] at this;cases this
     .rw[Ai h4]
      by_cases h5:b.Aa.Aj=b.Af
      .rw[decide_eq_true h5]
       unfold Q1;rw[Ah rfl];exact .no λh=>(h.2.1 h3).2 h5
      .rw[decide_eq_false h5]
       exact (Ykx b).iff ⟨λh=>⟨rfl,λ_=>⟨by simpa using h4,h5⟩,h⟩,λh=>h.2.2⟩
    .rw[Ai (by simpa using h3)]
     exact (Ykx b).iff ⟨λh=>⟨rfl,λh6=>absurd h6 h3,h⟩,λh=>h.2.2⟩
  have hJ5:∀v,Y9 (TN b (Ak b.m b.Aa.Aj) v) (v=false/\(b.Aa.Ar=2->(Ak b.m b.Aa.Aj).tries < b.Ae.An)/\(b.Aa.Ar=3->(Ak b.m b.Aa.Aj).Ax=false/\b.Aa.Aj≠b.Af)/\(b.Aa.second=true->b.Aa.left=0/\b.Aa.Ar≠0/\b.addr.live=false)):=by
   intro v;unfold TN;cases v with
   | true=>rw[Ah rfl];exact .no λh=>by simp at h
   | false=>
    rw[Ai (by simp)];by_cases h3:b.Aa.Ar=2
    .rw[Ah (by simpa using h3)]
     refine (cU _).iff ?_;simp[h3]
    .rw[Ai (by simpa using h3)]
     refine (cU _).iff ?_;simp[h3]
  by_cases h3:b.Aa.Ao=(Ak b.m b.Aa.Aj).done
  .rw[Ai (by simpa using h3)]
   by_cases h4:0<=b.Aa.left/\b.Aa.left<=b.Ae.As+2
   .rw[Ai (by simpa using h4)]
    refine (hJ5 _).iff ?_;simp[h3,h4]
   .rw[Ah (by rw[decide_eq_false h4];rfl)]
    exact (hJ5 _).iff ⟨λh=>by simp at h,λh=>absurd h.1.2.1 h4⟩
  .rw[Ah (by simpa using h3)]
   exact (hJ5 _).iff ⟨λh=>by simp at h,λh=>absurd h.1.1 h3⟩
 .rw[Ah (by simpa using hd),Ai hd]
  exact .of (cT _)
theorem Y52 {l:List Int} {N:Int} (hN:0<=N) (h:∀v∈l,0<=v/\v<=N) (i:Int):0<=Ak l i/\Ak l i<=N:=by
 unfold Ak;rw[OR];cases hg:l[i.toNat]? with
 | none=>exact⟨LA _,hN⟩
 | some v=>exact h v (Ep hg)
theorem Y84:∀(xs:List Zi) (l:List Int) (N:Int),0<=N->(∀v∈l,0<=v/\v<=N)->∀v∈DO xs l,0<=v/\v<=N+xs.length:=by
 intro xs
 induction xs with
 | nil=>intro l N _ h v hv;have:=h v hv;simpa using this
 | cons x xs ih=>
  intro l N hN h v hv;have h2:=Y52 hN h x.Aj;have:=ih (l.set x.Aj.toNat (Ak l x.Aj+1)) (N+1) (by omega) (λy hy=>by
   rcases eP hy with hy|rfl
   .have:=h y hy;omega
   .omega) v hv
  simp only[AV];omega
theorem Yiz (b:Za) (hc:Yr b.Ae=true) (h1:b.m.length=b.Ae.Ab.length) (h3:b.splits.length=b.Ae.Ab.length) (hr:∀i,Zn b.Ae i=true->Yy (Ak b.m i)):
  Y9 (TO b) (((b.addr.live=true->Dv b b.addr)/\(b.Aa.live=true->Dv b b.Aa))/\(∀i,Zn b.Ae i=true->(Ak b.m i).Ao - (Ak b.m i).done=Jt b i)/\Jq b/\Kt b):=by
 have Yn:=Km hc;have Z6:=Gl hc;unfold TO;rw[Yug (by omega) (by omega),Ag,Y6h,Ag];generalize hLs:[b.addr,b.Aa].filter (·.live)=ls;have hls:ls.length<=2:=by
  rw[<-hLs];exact L7 (SA ..) (by simp)
 have Xak:∀x:Zi,Zn b.Ae x.Aj=true->0<=x.Aj/\x.Aj < (b.m.length:Int):=λx h=>by
  simp only[Zn,Bj] at h;omega
 have Mi:(∀x∈ls,Zn b.Ae x.Aj=true)->((b.addr.live=true->Dv b b.addr)/\(b.Aa.live=true->Dv b b.Aa))->Y9 (bG b FU (DO ls (List.replicate b.m.length 0)) 0) ((∀i,Zn b.Ae i=true->(Ak b.m i).Ao - (Ak b.m i).done=Jt b i)/\Jq b/\Kt b):=by
  intro CH Xal;have hfa:∀i,Zn b.Ae i=true->Ak (DO ls (List.replicate b.m.length 0)) i=Jt b i:=by
   intro i hi;simp only[Zn,Bj] at hi;rw[Xbx _ _ i hi.1 (by simp;omega) (λx hx=>by have:=Xak x (CH x hx);simpa using this),<-Y6w,hLs];have:Ak (List.replicate b.m.length (0:Int)) i=0:=by
    unfold Ak;rw[OR,Veb];split<;>rfl
   rw[this];simp
  have hQ:∃r,(∀κ,Wz b κ (DO ls (List.replicate b.m.length 0)) (b.m.length:Int)=some r)/\(r=true↔Jq b/\Kt b):=by
   obtain⟨r,h4,h5⟩:=Y1x b hc h1 Xal.2;have cV:Xi b true=some false:=by unfold Xi;rw[Ah rfl]
   by_cases ha:b.addr.live=true
   .obtain⟨hm,P0,JA⟩:=Xal.1 ha
    have SR:=J9 (hr _ hm);by_cases e1:b.addr.Ao=(Ak b.m b.addr.Aj).Ao - 1/\b.addr.left=0/\b.addr.Ar=0/\b.addr.second=false
    .refine⟨r,λκ=>?_,?_⟩
     .unfold Wz
      obtain⟨f1,f2,f3,f4⟩:=e1;rw[Ai (by simp),Ah ha,Wq h1 hm,Ag,Xb (by omega) (by omega)];simp only[f1,f2,f3,f4,ha,ne_eq,not_true_eq_false,decide_false,Bn,if_false,Du,h4]
     .rw[h5];unfold Jq;rw[Ah ha];exact⟨λh=>⟨e1,h⟩,λh=>h.2⟩
    .refine⟨false,λκ=>?_,?_⟩
     .unfold Wz
      rw[Ai (by simp),Ah ha,Wq h1 hm,Ag,Xb (by omega) (by omega)];by_cases f1:b.addr.Ao=(Ak b.m b.addr.Aj).Ao - 1
      .by_cases f2:b.addr.left=0
       .by_cases f3:b.addr.Ar=0
        .have f4:b.addr.second=true:=by
          cases hs:b.addr.second with
          | true=>rfl
          | false=>exact absurd ⟨f1,f2,f3,hs⟩ e1
         rw[Ai (by simpa using f1),Ai (by simpa using f2),Ai (by simpa using f3),Ah f4,cV]
        .rw[Ai (by simpa using f1),Ai (by simpa using f2),Ah (by simpa using f3),cV]
       .rw[Ai (by simpa using f1),Ah (by simpa using f2),cV]
      .rw[Ah (by simpa using f1),cV]
     .unfold Jq;rw[Ah ha];simp[e1]
   .by_cases e1:b.addr=Zi.z0
    .refine⟨r,λκ=>?_,?_⟩
     .unfold Wz
      rw[Ai (by simp),Ai ha,Ah (by simpa using ha),(cT b.addr).2 e1];exact h4
     .rw[h5];unfold Jq;rw[Ai ha];exact⟨λh=>⟨e1,h⟩,λh=>h.2⟩
    .refine⟨false,λκ=>?_,?_⟩
     .unfold Wz
      rw[Ai (by simp),Ai ha,Ah (by simpa using ha)];have:((b.addr.live == false)&&(decide (b.addr.Aj=0)&&(decide (b.addr.Ao=0)&&((b.addr.first == false)&&(decide (b.addr.B2=0)&&(decide (b.addr.left=0)&&(decide (b.addr.Ar=0)&&((b.addr.second == false)&&true))))))))=false:=by
       rw[<-Bool.not_eq_true,cT];exact e1
      rw[this,FF,cV]
     .unfold Jq;rw[Ai ha];simp[e1]
  obtain⟨r,Ez,C6⟩:=hQ;refine (rM (σ:=List Int) (n:=b.m.length) (by omega) (P:=λk=>(Ak b.m (k:Int)).Ao - (Ak b.m (k:Int)).done=Jt b (k:Int)) (Q:=Jq b/\Kt b) (λ_=>DO ls (List.replicate b.m.length 0)) (B:=Wz b) (L:=bG b) (λm s i=>rfl) (λk hk=>?_) λ_=>⟨r,Ez,C6⟩).iff ?_
  .have hm:=FP (c:=b.Ae) (k:=k) (by omega)
   have SR:=J9 (hr _ hm);have BM:=Yv0 ls (List.replicate b.m.length 0);rw[eU] at BM;have hi:idx (DO ls (List.replicate b.m.length 0)) (k:Int)=some (Jt b (k:Int)):=by
    rw[Xm (by omega) (by omega),hfa _ hm]
   by_cases e1:(Ak b.m (k:Int)).Ao - (Ak b.m (k:Int)).done=Jt b (k:Int)
   .refine .inl ⟨e1,λκ=>?_⟩
    unfold Wz;rw[Ah (by simpa using hk),Wq h1 hm,Ag,hi,Ag,Xb (by omega) (by omega),Ai (by simpa using e1)]
   .refine .inr ⟨e1,λκ=>?_⟩
    unfold Wz;rw[Ah (by simpa using hk),Wq h1 hm,Ag,hi,Ag,Xb (by omega) (by omega),Ah (by simpa using e1)]
  .rw[h1,<-Ur (P:=λi=>(Ak b.m i).Ao - (Ak b.m i).done=Jt b i)]
 have hlv:(∀k,k < ls.length->Dv b (Ak ls (k:Int)))↔((b.addr.live=true->Dv b b.addr)/\(b.Aa.live=true->Dv b b.Aa)):=by
  rw[<-Y70 (P:=Dv b),hLs];constructor
  .intro h k hk;have:=h k hk;rwa [W7 hk] at this
  .intro h k hk;rw[W7 hk];exact h k hk
 have cW:∀k,k < ls.length->(Dv b (Ak ls (k:Int))/\∀κ,W0 b κ (DO (ls.take k) (List.replicate b.m.length 0)) ls (ls.length:Int) (k:Int)=κ (DO (ls.take (k+1)) (List.replicate b.m.length 0)) ls (ls.length:Int) (Zo (k:Int) 1))\/(¬Dv b (Ak ls (k:Int))/\∀κ,W0 b κ (DO (ls.take k) (List.replicate b.m.length 0)) ls (ls.length:Int) (k:Int)=some false):=by
  intro k hk;have BM:=Yv0 (ls.take k) (List.replicate b.m.length 0);rw[eU] at BM;have RY:∀κ x,Jc b κ x (DO (ls.take k) (List.replicate b.m.length 0)) ls (ls.length:Int) (k:Int) true=some false:=λκ x=>by unfold Jc;rw[Ah rfl]
  by_cases e1:Zn b.Ae (Ak ls (k:Int)).Aj=true
  .by_cases e2:1<=(Ak ls (k:Int)).B2/\(Ak ls (k:Int)).B2<=3
   .by_cases e3:Ak b.splits (Ak ls (k:Int)).Aj=0
    .refine .inl ⟨⟨e1,e2,e3⟩,λκ=>?_⟩
     unfold W0;have hw:=Xak _ e1;rw[Ah (by simpa using hk),Xm (by omega) (by omega),Ag,Lm _ _ Z6,Ag,e1,Ai (by simp),Wm,Ag,Ai (by simpa using e2),HK h3 e1,Ag,e3];unfold Jc;have hb:=Y52 (by omega) (Y84 (ls.take k) (List.replicate b.m.length 0) 0 (by omega) (λv hv=>by rw[List.eq_of_mem_replicate hv];omega)) (Ak ls (k:Int)).Aj;have GM:(ls.take k).length<=2:=by rw[FX];omega
     rw[Ai (by simp),Xm hw.1 (by omega),Ag,Yl (a:=Ak (DO (ls.take k) (List.replicate b.m.length 0)) (Ak ls (k:Int)).Aj) (by omega) (by omega),Qg,Ag,List.take_succ_eq_append_getElem hk,Y5o,W7 hk]
    .refine .inr ⟨λh=>e3 h.2.2,λκ=>?_⟩
     unfold W0;rw[Ah (by simpa using hk),Xm (by omega) (by omega),Ag,Lm _ _ Z6,Ag,e1,Ai (by simp),Wm,Ag,Ai (by simpa using e2),HK h3 e1,Ag,decide_eq_true e3,RY]
   .refine .inr ⟨λh=>e2 h.2.1,λκ=>?_⟩
    unfold W0;rw[Ah (by simpa using hk),Xm (by omega) (by omega),Ag,Lm _ _ Z6,Ag,e1,Ai (by simp),Wm,Ag,Ah (by rw[decide_eq_false e2];rfl),RY]
  .refine .inr ⟨λh=>e1 h.1,λκ=>?_⟩
   unfold W0;rw[Ah (by simpa using hk),Xm (by omega) (by omega),Ag,Lm _ _ Z6,Ag,Ah (by simpa using e1),RY]
 have P2:=rM (σ:=List Int×List Zi×Int) (n:=ls.length) (by omega) (P:=λk=>Dv b (Ak ls (k:Int)))
  (Q:=(∀i,Zn b.Ae i=true->(Ak b.m i).Ao - (Ak b.m i).done=Jt b i)/\Jq b/\Kt b)
  (λk=>(DO (ls.take k) (List.replicate b.m.length 0),ls,(ls.length:Int))) (B:=λκ s i=>W0 b (λv l n i=>κ (v,l,n) i) s.1 s.2.1 s.2.2 i) (L:=λm s i=>pQ b m s.1 s.2.1 s.2.2 i) (λm s i=>rfl)
  (λk hk=>(cW k hk).imp (λh=>⟨h.1,λκ=>h.2 _⟩) λh=>⟨h.1,λκ=>h.2 _⟩)
 have CH:(∀k,k < ls.length->Dv b (Ak ls (k:Int)))->∀x∈ls,Zn b.Ae x.Aj=true:=by
  intro h x hx;obtain⟨k,hk,rfl⟩:=OU hx;have:=(h k hk).1
  rwa [W7 hk] at this
 have CJ:=P2 λK1=>by
  obtain⟨r,Ez,C6⟩:=Mi (CH K1) (hlv.1 K1);refine⟨r,λκ=>?_,C6⟩;unfold W0;rw[Ai (by simp),EY];exact Ez
 simp only[List.take_zero,DO] at CJ;exact CJ.iff (by rw[hlv])
theorem Yn3 (b:Za) (hc:Yr b.Ae=true) (h1:b.m.length=b.Ae.Ab.length) (h3:b.splits.length=b.Ae.Ab.length):Y9 (TP b) (Gn b):=by
 have Yn:=Km hc;have Z6:=Gl hc;unfold TP Gn;refine (cR (n:=b.m.length) (by omega) (P:=λk=>(Ak b.m (k:Int)).Ao > 0->Yq (Ak b.m (k:Int))=true->b.Af=(k:Int))
  (Q:=if b.Af=-1 then b.held=0 else Zn b.Ae b.Af=true/\Yq (Ak b.m b.Af)=true/\Ak b.splits b.Af=0/\(0<=b.held/\b.held<=b.Ae.Am))
  (B:=pR b) (λm i=>rfl) (λk hk=>?_) λ_=>?_).iff ?_
 .have hm:=FP (c:=b.Ae) (k:=k) (by omega)
  unfold pR;simp only[Ah (show decide ((k:Int) < (b.m.length:Int))=true by simpa using hk),Wq h1 hm,Ag,Z9x];by_cases e1:(Ak b.m (k:Int)).Ao > 0
  .by_cases e2:Yq (Ak b.m (k:Int))=true
   .by_cases e3:b.Af=(k:Int)
    .exact .inl ⟨λ_ _=>e3,λκ=>by simp[e1,e2,e3]⟩
    .exact .inr ⟨λh=>e3 (h e1 e2),λκ=>by simp[e1,e2,e3]⟩
   .exact .inl ⟨λ_ h=>absurd h e2,λκ=>by simp[e1,e2]⟩
  .exact .inl ⟨λh=>absurd h e1,λκ=>by simp[e1]⟩
 .unfold pR
  simp only[Int.lt_irrefl,decide_false,Bn,if_false];by_cases e1:b.Af=-1
  .exact⟨decide (b.held=0),λκ=>by simp[e1],by simp[e1]⟩
  .simp only[e1,decide_false,Bn,if_false,Lm _ _ Z6,Ag]
   by_cases e2:Zn b.Ae b.Af=true
   .simp only[e2,if_true,Wq h1 e2,HK h3 e2,Ag,Z9x,Wm]
    by_cases e3:Yq (Ak b.m b.Af)=true
    .by_cases e4:Ak b.splits b.Af=0
     .exact⟨decide (0<=b.held/\b.held<=b.Ae.Am),λκ=>by simp only[e3,e4,decide_true,if_true],by simp[e3,e4]⟩
     .exact⟨false,λκ=>by simp[e3,e4],by simp[e4]⟩
    .exact⟨false,λκ=>by simp[e3],by simp[e3]⟩
   .exact⟨false,λκ=>by simp[e2],by simp[e2]⟩
 .rw[h1,<-Ur (P:=λi=>(Ak b.m i).Ao > 0->Yq (Ak b.m i)=true->b.Af=i)]
def GN (l:List Zt):Nat->Int
 | 0=>-1
 | k+1=>(Ak l (k:Int)).A4
theorem Ywk {l:List Zt}:(l.Pairwise λx y=>x.A4 < y.A4)↔∀k,k+1 < l.length->(Ak l (k:Int)).A4 < (Ak l ((k+1:Nat):Int)).A4:=by
 constructor
 .intro h k hk
  rw[W7 (by omega),W7 hk];exact Vd5.1 h k (k+1) (by omega) hk (by omega)
 .intro h
  rw[Vd5];have key:∀(d i:Nat) (hj:i+d+1 < l.length),(l[i]'(by omega)).A4 < (l[i+d+1]'hj).A4:=by
   intro d
   induction d with
   | zero=>
    intro i hj;have:=h i hj;rw[W7 (by omega),W7 hj] at this;exact this
   | succ d ih=>
    intro i hj;have h4:=ih i (by omega);have h5:=h (i+d+1) (by omega);rw[W7 (by omega),W7 (by omega)] at h5;exact Int.lt_trans h4 h5
  intro i j hi hj hij;have:=key (j - i - 1) i (by omega);have e:i+(j - i - 1)+1=j:=by omega
  simp only[e] at this;exact this
theorem Y0i {b:Za}:MN b↔∀k,k < b.log.length->RX b.Ae b.now (Ak b.log (k:Int))/\GN b.log k < (Ak b.log (k:Int)).A4:=by
 unfold MN;constructor
 .intro h k hk
  have h1:=h.1 _ (Gj (xs:=b.log) (i:=(k:Int)) (by omega) (by omega));refine⟨h1,?_⟩;cases k with
  | zero=>have:=h1.1.1;simp only[GN];omega
  | succ k=>exact Ywk.1 h.2 k hk
 .intro h
  refine⟨λd hd=>?_,Ywk.2 λk hk=>?_⟩
  .obtain⟨k,hk,rfl⟩:=OU hd
   have:=(h k hk).1
   rwa [W7 hk] at this
  .exact (h (k+1) hk).2
def OC (c:Zh) (now:Int) (d:Zt):Prop:=d.A4 < now/\Zn c d.Aj=true/\X4 d.addr d.size=true/\d.addr < 512/\Xw d.value d.size=true/\(d.Ar=0\/d.Ar=1)
theorem Y8i {b:Za}:MN b↔∀k,k < b.log.length->OC b.Ae b.now (Ak b.log (k:Int))/\GN b.log k < (Ak b.log (k:Int)).A4:=by
 rw[Y0i];constructor
 .intro h k hk
  have:=h k hk;exact⟨⟨this.1.1.2,this.1.2⟩,this.2⟩
 .intro h
  have h0:∀k,k<=b.log.length->-1<=GN b.log k:=by
   intro k
   induction k with
   | zero=>intro _;simp[GN]
   | succ k ih=>
    intro hk;have h1:=ih (by omega);have h2:=(h k (by omega)).2;simp only[GN];omega
  intro k hk;have h1:=h k hk;have h2:=h0 k (by omega);exact⟨⟨⟨by omega,h1.1.1⟩,h1.1.2⟩,h1.2⟩
theorem Yi3 (b:Za) (hc:Yr b.Ae=true) (hl:b.log.length < 1048577) (hn:0<=b.now/\b.now<=4000):Y9 (TQ b) (MN b):=by
 have Z6:=Gl hc;unfold TQ;have:=rM (σ:=Int) (n:=b.log.length) (by omega) (P:=λk=>OC b.Ae b.now (Ak b.log (k:Int))/\GN b.log k < (Ak b.log (k:Int)).A4) (Q:=True)
  (GN b.log) (B:=pS b) (L:=pT b) (λm s i=>rfl) (λk hk=>?_) λ_=>⟨true,λκ=>?_,by simp⟩
 .exact this.iff (by rw[and_true,Y8i])
 .have e0:GN b.log (k+1)=(Ak b.log (k:Int)).A4:=rfl
  rw[e0];unfold pS;simp only[Ah (show decide ((k:Int) < (b.log.length:Int))=true by simpa using hk),Xm (xs:=b.log) (i:=(k:Int)) (by omega) (by omega),Ag,Lm _ _ Z6,rF,RR];generalize Ak b.log (k:Int)=d;by_cases e1:GN b.log k < d.A4
  .have E0:¬d.A4<=GN b.log k:=by omega
   by_cases e2:d.A4 < b.now
   .have Hp:¬d.A4≥b.now:=by omega
    by_cases e3:Zn b.Ae d.Aj=true
    .by_cases e4:X4 d.addr d.size=true
     .by_cases e5:d.addr < 512
      .have HL:¬d.addr≥512:=by omega
       by_cases e6:Xw d.value d.size=true
       .by_cases e7:d.Ar=0
        .exact .inl ⟨⟨⟨e2,e3,e4,e5,e6,.inl e7⟩,e1⟩,λκ=>by simp[E0,Hp,e3,e4,HL,e6,e7]⟩
        .by_cases e8:d.Ar=1
         .exact .inl ⟨⟨⟨e2,e3,e4,e5,e6,.inr e8⟩,e1⟩,λκ=>by simp[E0,Hp,e3,e4,HL,e6,e8]⟩
         .exact .inr ⟨λh=>by have:=h.1.2.2.2.2.2;omega,λκ=>by simp[E0,Hp,e3,e4,HL,e6,e7,e8]⟩
       .exact .inr ⟨λh=>e6 h.1.2.2.2.2.1,λκ=>by simp[E0,Hp,e3,e4,HL,e6]⟩
      .have HL:d.addr≥512:=by omega
       exact .inr ⟨λh=>e5 h.1.2.2.2.1,λκ=>by simp[E0,Hp,e3,e4,HL]⟩
     .exact .inr ⟨λh=>e4 h.1.2.2.1,λκ=>by simp[E0,Hp,e3,e4]⟩
    .exact .inr ⟨λh=>e3 h.1.2.1,λκ=>by simp[E0,Hp,e3]⟩
   .have Hp:d.A4≥b.now:=by omega
    exact .inr ⟨λh=>e2 h.1.1,λκ=>by simp[E0,Hp]⟩
  .have E0:d.A4<=GN b.log k:=by omega
   exact .inr ⟨λh=>e1 h.2,λκ=>by simp[E0]⟩
 .unfold pS
  rw[Ai (by simp)]
theorem Yq0 (b:Za) (hs:b.sm):Y9 (TR b) (CV b):=by
 unfold TR;rw[Uh _ hs.Ae,Ag];by_cases hc:Yr b.Ae=true
 .rw[Ah hc,Wm,Ag]
  by_cases hn:0<=b.now/\b.now<=4000
  .rw[Ah (decide_eq_true hn)]
   have Xam:b.m.length=b.Ae.Ab.length->b.buckets.length=b.Ae.Ab.length->b.splits.length=b.Ae.Ab.length->(∀i,Zn b.Ae i=true->HJ b.Ae b i)->
     Y9 ((R5 b.model).bind λr133=>if r133=true then (Ym b.Au 0 b.now).bind λr140=>if r140=true then (TO b).bind λr143=>if r143=true then (TP b).bind λr146=>if r146=true then (TQ b).bind λr149=>some r149 else some false else some false else some false else some false)
      (Ec b.model/\(0<=b.Au/\b.Au<=b.now)/\(((b.addr.live=true->Dv b b.addr)/\(b.Aa.live=true->Dv b b.Aa))/\(∀i,Zn b.Ae i=true->(Ak b.m i).Ao - (Ak b.m i).done=Jt b i)/\Jq b/\Kt b)/\Gn b/\MN b):=by
    intro h1 h2 h3 hm;rw[Ydi _ hs.model];refine Y9.and (Y9.of cP) λ_=>?_;rw[Wm];refine Y9.and (Y9.of (decide_eq_true_iff)) λ_=>?_;refine Y9.and (Yiz b hc h1 h3 λi hi=>(hm i hi).right) λ_=>?_;refine Y9.and (Yn3 b hc h1 h3) λ_=>?_;obtain⟨r,h4,h5⟩:=Yi3 b hc hs.log hn;rw[h4];exact .of h5
   have hw:Y9 (R4 b.Bm b.Ae) (CG b.Bm b.Ae=true):=by rw[Z9s _ _ hs.Ae];exact .of Iff.rfl
   by_cases rN:b.last=-1
   .simp only[rN,decide_true,if_true]
    refine (Y9.and (Zyq b hs hc) λhm=>Y9.and hw λ_=>Xam hm.1 hm.2.1 hm.2.2.1 hm.2.2.2).iff ⟨λh=>?_,λh=>?_⟩
    .obtain⟨⟨h1,h2,h3,h4⟩,h5,h6,h7,⟨⟨h8,h9⟩,IX,RZ,cX⟩,cY,h14⟩:=h
     exact⟨hc,hn,h1,h2,h3,h4,h5,.inl rN,h6,h7,h8,h9,IX,RZ,cX,cY,h14⟩
    .exact⟨⟨h.ml,h.bl,h.sl,h.Bx⟩,h.Bm,h.model,h.Au,⟨⟨h.alive,h.B9⟩,h.Dq,h.addr,h.data⟩,h.held,h.log⟩
   .have e:decide (b.last=-1)=false:=decide_eq_false rN
    simp only[e,Bn,if_false];have hi:Y9 (IL b.Ae b.last) (Zn b.Ae b.last=true):=by rw[Lm _ _ hs.Ae];exact .of Iff.rfl
    refine (Y9.and (Zyq b hs hc) λhm=>Y9.and hw λ_=>Y9.and hi λ_=>Xam hm.1 hm.2.1 hm.2.2.1 hm.2.2.2).iff ⟨λh=>?_,λh=>?_⟩
    .obtain⟨⟨h1,h2,h3,h4⟩,h5,hx,h6,h7,⟨⟨h8,h9⟩,IX,RZ,cX⟩,cY,h14⟩:=h
     exact⟨hc,hn,h1,h2,h3,h4,h5,.inr hx,h6,h7,h8,h9,IX,RZ,cX,cY,h14⟩
    .exact⟨⟨h.ml,h.bl,h.sl,h.Bx⟩,h.Bm,h.last.resolve_left rN,h.model,h.Au,⟨⟨h.alive,h.B9⟩,h.Dq,h.addr,h.data⟩,h.held,h.log⟩
  .rw[Ai (by simpa using hn)]
   exact .no λh=>hn h.now
 .rw[Ai hc]
  exact .no λh=>hc h.Ae
theorem Y54 (b:Za) (i:Int):jQ b i=some (Jt b i):=by
 unfold jQ jP jO Jt;by_cases h1:b.addr.live=true<;>by_cases h2:b.Aa.live=true<;>by_cases h3:b.addr.Aj=i<;>by_cases h4:b.Aa.Aj=i<;>simp[h1,h2,h3,h4]<;>rfl
theorem Yrz (n:Int):∃w,Mz n=some w/\((!(w.toList == ByteArray.empty.toList))=true↔(0<=n/\n<=3)):=by
 unfold Mz;rw[Xr,Ag];by_cases h:0<=n/\n<=3
 .have:n=0\/n=1\/n=2\/n=3:=by omega
  rcases this with rfl|rfl|rfl|rfl<;>exact⟨_,rfl,by rw[Yqg,Yqg];decide⟩
 .rw[Ah (by rw[decide_eq_false h];rfl)]
  exact⟨_,rfl,by simp[h]⟩
theorem cZ {b:Za} (h1:b.m.length=b.Ae.Ab.length) (Z6:b.Ae.Ab.length < 1048577) (i:Int):Z1 i 0 (Xd (b.m.length:Int) 1)=some (Zn b.Ae i):=by
 rw[Xr,h1,cF i Z6]
theorem Yo4 (b:Za) (hs:b.sm) (hc:Yr b.Ae=true) (h1:b.m.length=b.Ae.Ab.length) (h3:b.splits.length=b.Ae.Ab.length) (hm:∀i,Zn b.Ae i=true->HJ b.Ae b i):
  Y9 (M0 b b.addr false) ((b.addr.live=true->Dv b b.addr)/\Jq b):=by
 have Z6:=Gl hc;have MO:Ku b b.addr false true=some false:=by unfold Ku;rw[Ah rfl]
 unfold M0 Jq;by_cases ha:b.addr.live=true
 .rw[Ai (by simp[ha]),Ah ha,cZ h1 Z6,Ag,Xr,Ag]
  by_cases e1:Zn b.Ae b.addr.Aj=true
  .rw[e1,Ai (by simp)]
   by_cases e2:1<=b.addr.B2/\b.addr.B2<=3
   .rw[Ai (by simpa using e2),HK h3 e1,Ag]
    have JA:=(hm _ e1).split;by_cases e3:Ak b.splits b.addr.Aj=0
    .rw[decide_eq_false (by omega)]
     have SR:=J9 (hm _ e1).right;unfold Ku;rw[Ai (by simp),Wq h1 e1,Ag,Ah (by simp),Xb (by omega) (by omega)];by_cases f1:b.addr.Ao=(Ak b.m b.addr.Aj).Ao - 1
     .by_cases f2:b.addr.left=0
      .by_cases f3:b.addr.Ar=0
       .rw[Ah (by simpa using f1),Ah (by simpa using f2),Ah (by simpa using f3)]
        refine .of ⟨λh=>⟨λ_=>⟨e1,e2,e3⟩,f1,f2,f3,by simpa using h⟩,λh=>by simpa using h.2.2.2.2⟩
       .rw[Ah (by simpa using f1),Ah (by simpa using f2),Ai (by simpa using f3)]
        exact .no λh=>f3 h.2.2.2.1
      .rw[Ah (by simpa using f1),Ai (by simpa using f2)]
       exact .no λh=>f2 h.2.2.1
     .rw[Ai (by simpa using f1)]
      exact .no λh=>f1 h.2.1
    .rw[decide_eq_true (by omega),MO]
     exact .no λh=>e3 (h.1 ha).2.2
   .rw[Ah (by rw[decide_eq_false e2];rfl),MO]
    exact .no λh=>e2 (h.1 ha).2.1
  .rw[Ah (by simpa using e1),MO]
   exact .no λh=>e1 (h.1 ha).1
 .rw[Ah (by simpa using ha),Ai ha]
  exact (Y9.of (cT _)).iff ⟨λh=>⟨λh2=>absurd h2 ha,h⟩,λh=>h.2⟩
theorem Ynz (b:Za) (hs:b.sm) (hc:Yr b.Ae=true) (h1:b.m.length=b.Ae.Ab.length) (h3:b.splits.length=b.Ae.Ab.length) (hm:∀i,Zn b.Ae i=true->HJ b.Ae b i):
  Y9 (M0 b b.Aa true) ((b.Aa.live=true->Dv b b.Aa)/\Kt b):=by
 have Z6:=Gl hc;have hw:=(W1 hc).2.1;have MO:Ku b b.Aa true true=some false:=by unfold Ku;rw[Ah rfl]
 unfold M0 Kt;by_cases ha:b.Aa.live=true
 .rw[Ai (by simp[ha]),Ah ha,cZ h1 Z6,Ag,Xr,Ag]
  by_cases e1:Zn b.Ae b.Aa.Aj=true
  .rw[e1,Ai (by simp)]
   by_cases e2:1<=b.Aa.B2/\b.Aa.B2<=3
   .rw[Ai (by simpa using e2),HK h3 e1,Ag]
    have JA:=(hm _ e1).split;by_cases e3:Ak b.splits b.Aa.Aj=0
    .rw[decide_eq_false (by omega)]
     have SR:=J9 (hm _ e1).right;have c6:Y9 (Yj b b.Aa true (Ak b.m b.Aa.Aj) false) ((b.Aa.Ao=(Ak b.m b.Aa.Aj).done/\(0<=b.Aa.left/\b.Aa.left<=b.Ae.As+2)/\(0<=b.Aa.Ar/\b.Aa.Ar<=3))/\(b.Aa.second=true->b.Aa.left=0/\b.Aa.Ar≠0)):=by
      unfold Yj;obtain⟨w,hw1,hw2⟩:=Yrz b.Aa.Ar;rw[Ai (by simp),Xr,Ag,hw1,Ag,Yl (by omega) (by omega)];by_cases f1:b.Aa.Ao=(Ak b.m b.Aa.Aj).done
      .rw[Ah (by simpa using f1)]
       by_cases f2:0<=b.Aa.left/\b.Aa.left<=b.Ae.As+2
       .rw[Ah (by simpa using f2)]
        by_cases f3:0<=b.Aa.Ar/\b.Aa.Ar<=3
        .rw[Ah (hw2.2 f3)]
         by_cases f4:b.Aa.second=true
         .rw[Ai (by simp[f4])]
          by_cases f5:b.Aa.Ar=0
          .rw[Ai (by simpa using f5)]
           exact .no λh=>(h.2 f4).2 f5
          .rw[Ah (by simpa using f5)]
           refine .of ⟨λh=>⟨⟨f1,f2,f3⟩,λ_=>⟨by simpa using h,f5⟩⟩,λh=>by simpa using (h.2 f4).1⟩
         .rw[Ah (by simpa using f4)]
          exact .yes ⟨⟨f1,f2,f3⟩,λh=>absurd h f4⟩
        .rw[Ai (λh=>f3 (hw2.1 h))]
         exact .no λh=>f3 h.1.2.2
       .rw[Ai (by rw[decide_eq_false f2];simp)]
        exact .no λh=>f2 h.1.2.1
      .rw[Ai (by simpa using f1)]
       exact .no λh=>f1 h.1.1
     have rO:Yj b b.Aa true (Ak b.m b.Aa.Aj) true=some false:=by unfold Yj;rw[Ah rfl]
     have hS:Y9 (if b.Aa.second=true then Yj b b.Aa true (Ak b.m b.Aa.Aj) b.addr.live else Yj b b.Aa true (Ak b.m b.Aa.Aj) false)
       ((b.Aa.Ao=(Ak b.m b.Aa.Aj).done/\(0<=b.Aa.left/\b.Aa.left<=b.Ae.As+2)/\(0<=b.Aa.Ar/\b.Aa.Ar<=3))/\(b.Aa.second=true->b.Aa.left=0/\b.Aa.Ar≠0/\b.addr.live=false)):=by
      by_cases f4:b.Aa.second=true
      .rw[Ah f4]
       by_cases f5:b.addr.live=true
       .rw[f5,rO]
        exact .no λh=>by have:=(h.2 f4).2.2;cases this
       .have f6:b.addr.live=false:=by simpa using f5
        rw[f6];exact c6.iff ⟨λh=>⟨h.1,λh2=>⟨(h.2 h2).1,(h.2 h2).2,rfl⟩⟩,λh=>⟨h.1,λh2=>⟨(h.2 h2).1,(h.2 h2).2.1⟩⟩⟩
      .rw[Ai f4]
       exact c6.iff ⟨λh=>⟨h.1,λh2=>absurd h2 f4⟩,λh=>⟨h.1,λh2=>absurd h2 f4⟩⟩
     have hT:Y9 (if decide (b.Aa.Ar=3)=true then if (Ak b.m b.Aa.Aj).Ax=true then Yj b b.Aa true (Ak b.m b.Aa.Aj) true else if decide (b.Af=b.Aa.Aj)=true then Yj b b.Aa true (Ak b.m b.Aa.Aj) true else if b.Aa.second=true then Yj b b.Aa true (Ak b.m b.Aa.Aj) b.addr.live else Yj b b.Aa true (Ak b.m b.Aa.Aj) false
       else if b.Aa.second=true then Yj b b.Aa true (Ak b.m b.Aa.Aj) b.addr.live else Yj b b.Aa true (Ak b.m b.Aa.Aj) false)
       ((b.Aa.Ar=3->(Ak b.m b.Aa.Aj).Ax=false/\b.Aa.Aj≠b.Af)/\(b.Aa.Ao=(Ak b.m b.Aa.Aj).done/\(0<=b.Aa.left/\b.Aa.left<=b.Ae.As+2)/\(0<=b.Aa.Ar/\b.Aa.Ar<=3))/\(b.Aa.second=true->b.Aa.left=0/\b.Aa.Ar≠0/\b.addr.live=false)):=by
      by_cases f3:b.Aa.Ar=3
      .rw[Ah (by simpa using f3)]
       by_cases f4:(Ak b.m b.Aa.Aj).Ax=true
       .rw[Ah f4,rO]
        exact .no λh=>by have:=(h.1 f3).1;rw[f4] at this;cases this
       .rw[Ai f4]
        by_cases f5:b.Af=b.Aa.Aj
        .rw[Ah (by simpa using f5),rO]
         exact .no λh=>(h.1 f3).2 f5.symm
        .rw[Ai (by simpa using f5)]
         exact hS.iff ⟨λh=>⟨λ_=>⟨by simpa using f4,λh2=>f5 h2.symm⟩,h⟩,λh=>h.2⟩
      .rw[Ai (by simpa using f3)]
       exact hS.iff ⟨λh=>⟨λh2=>absurd h2 f3,h⟩,λh=>h.2⟩
     unfold Ku;rw[Ai (by simp),Wq h1 e1,Ag,Ai (by simp)];by_cases f2:b.Aa.Ar=2
     .rw[Ah (by simpa using f2)]
      by_cases f3:(Ak b.m b.Aa.Aj).tries≥b.Ae.An
      .rw[Ah (by simpa using f3),rO]
       exact .no λh=>by have:=h.2.2.1 f2;omega
      .rw[Ai (by simpa using f3)]
       exact hT.iff ⟨λh=>⟨λ_=>⟨e1,e2,e3⟩,h.2.1,λ_=>by omega,h.1,h.2.2⟩,λh=>⟨h.2.2.2.1,h.2.1,h.2.2.2.2⟩⟩
     .rw[Ai (by simpa using f2)]
      exact hT.iff ⟨λh=>⟨λ_=>⟨e1,e2,e3⟩,h.2.1,λh2=>absurd h2 f2,h.1,h.2.2⟩,λh=>⟨h.2.2.2.1,h.2.1,h.2.2.2.2⟩⟩
    .rw[decide_eq_true (by omega),MO]
     exact .no λh=>e3 (h.1 ha).2.2
   .rw[Ah (by rw[decide_eq_false e2];rfl),MO]
    exact .no λh=>e2 (h.1 ha).2.1
  .rw[Ah (by simpa using e1),MO]
   exact .no λh=>e1 (h.1 ha).1
 .rw[Ah (by simpa using ha),Ai ha]
  exact (Y9.of (cT _)).iff ⟨λh=>⟨λh2=>absurd h2 ha,h⟩,λh=>h.2⟩
theorem Yku (b:Za) (hc:Yr b.Ae=true) (h1:b.m.length=b.Ae.Ab.length) (h3:b.splits.length=b.Ae.Ab.length) (hm:∀i,Zn b.Ae i=true->HJ b.Ae b i):Y9 (YJ b) (Gn b):=by
 have Yn:=Km hc;have Z6:=Gl hc;unfold YJ Gn;refine (cR (n:=b.m.length) (by omega) (P:=λk=>(Ak b.m (k:Int)).Ao > 0->Yq (Ak b.m (k:Int))=true->b.Af=(k:Int))
  (Q:=if b.Af=-1 then b.held=0 else Zn b.Ae b.Af=true/\Yq (Ak b.m b.Af)=true/\Ak b.splits b.Af=0/\(0<=b.held/\b.held<=b.Ae.Am))
  (B:=jR b) (λm i=>rfl) (λk hk=>?_) λ_=>?_).iff ?_
 .have CW:=FP (c:=b.Ae) (k:=k) (by omega)
  have hr:=(hm _ CW).right;unfold jR;simp only[Ah (show decide ((k:Int) < (b.m.length:Int))=true by simpa using hk),Wq h1 CW,Ag];by_cases e1:(Ak b.m (k:Int)).Ao > 0
  .have hq:(Ak b.m (k:Int)).queue≠[]:=by
    intro hq;have:=hr.none hq;omega
   have EG:0 < (Ak b.m (k:Int)).queue.length:=Cv.2 hq;rw[Xm (xs:=(Ak b.m (k:Int)).queue) (by omega) (by omega)];simp only[Ag,e1,decide_true,if_true];by_cases e2:(Ak (Ak b.m (k:Int)).queue 0).lock=true
   .by_cases e4:(Ak b.m (k:Int)).broken=true
    .exact .inl ⟨λ_ h=>by simp[Yq,e4] at h,λκ=>by simp[e2,e4]⟩
    .by_cases e3:b.Af=(k:Int)
     .exact .inl ⟨λ_ _=>e3,λκ=>by simp[e2,e3,e4]⟩
     .exact .inr ⟨λh=>e3 (h trivial (by simp[Yq,hq,e2,e4])),λκ=>by simp[e2,e3,e4]⟩
   .exact .inl ⟨λ_ h=>by simp[Yq,e2] at h,λκ=>by simp[e2]⟩
  .exact .inl ⟨λh=>absurd h e1,λκ=>by simp[e1]⟩
 .unfold jR
  simp only[Int.lt_irrefl,decide_false,Bn,if_false];by_cases e1:b.Af=-1
  .exact⟨decide (b.held=0),λκ=>by simp[e1],by simp[e1]⟩
  .simp only[e1,decide_false,Bn,if_false,cZ h1 Z6,Ag,Xr]
   have Hq:Rb b true=some false:=by unfold Rb;rw[Ah rfl]
   by_cases e2:Zn b.Ae b.Af=true
   .simp only[e2,Du,Bn,if_false]
    by_cases e5:0<=b.held/\b.held<=b.Ae.Am
    .have hJ:Y9 (Rb b false) (Yq (Ak b.m b.Af)=true/\Ak b.splits b.Af=0):=by
      unfold Rb;rw[Ai (by simp),Wq h1 e2,Ag];by_cases hq:(Ak b.m b.Af).queue=[]
      .rw[Ai (by simp[hq])]
       exact .no λh=>by simp[Yq,hq] at h
      .have EG:0 < (Ak b.m b.Af).queue.length:=Cv.2 hq
       rw[Ah (by simp;omega),Xm (xs:=(Ak b.m b.Af).queue) (by omega) (by omega),Ag,HK h3 e2,Ag];by_cases e6:(Ak (Ak b.m b.Af).queue 0).lock=true
       .rw[Ah e6]
        by_cases e7:(Ak b.m b.Af).broken=true
        .rw[Ai (by simp[e7])]
         exact .no λh=>by simp[Yq,e7] at h
        .rw[Ah (by simp[e7])]
         exact .of (by simp[Yq,hq,e6,e7])
       .rw[Ai e6]
        exact .no λh=>by simp[Yq,e6] at h
     obtain⟨r,Ez,C6⟩:=hJ;refine⟨r,λκ=>by rw[decide_eq_true e5,Du,Ez],?_⟩;rw[C6];exact⟨λh=>⟨trivial,h.1,h.2,e5⟩,λh=>⟨h.2.1,h.2.2.1⟩⟩
    .refine⟨false,λκ=>by rw[decide_eq_false e5,FF,Hq],by simp[e5]⟩
   .exact⟨false,λκ=>by simp[e2,Hq],by simp[e2]⟩
 .rw[h1,<-Ur (P:=λi=>(Ak b.m i).Ao > 0->Yq (Ak b.m i)=true->b.Af=i)]
def OD (c:Zh) (d:Zt):Prop:=Zn c d.Aj=true/\X4 d.addr d.size=true/\d.addr < 512/\Xw d.value d.size=true/\(d.Ar=0\/d.Ar=1)
theorem Ygf {b:Za} (h1:b.m.length=b.Ae.Ab.length) (Z6:b.Ae.Ab.length < 1048577) (d:Zt):(OD b.Ae d/\∀x:Option Bool,((Z1 d.Aj 0 (Xd (b.m.length:Int) 1)).bind λSa=>if (!Sa)=true then some false else (KY d.addr d.size).bind λSb=>if (!Sb)=true then some false else (Z1 d.addr 0 511).bind λSc=>if (!Sc)=true then some false else (Ke d.size).bind λSd=>(Z1 d.value 0 (Xd Sd 1)).bind λSe=>if (!Se)=true then some false else (Z1 d.Ar 0 1).bind λSf=>if (!Sf)=true then some false else x)=x)
  \/ (¬OD b.Ae d/\∀x:Option Bool,((Z1 d.Aj 0 (Xd (b.m.length:Int) 1)).bind λSa=>if (!Sa)=true then some false else (KY d.addr d.size).bind λSb=>if (!Sb)=true then some false else (Z1 d.addr 0 511).bind λSc=>if (!Sc)=true then some false else (Ke d.size).bind λSd=>(Z1 d.value 0 (Xd Sd 1)).bind λSe=>if (!Se)=true then some false else (Z1 d.Ar 0 1).bind λSf=>if (!Sf)=true then some false else x)=some false):=by
 simp only[cZ h1 Z6,rE,ML,RS,Xr d.addr,Xr d.Ar,Ag];by_cases e3:Zn b.Ae d.Aj=true
 .by_cases e4:X4 d.addr d.size=true
  .have e0:=(Jm e4).2.1
   by_cases e5:d.addr < 512
   .have HL:0<=d.addr/\d.addr<=511:=by omega
    by_cases e6:Xw d.value d.size=true
    .by_cases e7:d.Ar=0\/d.Ar=1
     .have e7':0<=d.Ar/\d.Ar<=1:=by omega
      exact .inl ⟨⟨e3,e4,e5,e6,e7⟩,λx=>by simp[e3,e4,HL,e6,e7']⟩
     .have e7':¬(0<=d.Ar/\d.Ar<=1):=by omega
      exact .inr ⟨λh=>e7 h.2.2.2.2,λx=>by simp only[e3,e4,HL,e6,decide_eq_false e7',Du,FF,Bn,if_false,if_true,and_self,decide_true]⟩
    .exact .inr ⟨λh=>e6 h.2.2.2.1,λx=>by simp[e3,e4,HL,e6]⟩
   .have HL:¬(0<=d.addr/\d.addr<=511):=by omega
    exact .inr ⟨λh=>e5 h.2.2.1,λx=>by simp only[e3,e4,decide_eq_false HL,Du,FF,Bn,if_false,if_true]⟩
  .exact .inr ⟨λh=>e4 h.2.1,λx=>by simp[e3,e4]⟩
 .exact .inr ⟨λh=>e3 h.1,λx=>by simp[e3]⟩
theorem Yn2 (b:Za) (hc:Yr b.Ae=true) (h1:b.m.length=b.Ae.Ab.length) (hl:b.log.length < 1048577) (hn:0<=b.now/\b.now<=4000):Y9 (YK b) (MN b):=by
 have Z6:=Gl hc;unfold YK;have:=cR (n:=b.log.length) (by omega) (P:=λk=>RX b.Ae b.now (Ak b.log (k:Int))/\(0 < k->GN b.log k < (Ak b.log (k:Int)).A4)) (Q:=True)
  (B:=jS b) (L:=jT b) (λm i=>rfl) (λk hk=>?_) λ_=>⟨true,λκ=>?_,by simp⟩
 .refine this.iff ?_
  rw[and_true,Y0i];constructor
  .intro h k hk
   refine⟨(h k hk).1,?_⟩;cases k with
   | zero=>have:=(h 0 hk).1.1.1;simp only[GN];omega
   | succ k=>exact (h (k+1) hk).2 (by omega)
  .intro h k hk
   exact⟨(h k hk).1,λ_=>(h k hk).2⟩
 .unfold jS
  simp only[Ah (show decide ((k:Int) < (b.log.length:Int))=true by simpa using hk),Xm (xs:=b.log) (i:=(k:Int)) (by omega) (by omega),Ag,Xr (Ak b.log (k:Int)).A4,Xb (a:=b.now) (b:=1) (by omega) (by omega)];by_cases e1:0<=(Ak b.log (k:Int)).A4/\(Ak b.log (k:Int)).A4 < b.now
  .have E0:0<=(Ak b.log (k:Int)).A4/\(Ak b.log (k:Int)).A4<=b.now - 1:=by omega
   simp only[E0,and_self,decide_true,Du,Bn,if_false];cases k with
   | zero=>
    simp only[show ¬(((0:Nat):Int) > 0) by omega,decide_false,Bn,if_false];rcases Ygf h1 Z6 (Ak b.log ((0:Nat):Int)) with⟨h2,h3⟩|⟨h2,h3⟩
    .exact .inl ⟨⟨⟨e1,h2⟩,λh=>by omega⟩,λκ=>h3 _⟩
    .exact .inr ⟨λh=>h2 h.1.2,λκ=>h3 _⟩
   | succ k=>
    have ek:((k+1:Nat):Int) - 1=(k:Int):=by omega
    simp only[show ((k+1:Nat):Int) > 0 by omega,decide_true,if_true,Xb (a:=((k+1:Nat):Int)) (b:=1) (by omega) (by omega),ek,Xm (xs:=b.log) (i:=(k:Int)) (by omega) (by omega),Ag];by_cases e2:(Ak b.log (k:Int)).A4 < (Ak b.log ((k+1:Nat):Int)).A4
    .have Hp:¬(Ak b.log ((k+1:Nat):Int)).A4<=(Ak b.log (k:Int)).A4:=by omega
     simp only[Hp,decide_false,Bn,if_false];rcases Ygf h1 Z6 (Ak b.log ((k+1:Nat):Int)) with⟨h2,h3⟩|⟨h2,h3⟩
     .exact .inl ⟨⟨⟨e1,h2⟩,λh=>e2⟩,λκ=>h3 _⟩
     .exact .inr ⟨λh=>h2 h.1.2,λκ=>h3 _⟩
    .have Hp:(Ak b.log ((k+1:Nat):Int)).A4<=(Ak b.log (k:Int)).A4:=by omega
     exact .inr ⟨λh=>e2 (h.2 (by omega)),λκ=>by simp only[Hp,decide_true,if_true]⟩
  .have E0:¬(0<=(Ak b.log (k:Int)).A4/\(Ak b.log (k:Int)).A4<=b.now - 1):=by omega
   exact .inr ⟨λh=>e1 h.1.1,λκ=>by simp only[decide_eq_false E0,FF,if_true]⟩
 .unfold jS
  rw[Ai (by simp)]
theorem Yr5 (b:Za) (hs:b.sm):Y9 (KZ b) (CV b):=by
 have Hq:Qh b true=some false:=by unfold Qh;rw[Ah rfl]
 unfold KZ;rw[RN _ hs.Ae,Ag];by_cases hc:Yr b.Ae=true
 .have Yn:=Km hc
  rw[hc,Ai (by simp),Xr,Ag];by_cases hn:0<=b.now/\b.now<=4000
  .rw[Ai (by simpa using hn)]
   by_cases h1:b.m.length=b.Ae.Ab.length
   .rw[Ai (by simp;omega)]
    by_cases h2:b.buckets.length=b.Ae.Ab.length
    .rw[Ai (by simp;omega)]
     by_cases h3:b.splits.length=b.Ae.Ab.length
     .rw[Ai (by simp;omega),Z9z _ _ hs.Ae,Ag]
      by_cases h4:CG b.Bm b.Ae=true
      .rw[h4,Ai (by simp),Xr,Ag,Xb (by omega) (by omega)]
       by_cases h5:b.last=-1\/Zn b.Ae b.last=true
       .have h5':-1<=b.last/\b.last<=(b.Ae.Ab.length:Int) - 1:=by
         rcases h5 with h5|h5
         .omega
         .simp only[Zn,Bj] at h5;omega
        rw[Ai (by simpa using h5'),Ybm _ hs.model,Ag];by_cases h6:RW b.model=true
        .rw[h6,Ai (by simp)]
         by_cases h7:0<=b.Au
         .rw[Ai (by simpa using h7)]
          by_cases h8:b.Au<=b.now
          .rw[decide_eq_false (by omega)]
           unfold Qh;rw[Ai (by simp)];have c7:=cR (n:=b.Ae.Ab.length) (by omega) (P:=λk=>HJ b.Ae b (k:Int)/\(Ak b.m (k:Int)).Ao - (Ak b.m (k:Int)).done=Jt b (k:Int))
            (Q:=((b.Aa.live=true->Dv b b.Aa)/\Kt b)/\((b.addr.live=true->Dv b b.addr)/\Jq b)/\Gn b/\MN b) (B:=jU b) (L:=jV b) (λm i=>rfl) (λk hk=>?_) λhP=>?_
           .refine c7.iff ⟨λh=>?_,λh=>?_⟩
            .obtain⟨h9,IX,RZ,cX,cY⟩:=h
             have hm:=(Ur (c:=b.Ae) (P:=λi=>HJ b.Ae b i/\(Ak b.m i).Ao - (Ak b.m i).done=Jt b i)).2 h9;exact⟨hc,hn,h1,h2,h3,λi hi=>(hm i hi).1,h4,h5,cP.1 h6,⟨h7,h8⟩,RZ.1,IX.1,λi hi=>(hm i hi).2,RZ.2,IX.2,cX,cY⟩
            .exact⟨λk hk=>⟨h.Bx _ (FP hk),h.Dq _ (FP hk)⟩,⟨h.B9,h.data⟩,⟨h.alive,h.addr⟩,h.held,h.log⟩
           .have hm:=FP (c:=b.Ae) (k:=k) hk
            have hms:=hs.Bx _ (OB h1 hm);have hme:=MJ (IT hc hm);unfold jU;simp only[Ah (show decide ((k:Int) < (b.Ae.Ab.length:Int))=true by simpa using hk),Wq h1 hm,Us h2 hm,HK h3 hm,OA hm,Ag,rC _ ⟨hme.1,hme.2.1⟩,Xr,Y54];unfold yU;simp only[RN _ hs.Ae,hc,if_true,Ag,Uo _ hms];by_cases e1:O6 (Ak b.m (k:Int))=true
            .by_cases e2:(Ak b.m (k:Int)).tries<=b.Ae.An
             .by_cases e3:Y0 (Ak b.buckets (k:Int)) (Ak b.Ae.Ab (k:Int))=true
              .by_cases e4:0<=Ak b.splits (k:Int)/\Ak b.splits (k:Int)<=b.Ae.Ap
               .have SR:=J9 (Gm.1 e1)
                rw[Xb (by omega) (by omega)];by_cases e5:(Ak b.m (k:Int)).Ao - (Ak b.m (k:Int)).done=Jt b (k:Int)
                .refine .inl ⟨⟨⟨Gm.1 e1,e2,e3,e4⟩,e5⟩,λκ=>?_⟩
                 simp[e1,e2,e3,e4,e5]
                .refine .inr ⟨λh=>e5 h.2,λκ=>?_⟩
                 simp[e1,e2,e3,e4,e5]
               .refine .inr ⟨λh=>e4 h.1.split,λκ=>?_⟩
                simp[e1,e2,e3,e4]
              .refine .inr ⟨λh=>e3 h.1.bucket,λκ=>?_⟩
               simp[e1,e2,e3]
             .refine .inr ⟨λh=>e2 h.1.tries,λκ=>?_⟩
              simp[e1,e2]
            .refine .inr ⟨λh=>e1 (Gm.2 h.1.right),λκ=>?_⟩
             simp[e1]
           .have hm:=(Ur (c:=b.Ae) (P:=λi=>HJ b.Ae b i/\(Ak b.m i).Ao - (Ak b.m i).done=Jt b i)).2 hP
            have cG:∀i,Zn b.Ae i=true->HJ b.Ae b i:=λi hi=>(hm i hi).1;have hT:Y9 ((M0 b b.Aa true).bind λr903=>if r903=true then (M0 b b.addr false).bind λr908=>if r908=true then (YJ b).bind λr912=>if r912=true then (YK b).bind λr916=>some r916 else some false else some false else some false)
              (((b.Aa.live=true->Dv b b.Aa)/\Kt b)/\((b.addr.live=true->Dv b b.addr)/\Jq b)/\Gn b/\MN b):=by
             refine Y9.and (Ynz b hs hc h1 h3 cG) λ_=>?_;refine Y9.and (Yo4 b hs hc h1 h3 cG) λ_=>?_;refine Y9.and (Yku b hc h1 h3 cG) λ_=>?_;obtain⟨r,h9,IX⟩:=Yn2 b hc h1 hs.log hn;rw[h9];exact .of IX
            obtain⟨r,h9,IX⟩:=hT;refine⟨r,λκ=>?_,IX⟩;unfold jU;rw[Ai (by simp)];exact h9
          .rw[decide_eq_true (by omega),Hq]
           exact .no λh=>h8 h.Au.2
         .rw[Ah (by simpa using h7),Hq]
          exact .no λh=>h7 h.Au.1
        .rw[Ah (by simpa using h6),Hq]
         exact .no λh=>h6 (cP.2 h.model)
       .have h5':¬(-1<=b.last/\b.last<=(b.Ae.Ab.length:Int) - 1):=by
         intro h6;apply h5;simp only[Zn,Bj];omega
        rw[Ah (by rw[decide_eq_false h5'];rfl),Hq];exact .no λh=>h5 h.last
      .rw[Ah (by simpa using h4),Hq]
       exact .no λh=>h4 h.Bm
     .rw[Ah (by simp;omega),Hq]
      exact .no λh=>h3 h.sl
    .rw[Ah (by simp;omega),Hq]
     exact .no λh=>h2 h.bl
   .rw[Ah (by simp;omega),Hq]
    exact .no λh=>h1 h.ml
  .rw[Ah (by rw[decide_eq_false hn];rfl),Hq]
   exact .no λh=>hn h.now
 .rw[Ah (by simpa using hc),Hq]
  exact .no λh=>hc h.Ae
theorem Yiy (b:Za) (hs:b.sm):∃r,TR b=some r/\KZ b=some r/\(r=true↔CV b):=(Yq0 b hs).eq (Yr5 b hs)
def Gp (l:List Int) (k:Int):Int:=if l=[]\/k < 0 then 0 else Ak l (k % (l.length:Int))
def HM (c:Zh) (s:Zb) (k:Int):Int:=max 0 (min (Gp s.waits k) c.As)
def FQ (s:Zb) (k:Int):Int:=if Gp s.A3 k=2\/Gp s.A3 k=3 then Gp s.A3 k else 0
def Hr (c:Zh) (s:Zb) (k:Int):Int:=max 1 (min (max 0 (min (Gp s.waits k) 99)+1) c.Ap)
def F6 (b:Za):Zq:=
 Zq.mk b.now (if b.addr.live then Xn (Ak b.m b.addr.Aj) b.addr.Ao else -1) (if b.addr.live then (if b.addr.first then 2 else 3) else 0) (if b.addr.live then b.addr.Aj else -1)
  (if b.Aa.live then Xn (Ak b.m b.Aa.Aj) b.Aa.Ao else -1) (if b.Aa.live then b.Aa.Aj else -1) true 0 (-1)
def E9 (s:Zb) (t:Int):List Zl:=s.Al.filter λp=>decide (p.at_=t)
def Js (b:Za) (p:Zl):Za:=if Zn b.Ae p.Aj=true then {b with m:=b.m.set p.Aj.toNat (Dp (Ak b.m p.Aj) p.Bo)} else b
def X6 (b:Za) (ps:List Zl):Za:=ps.foldl Js b
def Xk (b:Za):Za:={b with splits:=b.splits.map λn=>max (n - 1) 0,buckets:=List.zipWith IU b.buckets b.Ae.Ab}
def EA (b:Za):Za:=if b.Af=-1 then b else {b with held:=min (b.held+1) b.Ae.Am}
def Y30 (b:Za):Za:={b with Af:=-1,held:=0}
def Ws (b:Za) (x:Zi):Za:=
 if x.B2=1 then {b with m:=b.m.set x.Aj.toNat (DH (Ak b.m x.Aj)),buckets:=b.buckets.set x.Aj.toNat (RO (Ak b.buckets x.Aj) (Ak b.Ae.Ab x.Aj))}
 else if x.B2=2 then {b with m:=b.m.set x.Aj.toNat (DH (Ak b.m x.Aj)),Bm:=RQ b.Bm b.Ae x.Aj}
 else {b with m:=b.m.set x.Aj.toNat (DH (Ak b.m x.Aj))}
def OE (m:Zg) (k:Int):Int:=if (Ak m.queue 0).write then Ak (Ak m.queue 0).Aa k else 0
def HN (b:Za) (x:Zi):Zf×Int×Int:=Qv b.model (Ak (Ak b.m x.Aj).queue 0).write (Xn (Ak b.m x.Aj) x.Ao) (Ak (Ak b.m x.Aj).queue 0).size (OE (Ak b.m x.Aj) x.Ao)
def c8 (b:Za) (x:Zi):Zt:=Zt.mk b.now x.Aj (Ak (Ak b.m x.Aj).queue 0).write (Xn (Ak b.m x.Aj) x.Ao) (Ak (Ak b.m x.Aj).queue 0).size (if x.Ar=0 then (HN b x).2.1 else 0) x.Ar
def MP (b:Za) (x:Zi):Za:=
 {b with model:=if x.Ar=0 then (HN b x).1 else b.model,log:=b.log++[c8 b x],m:=b.m.set x.Aj.toNat (C4 (Ak b.m x.Aj)),Af:=if b.Af=x.Aj/\(Ak b.m x.Aj).done+1=Zw (Ak b.m x.Aj) then -1 else b.Af,held:=if b.Af=x.Aj/\(Ak b.m x.Aj).done+1=Zw (Ak b.m x.Aj) then 0 else b.held}
def Z0 (b:Za) (s:Zb):Za×Bool×Int:=
 if b.Aa.live=false then (b,true,0)
 else if b.Aa.left > 0 then ({b with Aa:={b.Aa with left:=b.Aa.left - 1}},false,0)
 else if b.Aa.Ar≠0/\b.Aa.second=false then
  (if b.addr.live then {Ws {b with Aa:={b.Aa with second:=true}} b.addr with addr:=Zi.z0} else {b with Aa:={b.Aa with second:=true}},false,b.Aa.Ar)
 else if b.Aa.Ar=2 then (Ws {b with Aa:=Zi.z0,m:=b.m.set b.Aa.Aj.toNat {Ak b.m b.Aa.Aj with tries:=(Ak b.m b.Aa.Aj).tries+1}} b.Aa,true,b.Aa.Ar)
 else if b.Aa.Ar=3 then (Ws {b with Aa:=Zi.z0,m:=b.m.set b.Aa.Aj.toNat {Ak b.m b.Aa.Aj with Ax:=true},splits:=b.splits.set b.Aa.Aj.toNat (Hr b.Ae s b.Au)} b.Aa,true,b.Aa.Ar)
 else (MP {b with Aa:=Zi.z0} b.Aa,true,b.Aa.Ar)
def Yu (b:Za):Za:=if b.Af≠-1/\b.held=b.Ae.Am then Y30 {b with m:=b.m.set b.Af.toNat {Ak b.m b.Af with broken:=true}} else b
def GO (b:Za) (s:Zb) (x:Zi):Int×Int:=
 if (Ak b.m x.Aj).broken=true\/Y6 (Xn (Ak b.m x.Aj) x.Ao)=0 then (1,0) else
 (if FQ s b.Au=2/\Y6 (Xn (Ak b.m x.Aj) x.Ao)≠3/\(Ak b.m x.Aj).tries < b.Ae.An then 2
  else if FQ s b.Au=3/\Y6 (Xn (Ak b.m x.Aj) x.Ao)=2/\(Ak b.m x.Aj).Ax=false/\x.Aj≠b.Af then 3 else (HN b x).2.2,if Y6 (Xn (Ak b.m x.Aj) x.Ao)=3 then HM b.Ae s b.Au+2 else HM b.Ae s b.Au)
def Qc (b:Za) (s:Zb):Za:=if b.addr.live then {b with Aa:={b.addr with left:=(GO b s b.addr).2,Ar:=(GO b s b.addr).1},addr:=Zi.z0,Au:=b.Au+1} else b
def Je (b:Za) (i:Int):Bool:=Lp (Ak b.m i)&&(decide (Ak b.splits i=0)&&(decide (b.Af=-1)||decide (b.Af=i)))
def Kh (b:Za):List Bool:=(List.range b.m.length).map λk:Nat=>Je b (k:Int)
def El (b:Za) (k:Nat):Bool:=Je b (k:Int)&&(F4 (Ak b.buckets (k:Int)) (Ak b.Ae.Ab (k:Int))).2
def Kg (b:Za):Int×Int×Za:=
 if b.Af≠-1/\Je b b.Af=true then (b.Af,3,b)
 else match (List.range b.m.length).find? (El b) with
  | some k=>((k:Int),1,{b with buckets:=b.buckets.set k (F4 (Ak b.buckets (k:Int)) (Ak b.Ae.Ab (k:Int))).1})
  | none=>if b.Af≠-1 then (-1,0,b) else ((F5 b.Bm b.Ae (Kh b)).2,2,{b with Bm:=(F5 b.Bm b.Ae (Kh b)).1})
def Sg (b:Za) (Aj B2:Int):Za:=
 {b with addr:=Zi.mk true Aj (Ak b.m Aj).Ao (decide ((Ak b.m Aj).Ao=0)||decide (b.last≠Aj)) B2 0 0 false,Af:=if Yq (Ak b.m Aj)=true/\b.Af=-1 then Aj else b.Af,held:=if Yq (Ak b.m Aj)=true/\b.Af=-1 then 0 else b.held,m:=b.m.set Aj.toNat (Wi (Ak b.m Aj)),last:=Aj}
def Jn (b:Za):Int×Za:=if (Kg b).1 < 0 then (-1,(Kg b).2.2) else ((Kg b).1,Sg (Kg b).2.2 (Kg b).1 (Kg b).2.1)
def Xt (b:Za) (s:Zb):Int×Za:=Jn (Qc (Yu b) s)
def Wb (b:Za) (s:Zb):Za:=EA (Xk (X6 b (E9 s b.now)))
def Dr (b:Za) (s:Zb):Za×Zq:=
 if (Z0 (Wb b s) s).2.1=true then
  ({(Xt (Z0 (Wb b s) s).1 s).2 with now:=b.now+1},{F6 b with Ar:=(Z0 (Wb b s) s).2.2,C0:=(Xt (Z0 (Wb b s) s).1 s).1})
 else ({(Z0 (Wb b s) s).1 with now:=b.now+1},{F6 b with ready:=false,Ar:=(Z0 (Wb b s) s).2.2})
structure Yz (n:Int) (b:Za):Prop where
 Ae:Yr b.Ae=true
 ml:b.m.length=b.Ae.Ab.length
 bl:b.buckets.length=b.Ae.Ab.length
 sl:b.splits.length=b.Ae.Ab.length
 Bx:∀i,Zn b.Ae i=true->HJ b.Ae b i
 Bm:CG b.Bm b.Ae=true
 last:b.last=-1\/Zn b.Ae b.last=true
 model:Ec b.model
 alive:b.addr.live=true->Dv b b.addr
 B9:b.Aa.live=true->Dv b b.Aa
 Dq:∀i,Zn b.Ae i=true->(Ak b.m i).Ao - (Ak b.m i).done=Jt b i
 addr:Jq b
 data:Kt b
 held:Gn b
 log:(∀d∈b.log,RX b.Ae n d)/\b.log.Pairwise λx y=>x.A4 < y.A4
theorem CV.i {b:Za} (h:CV b):Yz b.now b:=⟨h.Ae,h.ml,h.bl,h.sl,h.Bx,h.Bm,h.last,h.model,h.alive,h.B9,h.Dq,h.addr,h.data,h.held,h.log⟩
theorem dA {α:Type} [Inhabited α] {xs:List α} {w i:Int} (a:α) (h0:0<=w) (h1:w < (xs.length:Int)) (hi:0<=i):Ak (xs.set w.toNat a) i=if i=w then a else Ak xs i:=by
 split
 .rename_i h;subst h;exact cA a h0 h1
 .rename_i h;exact Yp4 a h0 hi (λh2=>h h2.symm)
theorem X0 {c:Zh} {i:Int} (h:Zn c i=true):0<=i/\i < (c.Ab.length:Int):=by simpa [Zn] using h
theorem Yz.Gq {n:Int} {b:Za} (h:Yz n b) {w:Int} (hw:Zn b.Ae w=true) (x:Zg) {i:Int} (hi:Zn b.Ae i=true):Ak (b.m.set w.toNat x) i=if i=w then x else Ak b.m i:=by
 have h1:=X0 hw;have h2:=X0 hi;exact dA x h1.1 (by have:=h.ml;omega) h2.1
theorem GP {n:Int} {b:Za} (h:Yz n b) (hl:b.addr.live=true):Zn b.Ae b.addr.Aj=true:=(h.alive hl).1
theorem Kk {n:Int} {b:Za} (h:Yz n b) (hl:b.Aa.live=true):Zn b.Ae b.Aa.Aj=true:=(h.B9 hl).1
theorem Y6s {m:Zg} {r:Zk} (hq:m.queue≠[]):(Dp m r).queue≠[]/\Ak (Dp m r).queue 0=Ak m.queue 0:=by
 unfold Dp;split
 .exact⟨by simp,Yg7 hq⟩
 .exact⟨hq,rfl⟩
theorem Yp7 (m:Zg) (r:Zk):(Dp m r).Ao=m.Ao/\(Dp m r).done=m.done/\(Dp m r).tries=m.tries/\(Dp m r).Ax=m.Ax/\(Dp m r).broken=m.broken:=by
 unfold Dp;split<;>exact⟨rfl,rfl,rfl,rfl,rfl⟩
theorem Y3a {m:Zg} {r:Zk} (hq:m.queue≠[]):Yq (Dp m r)=Yq m:=by
 have h:=Y6s (r:=r) hq;have h2:=Yp7 m r;unfold Yq;rw[h.2,h2.2.2.2.2];simp[h.1,hq]
theorem Yub {m:Zg} (h:Yq m=true):m.queue≠[]:=by
 intro hq;simp[Yq,hq] at h
theorem Y4e {n:Int} {b:Za} {p:Zl} (h:Yz n b):Yz n (Js b p):=by
 unfold Js;split
 .rename_i hw
  have ha:=λ{i} hi=>h.Gq hw (Dp (Ak b.m p.Aj) p.Bo) (i:=i) hi;have hs:=Yp7 (Ak b.m p.Aj) p.Bo;have Ut:∀i,Zn b.Ae i=true->(Ak (b.m.set p.Aj.toNat (Dp (Ak b.m p.Aj) p.Bo)) i).Ao=(Ak b.m i).Ao/\(Ak (b.m.set p.Aj.toNat (Dp (Ak b.m p.Aj) p.Bo)) i).done=(Ak b.m i).done/\(Ak (b.m.set p.Aj.toNat (Dp (Ak b.m p.Aj) p.Bo)) i).tries=(Ak b.m i).tries/\(Ak (b.m.set p.Aj.toNat (Dp (Ak b.m p.Aj) p.Bo)) i).Ax=(Ak b.m i).Ax:=by
   intro i hi;rw[ha hi];split
   .rename_i e;subst e;exact⟨hs.1,hs.2.1,hs.2.2.1,hs.2.2.2.1⟩
   .exact⟨rfl,rfl,rfl,rfl⟩
  have MQ:∀i,Zn b.Ae i=true->(Ak b.m i).queue≠[]->Yq (Ak (b.m.set p.Aj.toNat (Dp (Ak b.m p.Aj) p.Bo)) i)=Yq (Ak b.m i):=by
   intro i hi hq;rw[ha hi];split
   .rename_i e;subst e;exact Y3a hq
   .rfl
  refine⟨h.Ae,by simp[h.ml],h.bl,h.sl,λi hi=>?_,h.Bm,h.last,h.model,h.alive,h.B9,λi hi=>?_,?_,?_,?_,h.log⟩
  .have hm:=h.Bx i hi
   refine⟨?_,by have:=(Ut i hi).2.2.1;simp only at this ⊢;rw[this];exact hm.tries,hm.bucket,hm.split⟩;show Yy (Ak (b.m.set p.Aj.toNat (Dp (Ak b.m p.Aj) p.Bo)) i);rw[ha hi];split
   .exact Y2l (h.Bx _ hw).right
   .exact hm.right
  .show (Ak (b.m.set p.Aj.toNat (Dp (Ak b.m p.Aj) p.Bo)) i).Ao - (Ak (b.m.set p.Aj.toNat (Dp (Ak b.m p.Aj) p.Bo)) i).done=Jt b i
   rw[(Ut i hi).1,(Ut i hi).2.1];exact h.Dq i hi
  .have:=h.addr
   unfold Jq at this ⊢;simp only;by_cases hl:b.addr.live=true
   .rw[Ah hl] at this ⊢
    rw[(Ut _ (GP h hl)).1];exact this
   .rw[Ai hl] at this ⊢;exact this
  .have:=h.data
   unfold Kt at this ⊢;simp only;by_cases hl:b.Aa.live=true
   .rw[Ah hl] at this ⊢
    have e:=Ut _ (Kk h hl);rw[e.2.1,e.2.2.1,e.2.2.2];exact this
   .rw[Ai hl] at this ⊢;exact this
  .obtain⟨h1,h2⟩:=h.held
   refine⟨λi hi hb hk=>?_,?_⟩
   .simp only at hb hk
    have Ug:Zn b.Ae i=true:=hi;rw[(Ut i Ug).1] at hb;have hq:(Ak b.m i).queue≠[]:=by
     intro hq;have:=(h.Bx i Ug).right.none hq;omega
    rw[MQ i Ug hq] at hk;exact h1 i Ug hb hk
   .simp only
    split
    .rename_i e;rw[Ah e] at h2;exact h2
    .rename_i e
     rw[Ai e] at h2;exact⟨h2.1,by rw[MQ _ h2.1 (Yub h2.2.1)];exact h2.2.1,h2.2.2⟩
 .exact h
theorem dB {n:Int} {b:Za} (h:Yz n b) (ps:List Zl):Yz n (X6 b ps):=by
 induction ps generalizing b with
 | nil=>exact h
 | cons p ps ih=>exact ih (Y4e h)
theorem Yvr (b:Za) (p:Zl):(Js b p).Ae=b.Ae/\(Js b p).now=b.now/\(Js b p).Au=b.Au/\(Js b p).log=b.log/\(Js b p).model=b.model/\(Js b p).Af=b.Af/\(Js b p).held=b.held/\(Js b p).addr=b.addr/\(Js b p).Aa=b.Aa/\(Js b p).splits=b.splits/\(Js b p).buckets=b.buckets/\(Js b p).Bm=b.Bm/\(Js b p).last=b.last:=by
 unfold Js;split<;>exact⟨rfl,rfl,rfl,rfl,rfl,rfl,rfl,rfl,rfl,rfl,rfl,rfl,rfl⟩
theorem dC (b:Za) (ps:List Zl):(X6 b ps).Ae=b.Ae/\(X6 b ps).now=b.now/\(X6 b ps).Au=b.Au/\(X6 b ps).log=b.log/\(X6 b ps).model=b.model/\(X6 b ps).Af=b.Af/\(X6 b ps).held=b.held/\(X6 b ps).addr=b.addr/\(X6 b ps).Aa=b.Aa/\(X6 b ps).splits=b.splits/\(X6 b ps).buckets=b.buckets/\(X6 b ps).Bm=b.Bm/\(X6 b ps).last=b.last:=by
 induction ps generalizing b with
 | nil=>exact⟨rfl,rfl,rfl,rfl,rfl,rfl,rfl,rfl,rfl,rfl,rfl,rfl,rfl⟩
 | cons p ps ih=>
  have h1:=ih (Js b p);have h2:=Yvr b p;simp only[h2] at h1;exact h1
theorem Sh {α β:Type} [Inhabited α] [Inhabited β] (f:α->β) {xs:List α} {i:Int} (h0:0<=i) (h1:i < (xs.length:Int)):Ak (xs.map f) i=f (Ak xs i):=by
 obtain⟨k,rfl⟩:∃k:Nat,i=k:=⟨i.toNat,by omega⟩;have hk:k < xs.length:=by omega
 rw[W7 hk,W7 (by simpa using hk)];simp
theorem Si {α β γ:Type} [Inhabited α] [Inhabited β] [Inhabited γ] (f:α->β->γ) {xs:List α} {ys:List β} {i:Int} (h0:0<=i) (h1:i < (xs.length:Int)) (h2:i < (ys.length:Int)):Ak (List.zipWith f xs ys) i=f (Ak xs i) (Ak ys i):=by
 obtain⟨k,rfl⟩:∃k:Nat,i=k:=⟨i.toNat,by omega⟩;have hk:k < xs.length:=by omega
 have GM:k < ys.length:=by omega
 rw[W7 hk,W7 GM,W7 (by simp;omega)];simp
theorem Z8m {n:Int} {b:Za} (h:Yz n b):Yz n (Xk b):=by
 have JA:∀i,Zn b.Ae i=true->Ak (b.splits.map λn=>max (n - 1) 0) i=max (Ak b.splits i - 1) 0:=λi hi=>by
  have:=X0 hi;exact Sh _ this.1 (by have:=h.sl;omega)
 have hbu:∀i,Zn b.Ae i=true->Ak (List.zipWith IU b.buckets b.Ae.Ab) i=IU (Ak b.buckets i) (Ak b.Ae.Ab i):=λi hi=>by
  have:=X0 hi;exact Si _ this.1 (by have:=h.bl;omega) this.2
 have h0:∀i,Zn b.Ae i=true->Ak b.splits i=0->Ak (b.splits.map λn=>max (n - 1) 0) i=0:=λi hi e=>by rw[JA i hi,e];rfl
 refine⟨h.Ae,h.ml,by simp[Xk,h.bl],by simp[Xk,h.sl],λi hi=>?_,h.Bm,h.last,h.model,λhl=>?_,λhl=>?_,h.Dq,h.addr,h.data,?_,h.log⟩
 .have hm:=h.Bx i hi
  refine⟨hm.right,hm.tries,?_,?_⟩
  .show Y0 (Ak (List.zipWith IU b.buckets b.Ae.Ab) i) _=true
   rw[hbu i hi];exact Xbv hm.bucket (IT h.Ae hi)
  .show 0<=Ak (b.splits.map λn=>max (n - 1) 0) i/\_
   have:=hm.split;have hx:=(W1 h.Ae).2.2.2;show 0<=Ak (b.splits.map λn=>max (n - 1) 0) i/\Ak (b.splits.map λn=>max (n - 1) 0) i<=b.Ae.Ap;rw[JA i hi];omega
 .obtain⟨h1,h2,h3⟩:=h.alive hl
  exact⟨h1,h2,h0 _ h1 h3⟩
 .obtain⟨h1,h2,h3⟩:=h.B9 hl
  exact⟨h1,h2,h0 _ h1 h3⟩
 .obtain⟨h1,h2⟩:=h.held
  refine⟨h1,?_⟩;show if b.Af=-1 then b.held=0 else _
  split
  .rename_i e;rw[Ah e] at h2;exact h2
  .rename_i e
   rw[Ai e] at h2;exact⟨h2.1,h2.2.1,h0 _ h2.1 h2.2.2.1,h2.2.2.2⟩
theorem Y3p {n:Int} {b:Za} (h:Yz n b):Yz n (EA b):=by
 unfold EA;split
 .exact h
 .rename_i e
  refine⟨h.Ae,h.ml,h.bl,h.sl,λi hi=>?_,h.Bm,h.last,h.model,h.alive,h.B9,h.Dq,h.addr,h.data,?_,h.log⟩
  .have hm:=h.Bx i hi;exact⟨hm.right,hm.tries,hm.bucket,hm.split⟩
  .obtain⟨h1,h2⟩:=h.held
   refine⟨h1,?_⟩;rw[Ai e] at h2;show if b.Af=-1 then _ else _
   rw[Ai e];have hl:=(W1 h.Ae).2.2.1;refine⟨h2.1,h2.2.1,h2.2.2.1,?_⟩;have:=h2.2.2.2;show 0<=min (b.held+1) b.Ae.Am/\min (b.held+1) b.Ae.Am<=b.Ae.Am;omega
theorem Ypn {b b':Za} (h:Gn b) (hc:b'.Ae=b.Ae) (hh:b'.Af=b.Af) (hd:b'.held=b.held)
  (hm:∀i,Zn b.Ae i=true->Yq (Ak b'.m i)=Yq (Ak b.m i)/\((Ak b'.m i).Ao > 0->(Ak b.m i).Ao > 0)) (hs:b.Af≠-1->Ak b.splits b.Af=0->Ak b'.splits b.Af=0):Gn b':=by
 obtain⟨h1,h2⟩:=h;unfold Gn;rw[hc,hh,hd];refine⟨λi hi hb hk=>h1 i hi ((hm i hi).2 hb) (by rw[<-(hm i hi).1];exact hk),?_⟩;split
 .rename_i e;rw[Ah e] at h2;exact h2
 .rename_i e
  rw[Ai e] at h2;exact⟨h2.1,by rw[(hm _ h2.1).1];exact h2.2.1,hs e h2.2.2.1,h2.2.2.2⟩
theorem Yqj (m:Zg):(DH m).queue=m.queue/\(DH m).done=m.done/\(DH m).tries=m.tries/\(DH m).Ax=m.Ax/\(DH m).broken=m.broken:=by
 unfold DH;split<;>exact⟨rfl,rfl,rfl,rfl,rfl⟩
theorem dD {m m':Zg} (h1:m'.queue=m.queue) (h2:m'.broken=m.broken):Yq m'=Yq m:=by
 unfold Yq;rw[h1,h2]
structure Xbg (b r:Za) (x:Zi):Prop where
 Ae:r.Ae=b.Ae
 m:r.m=b.m.set x.Aj.toNat (DH (Ak b.m x.Aj))
 bl:r.buckets.length=b.Ae.Ab.length
 bk:∀i,Zn b.Ae i=true->Y0 (Ak r.buckets i) (Ak b.Ae.Ab i)=true
 Bm:CG r.Bm b.Ae=true
 splits:r.splits=b.splits
 Af:r.Af=b.Af
 held:r.held=b.held
 addr:r.addr=b.addr
 data:r.Aa=b.Aa
 model:r.model=b.model
 log:r.log=b.log
 last:r.last=b.last
 now:r.now=b.now
 Au:r.Au=b.Au
theorem Yda {b:Za} {x:Zi} (hc:Yr b.Ae=true) (hw:Zn b.Ae x.Aj=true) (LN:b.buckets.length=b.Ae.Ab.length) (DK:∀i,Zn b.Ae i=true->Y0 (Ak b.buckets i) (Ak b.Ae.Ab i)=true) (Sj:CG b.Bm b.Ae=true):Xbg b (Ws b x) x:=by
 have hb:=X0 hw;unfold Ws;split
 .refine⟨rfl,rfl,by simp[LN],λi hi=>?_,Sj,rfl,rfl,rfl,rfl,rfl,rfl,rfl,rfl,rfl,rfl⟩
  show Y0 (Ak (b.buckets.set x.Aj.toNat _) i) _=true;rw[dA _ hb.1 (by omega) (X0 hi).1];split
  .rename_i e;subst e;exact Y8q (DK _ hi) (IT hc hi)
  .exact DK i hi
 .split
  .exact⟨rfl,rfl,LN,DK,Y76 _ Sj,rfl,rfl,rfl,rfl,rfl,rfl,rfl,rfl,rfl,rfl⟩
  .exact⟨rfl,rfl,LN,DK,Sj,rfl,rfl,rfl,rfl,rfl,rfl,rfl,rfl,rfl,rfl⟩
theorem Yz.mono {n:Int} {b:Za} (h:Yz n b):Yz (n+1) b:=
 ⟨h.Ae,h.ml,h.bl,h.sl,h.Bx,h.Bm,h.last,h.model,h.alive,h.B9,h.Dq,h.addr,h.data,h.held,λd hd=>by have:=h.log.1 d hd;exact⟨⟨this.1.1,by have:=this.1.2;omega⟩,this.2⟩,h.log.2⟩
theorem Y04 {n:Int} {b:Za} (h:Yz n b) (hl:b.addr.live=true):(Ak b.m b.addr.Aj).Ao - (Ak b.m b.addr.Aj).done≥1:=by
 rw[h.Dq _ (GP h hl)];unfold Jt;rw[Ah ⟨hl,rfl⟩];split<;>omega
theorem Uu {n:Int} {b:Za} (h:Yz n b) (hl:b.Aa.live=true):(Ak b.m b.Aa.Aj).Ao - (Ak b.m b.Aa.Aj).done≥1:=by
 rw[h.Dq _ (Kk h hl)];unfold Jt;rw[Ah (⟨hl,rfl⟩:b.Aa.live=true/\b.Aa.Aj=b.Aa.Aj)];split<;>omega
theorem Y3t {n:Int} {b:Za} (h:Yz n b) (hd:b.Aa.live=true) (hl:b.Aa.left > 0):Yz n {b with Aa:={b.Aa with left:=b.Aa.left - 1}}:=by
 refine⟨h.Ae,h.ml,h.bl,h.sl,λi hi=>?_,h.Bm,h.last,h.model,h.alive,λ_=>h.B9 hd,λi hi=>?_,h.addr,?_,h.held,h.log⟩
 .have hm:=h.Bx i hi;exact⟨hm.right,hm.tries,hm.bucket,hm.split⟩
 .have:=h.Dq i hi
  unfold Jt at this ⊢;exact this
 .have:=h.data
  unfold Kt at this ⊢;rw[Ah hd] at this;simp only;rw[Ah hd];refine⟨⟨this.1.1,by have:=this.1.2.1;omega,this.1.2.2⟩,this.2.1,this.2.2.1,λhs=>?_⟩;have:=(this.2.2.2 hs).1;omega
theorem Y2n {n:Int} {b:Za} (h:Yz n b) (hd:b.Aa.live=true) (hl:b.Aa.left=0) (hr:b.Aa.Ar≠0):
  Yz n (if b.addr.live then {Ws {b with Aa:={b.Aa with second:=true}} b.addr with addr:=Zi.z0} else {b with Aa:={b.Aa with second:=true}}):=by
 have CQ:=h.data;unfold Kt at CQ;rw[Ah hd] at CQ;by_cases ha:b.addr.live=true
 .rw[Ah ha]
  have hw:=GP h ha;have hb:=X0 hw;have hf:=Yda (b:={b with Aa:={b.Aa with second:=true}}) (x:=b.addr) h.Ae hw h.bl (λi hi=>(h.Bx i hi).bucket) h.Bm;generalize Ws {b with Aa:={b.Aa with second:=true}} b.addr=r at hf;have CP:∀i,Zn b.Ae i=true->Ak r.m i=if i=b.addr.Aj then DH (Ak b.m b.addr.Aj) else Ak b.m i:=λi hi=>by
   rw[hf.m];exact h.Gq hw _ hi
  have hs:=Yqj (Ak b.m b.addr.Aj);have Dw:∀i,Zn b.Ae i=true->(Ak r.m i).queue=(Ak b.m i).queue/\(Ak r.m i).done=(Ak b.m i).done/\(Ak r.m i).tries=(Ak b.m i).tries/\(Ak r.m i).Ax=(Ak b.m i).Ax/\(Ak r.m i).broken=(Ak b.m i).broken:=λi hi=>by
   rw[CP i hi];split
   .rename_i e;subst e;exact hs
   .exact⟨rfl,rfl,rfl,rfl,rfl⟩
  have hp:=Y04 h ha;have Jl:(DH (Ak b.m b.addr.Aj)).Ao=(Ak b.m b.addr.Aj).Ao - 1:=by
   unfold DH;rw[Ai (by omega)]
  refine⟨by rw[show ({r with addr:=Zi.z0}:Za).Ae=r.Ae from rfl,hf.Ae];exact h.Ae,?_,?_,?_,λi hi=>?_,?_,?_,?_,λhx=>?_,λhx=>?_,λi hi=>?_,?_,?_,?_,?_⟩
  .show r.m.length=r.Ae.Ab.length
   rw[hf.m,hf.Ae];simp[h.ml]
  .show r.buckets.length=r.Ae.Ab.length
   rw[hf.bl,hf.Ae]
  .show r.splits.length=r.Ae.Ab.length
   rw[hf.splits,hf.Ae];exact h.sl
  .have Y2:Zn b.Ae i=true:=by rw[<-show r.Ae=b.Ae from hf.Ae];exact hi
   have hm:=h.Bx i Y2;refine⟨?_,?_,?_,?_⟩
   .show Yy (Ak r.m i)
    rw[CP i Y2];split
    .exact Yk1 (h.Bx _ hw).right
    .exact hm.right
   .show (Ak r.m i).tries<=r.Ae.An
    rw[(Dw i Y2).2.2.1,hf.Ae];exact hm.tries
   .show Y0 (Ak r.buckets i) (Ak r.Ae.Ab i)=true
    rw[hf.Ae];exact hf.bk i Y2
   .show 0<=Ak r.splits i/\Ak r.splits i<=r.Ae.Ap
    rw[hf.splits,hf.Ae];exact hm.split
  .show CG r.Bm r.Ae=true
   rw[hf.Ae];exact hf.Bm
  .show r.last=-1\/Zn r.Ae r.last=true
   rw[hf.last,hf.Ae];exact h.last
  .show Ec r.model
   rw[hf.model];exact h.model
  .cases hx
  .have Eu:r.Aa.live=true:=hx
   obtain⟨h1,h2,h3⟩:=h.B9 hd;refine⟨?_,?_,?_⟩
   .show Zn r.Ae r.Aa.Aj=true
    rw[hf.Ae,hf.data];exact h1
   .show 1<=r.Aa.B2/\r.Aa.B2<=3
    rw[hf.data];exact h2
   .show Ak r.splits r.Aa.Aj=0
    rw[hf.splits,hf.data];exact h3
  .have Y2:Zn b.Ae i=true:=by rw[<-show r.Ae=b.Ae from hf.Ae];exact hi
   show (Ak r.m i).Ao - (Ak r.m i).done=Jt {r with addr:=Zi.z0} i;have BM:=h.Dq i Y2;unfold Jt at BM ⊢;simp only[hf.data];rw[(Dw i Y2).2.1,CP i Y2];by_cases e:i=b.addr.Aj
   .subst e
    rw[Ah rfl,Jl];rw[Ah ⟨ha,rfl⟩] at BM;simp only[Bn,false_and,if_false];omega
   .rw[Ai e]
    rw[Ai (λhx=>e hx.2.symm)] at BM;simp only[Bn,false_and,if_false];exact BM
  .unfold Jq
   simp
  .unfold Kt
   show if r.Aa.live=true then _ else _
   simp only[hf.data,hf.Ae,hf.Af];rw[Ah hd];have e:=Dw _ (Kk h hd);rw[e.2.1,e.2.2.1,e.2.2.2.1];exact⟨CQ.1,CQ.2.1,CQ.2.2.1,λ_=>⟨hl,hr,trivial⟩⟩
  .refine Ypn (b:=b) h.held hf.Ae hf.Af hf.held (λi hi=>⟨dD (Dw i hi).1 (Dw i hi).2.2.2.2,λhx=>?_⟩) (λ_ hx=>by show Ak r.splits b.Af=0;rw[hf.splits];exact hx)
   show (Ak b.m i).Ao > 0;have Eu:(Ak r.m i).Ao > 0:=hx;rw[CP i hi] at Eu;split at Eu
   .rename_i e;subst e;rw[Jl] at Eu;omega
   .exact Eu
  .show (∀d∈r.log,RX r.Ae n d)/\r.log.Pairwise _
   rw[hf.log,hf.Ae];exact h.log
 .rw[Ai ha]
  refine⟨h.Ae,h.ml,h.bl,h.sl,λi hi=>?_,h.Bm,h.last,h.model,h.alive,λ_=>h.B9 hd,λi hi=>?_,h.addr,?_,h.held,h.log⟩
  .have hm:=h.Bx i hi;exact⟨hm.right,hm.tries,hm.bucket,hm.split⟩
  .have:=h.Dq i hi
   unfold Jt at this ⊢;exact this
  .unfold Kt
   simp only;rw[Ah hd];exact⟨CQ.1,CQ.2.1,CQ.2.2.1,λ_=>⟨hl,hr,by simpa using ha⟩⟩
theorem Ymt {n:Int} {b:Za} (h:Yz n b) (hd:b.Aa.live=true) (ha:b.addr.live=false) (x:Zg) (sp:List Int) (hq:x.queue=(Ak b.m b.Aa.Aj).queue) (hbe:x.Ao=(Ak b.m b.Aa.Aj).Ao) (Uv:x.done=(Ak b.m b.Aa.Aj).done) (hbr:x.broken=(Ak b.m b.Aa.Aj).broken)
  (ht:0<=x.tries/\x.tries<=b.Ae.An) (He:sp.length=b.splits.length) (JA:∀i,Zn b.Ae i=true->0<=Ak sp i/\Ak sp i<=b.Ae.Ap) (P6:b.Af≠-1->Ak b.splits b.Af=0->Ak sp b.Af=0):
  Yz n (Ws {b with Aa:=Zi.z0,m:=b.m.set b.Aa.Aj.toNat x,splits:=sp} b.Aa):=by
 have hw:=Kk h hd;have hb:=X0 hw;have hf:=Yda (b:={b with Aa:=Zi.z0,m:=b.m.set b.Aa.Aj.toNat x,splits:=sp}) (x:=b.Aa) h.Ae hw h.bl (λi hi=>(h.Bx i hi).bucket) h.Bm;generalize Ws {b with Aa:=Zi.z0,m:=b.m.set b.Aa.Aj.toNat x,splits:=sp} b.Aa=r at hf;have Ci:=(h.Bx _ hw).right;have hp:=Uu h hd;have Yh:(Ak b.m b.Aa.Aj).queue≠[]:=Lq Ci (by omega);have hxr:Yy x:=by
  have h2:=Ci.some Yh;refine⟨by rw[hq];exact Ci.len,ht.1,by rw[hq];exact Ci.reqs,λhx=>absurd (by rw[<-hq];exact hx) Yh,λ_=>?_⟩;have:Zw x=Zw (Ak b.m b.Aa.Aj):=by unfold Zw;rw[hq]
  rw[this,hbe,Uv];exact h2
 have wV:Ak (b.m.set b.Aa.Aj.toNat x) b.Aa.Aj=x:=cA x hb.1 (by have:=h.ml;omega);have CP:∀i,Zn b.Ae i=true->Ak r.m i=if i=b.Aa.Aj then DH x else Ak b.m i:=λi hi=>by
  have Y2:=X0 hi;rw[hf.m];show Ak ((b.m.set b.Aa.Aj.toNat x).set b.Aa.Aj.toNat (DH (Ak (b.m.set b.Aa.Aj.toNat x) b.Aa.Aj))) i=_;rw[wV,List.set_set];exact h.Gq hw _ hi
 have hs:=Yqj x;have Jl:(DH x).Ao=(Ak b.m b.Aa.Aj).Ao - 1:=by
  unfold DH;rw[Ai (by rw[hbe,Uv];omega)];simp only[hbe]
 have hbz:Zi.z0.live=false:=rfl;refine⟨by rw[hf.Ae];exact h.Ae,?_,?_,?_,λi hi=>?_,?_,?_,?_,λhx=>?_,λhx=>?_,λi hi=>?_,?_,?_,?_,?_⟩
 .rw[hf.m,hf.Ae];simp[h.ml]
 .rw[hf.bl,hf.Ae]
 .rw[hf.splits,hf.Ae];show sp.length=_;rw[He];exact h.sl
 .have Y2:Zn b.Ae i=true:=by rw[<-show r.Ae=b.Ae from hf.Ae];exact hi
  have hm:=h.Bx i Y2;refine⟨?_,?_,?_,?_⟩
  .rw[CP i Y2]
   split
   .exact Yk1 hxr
   .exact hm.right
  .rw[CP i Y2,hf.Ae]
   split
   .rw[hs.2.2.1];exact ht.2
   .exact hm.tries
  .rw[hf.Ae];exact hf.bk i Y2
  .rw[hf.splits,hf.Ae];exact JA i Y2
 .rw[hf.Ae];exact hf.Bm
 .rw[hf.last,hf.Ae];exact h.last
 .rw[hf.model];exact h.model
 .rw[hf.addr] at hx;rw[show ({b with Aa:=Zi.z0,m:=b.m.set b.Aa.Aj.toNat x,splits:=sp}:Za).addr=b.addr from rfl,ha] at hx;cases hx
 .rw[hf.data] at hx;cases hx
 .have Y2:Zn b.Ae i=true:=by rw[<-show r.Ae=b.Ae from hf.Ae];exact hi
  have BM:=h.Dq i Y2;unfold Jt at BM ⊢;rw[hf.data,hf.addr,CP i Y2];show _=(if b.addr.live=true/\b.addr.Aj=i then (1:Int) else 0)+(if Zi.z0.live=true/\Zi.z0.Aj=i then 1 else 0);rw[ha] at BM ⊢;simp only[Bn,false_and,if_false] at BM ⊢;by_cases e:i=b.Aa.Aj
  .subst e
   rw[Ah rfl,Jl,hs.2.1,Uv];rw[Ah (⟨hd,rfl⟩:b.Aa.live=true/\b.Aa.Aj=b.Aa.Aj)] at BM;omega
  .rw[Ai e]
   rw[Ai (λhx=>e hx.2.symm)] at BM;exact BM
 .have:=h.addr
  unfold Jq at this ⊢;rw[hf.addr];show if b.addr.live=true then _ else _
  rw[ha] at this ⊢;exact this
 .unfold Kt
  rw[hf.data];show if Zi.z0.live=true then _ else _
  rw[Ai (by simp)]
 .refine Ypn (b:=b) h.held hf.Ae hf.Af hf.held (λi hi=>?_) (λh1 h2=>by rw[hf.splits];exact P6 h1 h2)
  rw[CP i hi];split
  .rename_i e;subst e
   refine⟨dD (by rw[hs.1,hq]) (by rw[hs.2.2.2.2,hbr]),λhx=>?_⟩;rw[Jl] at hx;omega
  .exact⟨rfl,id⟩
 .rw[hf.log,hf.Ae];exact h.log
theorem Ycm {m:Zg} (h:Yy m) (hp:m.Ao - m.done≥1):(m.done+1=Zw m->m.Ao - m.done=1/\(C4 m).queue=m.queue.tail/\(C4 m).Ao=0/\(C4 m).done=0/\(C4 m).tries=0)/\
  (m.done+1≠Zw m->(C4 m).queue=m.queue/\(C4 m).Ao=m.Ao/\(C4 m).done=m.done+1/\(C4 m).tries=0/\(C4 m).broken=m.broken/\(C4 m).Ax=false):=by
 have h1:=h.some (Lq h (by omega));unfold C4;constructor
 .intro e
  rw[Ai (by omega),Ah e];exact⟨by omega,rfl,rfl,rfl,rfl⟩
 .intro e
  rw[Ai (by omega),Ai e];exact⟨rfl,rfl,rfl,rfl,rfl,rfl⟩
theorem Yj8 {m:Zg} {k:Int} (h:Yy m) (h0:0<=k) (h1:k < Zw m) (hw:(Ak m.queue 0).write=true):0<=k/\k < ((Ak m.queue 0).Aa.length:Int):=by
 have hq:m.queue≠[]:=by
  intro hq;unfold Zw at h1;rw[Ah hq] at h1;omega
 obtain⟨h2,h3,h4⟩:=rK h hq;have h5:=(IW h2).2.1;rw[Ah hw] at h5;omega
theorem Yep {n:Int} {b:Za} (h:Yz n b) (hd:b.Aa.live=true):0<=b.Aa.Ao/\b.Aa.Ao < Zw (Ak b.m b.Aa.Aj):=by
 have hw:=Kk h hd;have hp:=Uu h hd;have hr:=(h.Bx _ hw).right;have h1:=hr.some (Lq hr (by omega));have h2:=h.data;unfold Kt at h2;rw[Ah hd] at h2;rw[h2.1.1];omega
theorem Ycg {n:Int} {b:Za} (h:Yz n b) (hl:b.addr.live=true):0<=b.addr.Ao/\b.addr.Ao < Zw (Ak b.m b.addr.Aj):=by
 have hw:=GP h hl;have hp:=Y04 h hl;have hr:=(h.Bx _ hw).right;have h1:=hr.some (Lq hr (by omega));have h2:=h.addr;unfold Jq at h2;rw[Ah hl] at h2;rw[h2.1];omega
theorem Yxs {b:Za} (hn:0<=b.now) (h:Yz b.now b) (hd:b.Aa.live=true) (hr:b.Aa.Ar=0\/b.Aa.Ar=1) (Lt:b.Aa.Ar≠0->b.addr.live=false):Yz (b.now+1) (MP {b with Aa:=Zi.z0} b.Aa):=by
 have hw:=Kk h hd;have hb:=X0 hw;have Ci:=(h.Bx _ hw).right;have hp:=Uu h hd;have Yh:(Ak b.m b.Aa.Aj).queue≠[]:=Lq Ci (by omega);have Jl:=Yep h hd;have Uw:=Ytj Ci Jl.1 Jl.2;have CQ:=h.data;unfold Kt at CQ;rw[Ah hd] at CQ;have rP:=Z9g (w:=(Ak (Ak b.m b.Aa.Aj).queue 0).write) (v:=OE (Ak b.m b.Aa.Aj) b.Aa.Ao) h.model Uw.2.1;have HO:=Ycm Ci hp;have CP:∀i,Zn b.Ae i=true->Ak (b.m.set b.Aa.Aj.toNat (C4 (Ak b.m b.Aa.Aj))) i=if i=b.Aa.Aj then C4 (Ak b.m b.Aa.Aj) else Ak b.m i:=λi hi=>h.Gq hw _ hi
 have rQ:(Ak b.m b.Aa.Aj).done+1=Zw (Ak b.m b.Aa.Aj)->b.addr.live=true->b.addr.Aj≠b.Aa.Aj:=by
  intro e hl e2;have h1:=(HO.1 e).1;have h2:=h.Dq _ hw;unfold Jt at h2;rw[Ah (⟨hl,e2⟩:b.addr.live=true/\b.addr.Aj=b.Aa.Aj),Ah (⟨hd,rfl⟩:b.Aa.live=true/\b.Aa.Aj=b.Aa.Aj)] at h2;omega
 have hz:Xw 0 (Ak (Ak b.m b.Aa.Aj).queue 0).size=true:=by
  have h1:=(Um _).1 (Jm Uw.2.1).1;generalize (Ak (Ak b.m b.Aa.Aj).queue 0).size=s at h1;have:s=0\/s=1\/s=2:=by omega
  rcases this with rfl|rfl|rfl<;>decide
 refine⟨h.Ae,?_,h.bl,h.sl,λi hi=>?_,h.Bm,h.last,?_,h.alive,(λhx=>by cases hx),λi hi=>?_,?_,?_,?_,?_⟩
 .show (b.m.set b.Aa.Aj.toNat (C4 (Ak b.m b.Aa.Aj))).length=_
  rw[JM];exact h.ml
 .have Y2:Zn b.Ae i=true:=hi
  have hm:=h.Bx i Y2;refine⟨?_,?_,hm.bucket,hm.split⟩
  .show Yy (Ak (b.m.set b.Aa.Aj.toNat (C4 (Ak b.m b.Aa.Aj))) i)
   rw[CP i Y2];split
   .exact Y60 Ci
   .exact hm.right
  .show (Ak (b.m.set b.Aa.Aj.toNat (C4 (Ak b.m b.Aa.Aj))) i).tries<=b.Ae.An
   rw[CP i Y2];split
   .have hl:=(W1 h.Ae).1
    by_cases e:(Ak b.m b.Aa.Aj).done+1=Zw (Ak b.m b.Aa.Aj)
    .rw[(HO.1 e).2.2.2.2];omega
    .rw[(HO.2 e).2.2.2.1];omega
   .exact hm.tries
 .show Ec (if b.Aa.Ar=0 then (HN {b with Aa:=Zi.z0} b.Aa).1 else b.model)
  split
  .exact rP.1
  .exact h.model
 .have Y2:Zn b.Ae i=true:=hi
  have BM:=h.Dq i Y2;show (Ak (b.m.set b.Aa.Aj.toNat (C4 (Ak b.m b.Aa.Aj))) i).Ao - (Ak (b.m.set b.Aa.Aj.toNat (C4 (Ak b.m b.Aa.Aj))) i).done=Jt (MP {b with Aa:=Zi.z0} b.Aa) i;unfold Jt at BM ⊢;show _=(if b.addr.live=true/\b.addr.Aj=i then (1:Int) else 0)+(if Zi.z0.live=true/\Zi.z0.Aj=i then 1 else 0);rw[CP i Y2];simp only[Bn,false_and,if_false];by_cases e:i=b.Aa.Aj
  .subst e
   rw[Ah rfl];rw[Ah (⟨hd,rfl⟩:b.Aa.live=true/\b.Aa.Aj=b.Aa.Aj)] at BM;by_cases e2:(Ak b.m b.Aa.Aj).done+1=Zw (Ak b.m b.Aa.Aj)
   .rw[(HO.1 e2).2.2.1,(HO.1 e2).2.2.2.1,Ai (λhx=>rQ e2 hx.1 hx.2)]
    rfl
   .rw[(HO.2 e2).2.1,(HO.2 e2).2.2.1]
    omega
  .rw[Ai e]
   rw[Ai (λhx:b.Aa.live=true/\b.Aa.Aj=i=>e hx.2.symm)] at BM;omega
 .have hA:=h.addr
  unfold Jq at hA ⊢;show if b.addr.live=true then _ else _
  by_cases hl:b.addr.live=true
  .rw[Ah hl] at hA ⊢
   show b.addr.Ao=(Ak (b.m.set b.Aa.Aj.toNat (C4 (Ak b.m b.Aa.Aj))) b.addr.Aj).Ao - 1/\_;rw[CP _ (GP h hl)];split
   .rename_i e
    have e2:¬(Ak b.m b.Aa.Aj).done+1=Zw (Ak b.m b.Aa.Aj):=λe2=>rQ e2 hl e;rw[(HO.2 e2).2.1,<-e];exact hA
   .exact hA
  .rw[Ai hl] at hA ⊢;exact hA
 .unfold Kt
  show if Zi.z0.live=true then _ else _
  rw[Ai (by simp)];rfl
 .obtain⟨h1,h2⟩:=h.held
  show Gn (MP {b with Aa:=Zi.z0} b.Aa);unfold Gn;show (∀i,Zn b.Ae i=true->(Ak (b.m.set b.Aa.Aj.toNat (C4 (Ak b.m b.Aa.Aj))) i).Ao > 0->Yq (Ak (b.m.set b.Aa.Aj.toNat (C4 (Ak b.m b.Aa.Aj))) i)=true->(if b.Af=b.Aa.Aj/\(Ak b.m b.Aa.Aj).done+1=Zw (Ak b.m b.Aa.Aj) then -1 else b.Af)=i)/\
   (if (if b.Af=b.Aa.Aj/\(Ak b.m b.Aa.Aj).done+1=Zw (Ak b.m b.Aa.Aj) then -1 else b.Af)=-1 then (if b.Af=b.Aa.Aj/\(Ak b.m b.Aa.Aj).done+1=Zw (Ak b.m b.Aa.Aj) then 0 else b.held)=0 else Zn b.Ae (if b.Af=b.Aa.Aj/\(Ak b.m b.Aa.Aj).done+1=Zw (Ak b.m b.Aa.Aj) then -1 else b.Af)=true/\Yq (Ak (b.m.set b.Aa.Aj.toNat (C4 (Ak b.m b.Aa.Aj))) (if b.Af=b.Aa.Aj/\(Ak b.m b.Aa.Aj).done+1=Zw (Ak b.m b.Aa.Aj) then -1 else b.Af))=true/\Ak b.splits (if b.Af=b.Aa.Aj/\(Ak b.m b.Aa.Aj).done+1=Zw (Ak b.m b.Aa.Aj) then -1 else b.Af)=0/\(0<=(if b.Af=b.Aa.Aj/\(Ak b.m b.Aa.Aj).done+1=Zw (Ak b.m b.Aa.Aj) then 0 else b.held)/\(if b.Af=b.Aa.Aj/\(Ak b.m b.Aa.Aj).done+1=Zw (Ak b.m b.Aa.Aj) then 0 else b.held)<=b.Ae.Am))
  have N2:∀i,Zn b.Ae i=true->(Ak (b.m.set b.Aa.Aj.toNat (C4 (Ak b.m b.Aa.Aj))) i).Ao > 0->Yq (Ak (b.m.set b.Aa.Aj.toNat (C4 (Ak b.m b.Aa.Aj))) i)=true->b.Af=i/\¬(i=b.Aa.Aj/\(Ak b.m b.Aa.Aj).done+1=Zw (Ak b.m b.Aa.Aj)):=by
   intro i hi hx hk;rw[CP i hi] at hx hk;by_cases e:i=b.Aa.Aj
   .rw[Ah e] at hx hk
    by_cases e2:(Ak b.m b.Aa.Aj).done+1=Zw (Ak b.m b.Aa.Aj)
    .rw[(HO.1 e2).2.2.1] at hx;omega
    .have e3:=HO.2 e2
     rw[e3.2.1] at hx;rw[dD e3.1 e3.2.2.2.2.1] at hk;subst e;exact⟨h1 _ hi hx hk,λhy=>e2 hy.2⟩
   .rw[Ai e] at hx hk
    exact⟨h1 i hi hx hk,λhy=>e hy.1⟩
  by_cases e:b.Af=b.Aa.Aj/\(Ak b.m b.Aa.Aj).done+1=Zw (Ak b.m b.Aa.Aj)
  .simp only[Ah e,if_true]
   refine⟨λi hi hx hk=>?_,trivial⟩;have:=N2 i hi hx hk;exact absurd ⟨by rw[<-this.1];exact e.1,e.2⟩ this.2
  .simp only[Ai e]
   refine⟨λi hi hx hk=>(N2 i hi hx hk).1,?_⟩;split
   .rename_i e2;rw[Ah e2] at h2;exact h2
   .rename_i e2
    rw[Ai e2] at h2;refine⟨h2.1,?_,h2.2.2.1,h2.2.2.2⟩;rw[CP _ h2.1];split
    .rename_i e3
     have e4:¬(Ak b.m b.Aa.Aj).done+1=Zw (Ak b.m b.Aa.Aj):=λe4=>e ⟨e3,e4⟩;rw[dD (HO.2 e4).1 (HO.2 e4).2.2.2.2.1,<-e3];exact h2.2.1
    .exact h2.2.1
 .show (∀d∈b.log++[c8 {b with Aa:=Zi.z0} b.Aa],RX b.Ae (b.now+1) d)/\(b.log++[c8 {b with Aa:=Zi.z0} b.Aa]).Pairwise _
  refine⟨λd hx=>?_,?_⟩
  .rcases BT.1 hx with hx|hx
   .have:=h.log.1 d hx
    exact⟨⟨this.1.1,by have:=this.1.2;omega⟩,this.2⟩
   .rw[List.mem_singleton.1 hx]
    refine⟨⟨hn,by show b.now < b.now+1;omega⟩,hw,Uw.2.1,Uw.2.2.2,?_,hr⟩;show Xw (if b.Aa.Ar=0 then (HN {b with Aa:=Zi.z0} b.Aa).2.1 else 0) (Ak (Ak b.m b.Aa.Aj).queue 0).size=true;split
    .exact rP.2.1
    .exact hz
  .rw[List.pairwise_append]
   refine⟨h.log.2,List.pairwise_singleton _ _,λx hx y hy=>?_⟩;rw[List.mem_singleton.1 hy];exact (h.log.1 x hx).1.2
theorem Y72 {c:Zh} (h:Yr c=true) (s:Zb) (k:Int):1<=Hr c s k/\Hr c s k<=c.Ap:=by
 have:=(W1 h).2.2.2;unfold Hr;omega
end Go.Proofs.YthdljdelfgofdaaGreatDoor.Ev
