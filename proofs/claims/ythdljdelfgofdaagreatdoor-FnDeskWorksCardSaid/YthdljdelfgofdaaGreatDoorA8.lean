/- A part of the proof of FnDeskWorks: see the text YthdljdelfgofdaaGreatDoorLawFnDeskWorks for what is proved and its conditions. Conditions here: those in each line. -/
import Derived.Test.YthdljdelfgofdaaGreatDoorA7
import Derived.Lib.AtoiAllCases
import Derived.Lib.IndexBytes
import Derived.Lib.IndexLaws
import Derived.Lib.SplitLaws
set_option linter.unusedSimpArgs false
set_option linter.unusedVariables false
set_option linter.unusedSectionVars false
namespace Go.Proofs.YthdljdelfgofdaaGreatDoor.Ev
open Go Go.Proofs
theorem Sc {n:Int} (h1:-9223372036854775808<=n) (h2:n < 9223372036854775808):IntKind.i64.wrap n=n:=zC h1 h2
theorem Yj {a b:Int} (h1:-9223372036854775808<=a+b) (h2:a+b < 9223372036854775808):Zn a b=a+b:=Sc h1 h2
theorem Xc {a b:Int} (h1:-9223372036854775808<=a - b) (h2:a - b < 9223372036854775808):Xf a b=a - b:=Sc h1 h2
theorem Jt {a b:Int} (h1:-9223372036854775808<=a*b) (h2:a*b < 9223372036854775808):Qo a b=a*b:=Sc h1 h2
theorem Ye {k:Nat} (h:k < 4611686018427387904):Zn (k:Int) 1=((k+1:Nat):Int):=by rw[Yj (by omega) (by omega)];rfl
section
variable {α β σ U:Type}
theorem Zx {xs:List α} {k:Nat} (h:k < xs.length):idx xs (k:Int)=some xs[k]:=by
 simp[idx,h]
theorem Y5:4611686018427387904 < FU:=by decide
def Nc (step:α->σ->Option (σ ⊕ U)) (fin:σ->Option U):List α->σ->Option U
 | [],s=>fin s
 | a::l,s=>(step a s).bind λr=>match r with|.inl s'=>Nc step fin l s'|.inr x=>some x
def dD (k:σ->Option U):σ ⊕ U->Option U
 | .inl s=>k s
 | .inr x=>some x
theorem Y6b (xs:List α) (hl:xs.length < 4611686018427387904) (step:α->σ->Option (σ ⊕ U)) (fin:σ->Option U) (L:Nat->σ->Int->Option U)
  (hL:∀m s i,L (m+1) s i=if decide (i < (xs.length:Int))=true then (idx xs i).bind λa=>(step a s).bind (dD λs'=>L m s' (Zn i 1)) else fin s):
  ∀(m k:Nat) (s:σ),k<=xs.length->xs.length - k < m->L m s k=Nc step fin (xs.drop k) s:=by
 intro m
 induction m with
 | zero=>intro k s _ h;omega
 | succ m ih=>
  intro k s hk hm;rw[hL];by_cases hc:k < xs.length
  .have h1:decide ((k:Int) < (xs.length:Int))=true:=by simpa using hc
   rw[Aj h1,Zx hc,Ag,D5 hc];simp only[Nc]
   congr 1
   funext r
   cases r with
   | inl s'=>
    simp only[dD];rw[Ye (by omega)];exact ih (k+1) s' (by omega) (by omega)
   | inr x=>rfl
  .have h1:¬decide ((k:Int) < (xs.length:Int))=true:=by simpa using hc
   rw[Ak h1,EZ (by omega)];rfl
theorem rY (xs:List α) (hl:xs.length < 4611686018427387904) (step:α->σ->Option (σ ⊕ U)) (fin:σ->Option U) (L:Nat->σ->Int->Option U)
  (hL:∀m s i,L (m+1) s i=if decide (i < (xs.length:Int))=true then (idx xs i).bind λa=>(step a s).bind (dD λs'=>L m s' (Zn i 1)) else fin s) (s:σ):
  L FU s 0=Nc step fin xs s:=by
 have:=Y6b xs hl step fin L hL FU 0 s (Cf _) (by have:=Y5;omega);simpa using this
theorem Ypy (step:α->σ->Option (σ ⊕ U)) (fin:σ->Option U) (f:σ->α->σ) (I:List α->σ->Prop) (h:∀a l s,I (a::l) s->step a s=some (.inl (f s a))/\I l (f s a)):∀(xs:List α) (s:σ),I xs s->Nc step fin xs s=fin (xs.foldl f s):=by
 intro xs
 induction xs with
 | nil=>intro s _;rfl
 | cons a l ih=>
  intro s hi;obtain⟨h1,h2⟩:=h a l s hi;simp only[Nc,h1,Ag,HG];exact ih _ h2
theorem Yue {sz n:Nat} {z:α} (h1:n*sz<=70368744177664) (h2:n<=9223372036854775807):Hr sz (n:Int) z=some (List.replicate n z):=by
 simp[Hr,h1,h2]
theorem Yp {sz:Nat} {xs ys:List α} (h1:(xs.length+ys.length)*sz<=140737488355328) (h2:xs.length+ys.length<=9223372036854775807):Yz sz xs ys=some (xs++ys):=by
 unfold Yz;rw[Aj ⟨h1,h2⟩]
end
section
variable {α:Type}
theorem Qm (xs:List α) (i:Int) (a:α):Jv xs i a=some (xs.set i.toNat a):=rfl
def Ai [Inhabited α] (xs:List α) (i:Int):α:=xs.getD i.toNat default
theorem Qk [Inhabited α] {xs:List α} {k:Nat} (h:k < xs.length):Ai xs (k:Int)=xs[k]:=by
 simp[Ai,h]
theorem Xm [Inhabited α] {xs:List α} {i:Int} (h0:0<=i) (h1:i < (xs.length:Int)):idx xs i=some (Ai xs i):=by
 obtain⟨k,rfl⟩:∃k:Nat,i=k:=⟨i.toNat,by omega⟩;have hk:k < xs.length:=by omega
 rw[Zx hk,Qk hk]
theorem Gn [Inhabited α] {xs:List α} {i:Int} (h0:0<=i) (h1:i < (xs.length:Int)):Ai xs i∈xs:=by
 obtain⟨k,rfl⟩:∃k:Nat,i=k:=⟨i.toNat,by omega⟩;have hk:k < xs.length:=by omega
 rw[Qk hk];exact B5 hk
theorem dE [Inhabited α] {xs:List α} {i:Int} (a:α) (h0:0<=i) (h1:i < (xs.length:Int)):Ai (xs.set i.toNat a) i=a:=by
 obtain⟨k,rfl⟩:∃k:Nat,i=k:=⟨i.toNat,by omega⟩;have hk:k < xs.length:=by omega
 rw[Qk (by simpa using hk)];simp
theorem Ypj [Inhabited α] {xs:List α} {i j:Int} (a:α) (h0:0<=i) (h1:0<=j) (hn:i≠j):Ai (xs.set i.toNat a) j=Ai xs j:=by
 unfold Ai;rw[N2,N2,List.getElem?_set_ne (by omega)]
theorem OJ {n:Int} (h:n≠0):GJ n=some ():=by unfold GJ;rw[Ak h]
theorem Y65 {n:Int} (h:0<=n):Lq n=some ():=by unfold Lq;rw[Aj h]
theorem Hy {a n:Int} (h0:0<=a):K0 a n=a % n:=by unfold K0;rw[Vd3 h0]
theorem rZ {a n:Int} (h0:0<=a) (h1:a < 9223372036854775808) (hn:1<=n):Fw a n=a / n:=by
 unfold Fw;rw[Int.tdiv_eq_ediv_of_nonneg h0];have h2:0<=a / n:=Int.ediv_nonneg h0 (by omega);have h3:a / n<=a:=Int.ediv_le_self n h0;exact Sc (by omega) (by omega)
theorem Z9a (xs:List α) (hl:xs.length < 4611686018427387904) (f:α->Option Bool) (q:α->Bool) (hf:∀a∈xs,f a=some (!q a)) (L:Nat->Int->Option Int)
  (hL:∀m i,L (m+1) i=if decide (i < (xs.length:Int))=true then (idx xs i).bind λa=>(f a).bind λr=>if r=true then some i else L m (Zn i 1) else some (-1)):
  (xs.all q=true/\L FU 0=some (-1))\/∃k:Nat,∃h:k < xs.length,L FU 0=some (k:Int)/\q xs[k]=false/\(xs.take k).all q=true:=by
 have key:∀(m k:Nat),k<=xs.length->xs.length - k < m->(xs.take k).all q=true->(xs.all q=true/\L m k=some (-1))\/∃j:Nat,∃h:j < xs.length,L m k=some (j:Int)/\q xs[j]=false/\(xs.take j).all q=true:=by
  intro m
  induction m with
  | zero=>intro k _ h;omega
  | succ m ih=>
   intro k hk hm ht;rw[hL];by_cases hc:k < xs.length
   .have h1:decide ((k:Int) < (xs.length:Int))=true:=by simpa using hc
    rw[Aj h1,Zx hc,Ag,hf _ (B5 hc),Ag];by_cases hq:q xs[k]=true
    .have h2:¬(!q xs[k])=true:=by simp[hq]
     rw[Ak h2,Ye (by omega)];refine ih (k+1) (by omega) (by omega) ?_;rw[List.take_succ_eq_append_getElem hc,List.all_append,ht];simp[hq]
    .have h2:(!q xs[k])=true:=by simpa using hq
     rw[Aj h2];exact .inr ⟨k,hc,rfl,by simpa using hq,ht⟩
   .have h1:¬decide ((k:Int) < (xs.length:Int))=true:=by simpa using hc
    rw[Ak h1];rw[D6 (by omega)] at ht;exact .inl ⟨ht,rfl⟩
 exact key FU 0 (Cf _) (by have:=Y5;omega) (by simp)
theorem sA (xs:List α) (hl:xs.length < 4611686018427387904) (f:α->Option Bool) (q:α->Bool) (hf:∀a∈xs,f a=some (!q a)) (L:Nat->Int->Option Int)
  (hL:∀m i,L (m+1) i=if decide (i < (xs.length:Int))=true then (idx xs i).bind λa=>(f a).bind λr=>if r=true then some i else L m (Zn i 1) else some (-1)):
  ((L FU 0).bind λr=>some (decide (r≥0)))=some (!xs.all q):=by
 rcases Z9a xs hl f q hf L hL with⟨h1,h2⟩|⟨k,hk,h1,h2,h3⟩
 .rw[h2,h1];rfl
 .rw[h1,Ag]
  have:xs.all q=false:=by
   rw[List.all_eq_false];exact⟨xs[k],B5 hk,by simp[h2]⟩
  rw[this];have h4:((k:Nat):Int)≥0:=by omega
  simp[h4]
theorem Yyd (xs:List α) (z:α) (hl:xs.length < 4611686018427387904) (f:α->Option Bool) (q:α->Bool) (hf:∀a∈xs,f a=some (!q a)) (I:Nat->Int->Option Int)
  (hI:∀m i,I (m+1) i=if decide (i < (xs.length:Int))=true then (idx xs i).bind λa=>(f a).bind λr=>if r=true then some i else I m (Zn i 1) else some (-1))
  (L:Nat->List α->Int->Int->Option (List α))
  (hL:∀m v i j,L (m+1) v i j=if decide (j < (v.length:Int))=true then (idx v j).bind λa=>(f a).bind λr=>if (!r)=true then (idx v i).bind λ_=>(Jv v i a).bind λy=>L m y (Zn i 1) (Zn j 1) else L m v i (Zn j 1)
   else (Yt v i (v.length:Int)).bind λ_=>(Lp z v i (v.length:Int)).bind λy=>(Yt y 0 i).bind λs=>some s):
  ((I FU 0).bind λr=>if decide (r=(-1))=true then some xs else L FU xs r (Zn r 1))=some (xs.filter q):=by
 have key:∀(m i j:Nat) (v:List α),i<=j->j<=xs.length->xs.length - j < m->v.length=xs.length->v.take i=(xs.take j).filter q->v.drop j=xs.drop j->L m v i j=some (xs.filter q):=by
  intro m
  induction m with
  | zero=>intro i j v _ _ h;omega
  | succ m ih=>
   intro i j v hij hj hm hv ht hd;rw[hL];by_cases hc:j < v.length
   .have IC:j < xs.length:=by omega
    have h1:decide ((j:Int) < (v.length:Int))=true:=by simpa using hc
    have e:v[j]=xs[j]:=by
     have:=congrArg List.head? hd;simpa [List.head?_drop,hc,IC] using this
    have GM:v.drop (j+1)=xs.drop (j+1):=by
     have:=congrArg (List.drop 1) hd;simpa [List.drop_drop] using this
    rw[Aj h1,Zx hc,Ag,e,hf _ (B5 IC),Ag,uP];by_cases hq:q xs[j]=true
    .rw[Aj hq,Zx (by omega:i < v.length),Ag]
     simp only[Jv,Ag];rw[Ye (by omega),Ye (by omega)];refine ih (i+1) (j+1) _ (by omega) (by omega) (by omega) (by simp[hv]) ?_ ?_
     .rw[N5,List.take_succ_eq_append_getElem (by simpa using (by omega:i < v.length)),List.take_set_of_le (B2 _),ht,List.take_succ_eq_append_getElem IC,gK]
      simp[hq]
     .rw[N5,List.drop_set_of_lt (by omega),GM]
    .rw[Ak hq,Ye (by omega)]
     refine ih i (j+1) v (by omega) (by omega) (by omega) hv ?_ GM;rw[ht,List.take_succ_eq_append_getElem IC,gK];simp[hq]
   .have h1:¬decide ((j:Int) < (v.length:Int))=true:=by simpa using hc
    have hjx:j=xs.length:=by omega
    rw[Ak h1];have h2:Yt v (i:Int) (v.length:Int)=some ((v.drop i).take (v.length - i)):=by
     unfold Yt;rw[Aj ⟨by omega,by omega,by omega⟩];simp
    have h3:Lp z v (i:Int) (v.length:Int)=some (v.take i++List.replicate (v.length - i) z++v.drop v.length):=by
     unfold Lp;have:(i:Int).toNat+((v.length:Int).toNat - (i:Int).toNat)=v.length:=by omega
     rw[Aj (by omega),this];simp
    rw[h2,Ag,h3,Ag];have h4:Yt (v.take i++List.replicate (v.length - i) z++v.drop v.length) 0 (i:Int)=some (v.take i):=by
     unfold Yt;rw[Aj ⟨by omega,by omega,by simp;omega⟩];have:(v.take i).length=i:=by rw[FZ];omega
     simp[List.append_assoc,List.take_append,this]
    rw[h4,Ag,ht,hjx,Fb]
 rcases Z9a xs hl f q hf I hI with⟨h1,h2⟩|⟨k,hk,h1,h2,h3⟩
 .rw[h2,Ag,Aj (by decide)]
  congr 1
  exact (List.filter_eq_self.2 (λa ha=>Cd.1 h1 a ha)).symm
 .rw[h1,Ag,Ak (by simp),Ye (by omega)]
  refine key FU k (k+1) xs (by omega) (by omega) (by have:=Y5;omega) rfl ?_ rfl;rw[List.take_succ_eq_append_getElem hk,gK,List.filter_eq_self.2 (λa ha=>Cd.1 h3 a ha)];simp[h2]
theorem Ypi (sz:Nat) (hz:sz<=1024) (xs:List α) (hl:xs.length < 1048577) (f:α->Option α) (hf:∀a∈xs,f a=some a) {U:Type} (fin:List α->Option U) (L:Nat->List α->Int->Option U)
  (hL:∀m v i,L (m+1) v i=if decide (i < (xs.length:Int))=true then (idx xs i).bind λa=>(f a).bind λb=>(Yz sz v [b]).bind λz=>L m z (Zn i 1) else fin v):L FU [] 0=fin xs:=by
 have key:∀(m k:Nat),k<=xs.length->xs.length - k < m->L m (xs.take k) k=fin xs:=by
  intro m
  induction m with
  | zero=>intro k _ h;omega
  | succ m ih=>
   intro k hk hm;rw[hL];by_cases hc:k < xs.length
   .have h1:decide ((k:Int) < (xs.length:Int))=true:=by simpa using hc
    have Yo:(xs.take k).length=k:=by rw[FZ];omega
    have hb:(k+1)*sz<=140737488355328:=LX (Nat.mul_le_mul (by omega:k+1<=1048577) hz) (by decide);rw[Aj h1,Zx hc,Ag,hf _ (B5 hc),Ag,Yp (by simpa [Yo] using hb) (by simp[Yo];omega),Ag,Ye (by omega),<-List.take_succ_eq_append_getElem hc];exact ih (k+1) (by omega) (by omega)
   .have h1:¬decide ((k:Int) < (xs.length:Int))=true:=by simpa using hc
    rw[Ak h1,D6 (by omega)]
 have:=key FU 0 (Cf _) (by have:=Y5;omega);simpa using this
end
theorem Xax (bs:ByteArray):∀(n i:Nat) (r:List UInt8),bs.size - i=n->ByteArray.toList.loop bs i r=r.reverse++bs.data.toList.drop i:=by
 intro n
 induction n with
 | zero=>
  intro i r h;unfold ByteArray.toList.loop;have hs:bs.data.toList.length=bs.size:=rfl;rw[Ak (by omega),EZ (by omega)];simp
 | succ n ih=>
  intro i r h;unfold ByteArray.toList.loop;have hs:bs.data.toList.length=bs.size:=rfl;have hi:i < bs.data.toList.length:=by omega
  rw[Aj (by omega),ih (i+1) _ (by omega),D5 hi];have:bs.get! i=bs.data.toList[i]:=by
   have U7:i < bs.data.size:=hi;simp[ByteArray.get!,getElem!_def,Var U7]
  rw[this];simp
theorem Ypr (bs:ByteArray):bs.toList=bs.data.toList:=by
 unfold ByteArray.toList;rw[Xax bs _ 0 [] rfl];simp
theorem Yh0 {β:Type} {c:Prop} [Decidable c] {x:β}:(if c then x else x)=x:=by split<;>rfl
theorem K8 {σ U:Type} {n:Nat} (hn:n < 4611686018427387904) (st:Nat->σ) {B:(σ->Int->U)->σ->Int->U} {L:Nat->σ->Int->U} (hL:∀m s i,L (m+1) s i=B (L m) s i)
  (hs:∀k,k < n->∀κ,B κ (st k) (k:Int)=κ (st (k+1)) (Zn (k:Int) 1)) {r:U} (hf:∀κ,B κ (st n) (n:Int)=r):L FU (st 0) 0=r:=by
 have key:∀(m k:Nat),k<=n->n - k < m->L m (st k) (k:Int)=r:=by
  intro m
  induction m with
  | zero=>intro k _ h;omega
  | succ m ih=>
   intro k hk hm;rw[hL];by_cases hc:k < n
   .rw[hs k hc,Ye (by omega)]
    exact ih (k+1) (by omega) (by omega)
   .have:k=n:=by omega
    subst this;exact hf _
 have:=key FU 0 (Cf _) (by have:=Y5;omega);simpa using this
theorem Yst {U:Type} {n:Nat} (hn:n < 4611686018427387904) {B:(Int->U)->Int->U} {L:Nat->Int->U} (hL:∀m i,L (m+1) i=B (L m) i)
  (hs:∀k,k < n->∀κ,B κ (k:Int)=κ (Zn (k:Int) 1)) {r:U} (hf:∀κ,B κ (n:Int)=r):L FU 0=r:=
 K8 (σ:=Unit) hn (λ_=>()) (B:=λκ _ i=>B (κ ()) i) (L:=λm _ i=>L m i) (λm _ i=>hL m i) (λk hk κ=>hs k hk _) λκ=>hf _
def L8 (b:ByteArray):List UInt8:=b.data.toList
theorem Xz (a b:ByteArray):L8 (a++b)=L8 a++L8 b:=by simp[L8]
theorem K4 {a b:ByteArray} (h:L8 a=L8 b):a=b:=by
 cases a;cases b;simp only[L8] at h;rw[Array.toList_inj.1 h]
theorem Z5 (a:ByteArray):a.size=(L8 a).length:=by show a.data.size=a.data.toList.length;rw[Array.length_toList]
theorem Xp (l:List UInt8):L8 ⟨l.toArray⟩=l:=rfl
theorem Zz (l:List UInt8):L8 (Zc l)=l:=rfl
theorem FP:L8 ByteArray.empty=[]:=rfl
theorem We {a b:ByteArray} (h:a.size+b.size < 9223372036854775808):Z6 a b=some ():=by
 unfold Z6;rw[Ak (by simp[IntKind.max,IntKind.signed,IntKind.bits];omega)]
theorem Yv (a b:ByteArray):(a++b).size=a.size+b.size:=by rw[Z5,Xz,Cy,Z5,Z5]
theorem Z3 (l:List UInt8):(Zc l).size=l.length:=by rw[Z5,Zz]
theorem Z26:∀(k u:Nat),u < 10^(k+1)->(Lib.decDigits u).length<=k+1:=by
 intro k
 induction k with
 | zero=>
  intro u hu;rw[Lib.decDigits,dif_pos (by omega)];simp
 | succ k ih=>
  intro u hu;rw[Lib.decDigits];split
  .simp
  .rw[Cy]
   have:=ih (u / 10) (by rw[Tf] at hu;omega);simp;omega
def Sd (u:Nat):List UInt8:=if u=0 then [] else Lib.decDigits u
theorem Y87 {u:Nat} (h:u≠0):Sd u=Sd (u / 10)++[UInt8.ofNat (48+u % 10)]:=by
 unfold Sd;rw[Ak h,Lib.decDigits];split
 .rename_i h1
  rw[Aj (by omega),Vq h1];rfl
 .rw[Ak (by omega)]
def Bz (x:Int):Prop:=-9223372036854775808<=x/\x<=9223372036854775807
def Zy (x:Int):ByteArray:=⟨(Lib.itoa x).toArray⟩
theorem Yh (x:Int):L8 (Zy x)=Lib.itoa x:=rfl
theorem Wx {x:Int} (h:Bz x):(Lib.itoa x).length<=20:=by
 obtain⟨h1,h2⟩:=h;unfold Lib.itoa;split
 .have:=Z26 18 x.natAbs (by omega)
  simp;omega
 .have:=Z26 18 x.toNat (by omega)
  omega
theorem Xn {x:Int} (h:Bz x):(Zy x).size<=20:=by rw[Z5,Yh];exact Wx h
theorem Xal {x:Int} (h:x≠0):Lib.itoa x=(if x < 0 then [45] else [])++Sd x.natAbs:=by
 unfold Lib.itoa Sd;have hn:¬x.natAbs=0:=by omega
 by_cases hx:x < 0
 .rw[Aj hx,Aj hx,Ak hn];rfl
 .have:x.toNat=x.natAbs:=by omega
  rw[Ak hx,Ak hx,Ak hn,this];rfl
theorem Y6w:Lib.itoa 0=[48]:=by
 unfold Lib.itoa;rw[Ak (by omega),show (0:Int).toNat=0 from rfl,Lib.decDigits,dif_pos (by omega)];rfl
theorem digB {d:Int} (h0:0<=d) (h1:d < 10):JC [w8 (Zn 48 d)]=Zc [UInt8.ofNat (48+d.toNat)]:=by
 have:w8 (Zn 48 d)=((48+d.toNat:Nat):Int):=by
  simp[w8,Zn,IntKind.wrap,IntKind.bits,IntKind.signed];omega
 rw[this];rfl
theorem Y3z (x0:Int):∀(m:Nat) (v0:Int) (v1:ByteArray),v0.natAbs < m->Bz v0->(v1.size+v0.natAbs < 9223372036854775807\/v1.size=0)->
  ∃r,T7 x0 m v0 v1=some r/\L8 r=(if x0 < 0 then [45] else [])++Sd v0.natAbs++L8 v1:=by
 intro m
 induction m with
 | zero=>intro v0 v1 h;omega
 | succ m ih=>
  intro v0 v1 hm hr hs;show ∃r,zN x0 (T7 x0 m) v0 v1=some r/\_;unfold zN;obtain⟨E3,C6⟩:=hr;by_cases h0:v0=0
  .subst h0
   rw[Ak (by simp)];by_cases hx:x0 < 0
   .rw[Aj (by simpa using hx),We (by
     have hz:(0:Int).natAbs=0:=rfl;rw[hz] at hs;rw[Z3];show 1+v1.size < _;omega),Ag]
    exact⟨_,rfl,by rw[Aj hx,Xz];rfl⟩
   .rw[Ak (by simpa using hx)]
    exact⟨_,rfl,by rw[Ak hx];rfl⟩
  .rw[Aj (by simpa using h0)]
   have hq:Fw v0 10=v0.tdiv 10:=by
    unfold Fw;have:(v0.tdiv 10).natAbs=v0.natAbs / 10:=by rw[Int.natAbs_tdiv];rfl
    simp[IntKind.wrap,IntKind.bits,IntKind.signed];omega
   have hqa:(v0.tdiv 10).natAbs=v0.natAbs / 10:=by rw[Int.natAbs_tdiv];rfl
   have hra:(v0.tmod 10).natAbs=v0.natAbs % 10:=by rw[Int.natAbs_tmod];rfl
   have step:∀d:Int,0<=d->d.toNat=v0.natAbs % 10->∃r,ZB x0 (T7 x0 m) v0 v1 d=some r/\L8 r=(if x0 < 0 then [45] else [])++Sd v0.natAbs++L8 v1:=λd hd0 hd=>by
    unfold ZB;rw[digB hd0 (by omega),We (by rw[Z3];simp;omega),Ag,hq];obtain⟨r,h1,h2⟩:=ih (v0.tdiv 10) (Zc [UInt8.ofNat (48+d.toNat)]++v1) (by omega) (by constructor<;>omega) (.inl (by rw[Yv,Z3,hqa];simp;omega));refine⟨r,h1,?_⟩;rw[h2,hqa,Xz,Zz,Y87 (u:=v0.natAbs) (by omega),hd];simp
   unfold K0 at*;by_cases hn:v0.tmod 10 < 0
   .rw[Aj (by simpa using hn)]
    have hneg:T4 (v0.tmod 10)=-(v0.tmod 10):=by
     simp[T4,IntKind.wrap,IntKind.bits,IntKind.signed];omega
    rw[hneg];exact step _ (by omega) (by omega)
   .rw[Ak (by simpa using hn)]
    exact step _ (by omega) (by omega)
theorem Wr {x:Int} (h:Bz x):W4 x=some (Zy x):=by
 unfold W4;by_cases h0:x=0
 .subst h0
  rw[Aj (by simp)];exact congrArg some (K4 (by rw[Yh,Y6w,Zz]))
 .rw[Ak (by simpa using h0)]
  obtain⟨r,h1,h2⟩:=Y3z x FU x ByteArray.empty (by obtain⟨h1,h2⟩:=h;unfold FU;omega) h (.inr rfl);rw[h1];exact congrArg some (K4 (by rw[h2,Yh,Xal h0,FP,Gb]))
theorem Hz {x:Int} (h:Bz x):FO x=some (Zy x):=by
 unfold FO nT;rw[Aj (show _/\_ from h)];rfl
theorem Nd {ws:List ByteArray} {sep:ByteArray} (h1:ws.length<=1000000000) (h2:(Lib.join (ws.map L8) (L8 sep)).length<=140737488355328):Qn ws sep=some ⟨(Lib.join (ws.map L8) (L8 sep)).toArray⟩:=by
 unfold Qn;rw[Aj ⟨by omega,h2⟩];rfl
theorem Wp (x a b:Int):Yn x a b=some (decide (a<=x/\x<=b)):=by
 unfold Yn;by_cases h:a<=x<;>simp[h]
theorem Xu (x a b:Int):Z2 x a b=some (decide (a<=x/\x<=b)):=by
 unfold Z2;by_cases h:a<=x<;>simp[h]
def F5 (c:Zi):Int:=if (0<=c.Ao/\c.Ao<=3)/\(0<=c.Au/\c.Au<=3) then (c.Ao+2)*(c.Au+6) else 0
def Jf (c:Zi):Int:=if F5 c=0 then 0 else if 1<=c.Am/\c.Am<=40 then 2*F5 c+c.Am else 0
def Kb (c:Zi):Nat:=c.Ab.countP (·.prio)
def Q5 (c:Zi) (m:Ze):Bool:=decide (1<=m.weight/\m.weight<=4)&&if m.prio then decide (2*Jf c*Kb c<=m.every/\m.every<=1000)&&decide (1<=m.cap/\m.cap<=8) else decide (m.every=0)&&decide (m.cap=0)
def Ys (c:Zi):Bool:=decide (1<=(c.Ab.length:Int)/\(c.Ab.length:Int)<=4)&&decide (1<=c.Aw/\c.Aw<=4)&&decide (1<=c.Ar/\c.Ar<=12)&&decide (Jf c≠0)&&c.Ab.all (Q5 c)
theorem sB (c:Zi):0<=F5 c/\F5 c<=45:=by
 unfold F5;split
 .rename_i h
  obtain⟨⟨h1,h2⟩,h3,h4⟩:=h;generalize c.Ao=a at*;generalize c.Au=b at*;have:a=0\/a=1\/a=2\/a=3:=by omega
  rcases this with rfl|rfl|rfl|rfl<;>omega
 .omega
theorem dF (c:Zi):0<=Jf c/\Jf c<=130:=by
 have:=sB c;unfold Jf;split
 .omega
 .split<;>omega
theorem sC (c:Zi):Ro c=some (F5 c):=by
 unfold Ro;rw[Xu,Ag,Xu,Ag];unfold kH F5;by_cases h1:0<=c.Ao/\c.Ao<=3
 .by_cases h2:0<=c.Au/\c.Au<=3
  .have:=sB c
   unfold F5 at this;rw[Aj ⟨h1,h2⟩] at this;simp only[h1,h2,decide_true,Du,Bn,if_false,and_self,if_true];rw[Yj (by omega) (by omega),Yj (by omega) (by omega),Jt (by omega) (by omega)]
  .simp[h1,h2]
 .simp[h1]
theorem Yzm (c:Zi):aT c=some (F5 c):=by
 rw[<-sC];unfold aT Ro;simp only[Xu,Wp];rfl
theorem Ygk (c:Zi):Oq c=some (Jf c):=by
 have:=sB c;unfold Oq Jf;rw[sC,Ag,Xu,Ag,Ag];by_cases h0:F5 c=0
 .simp[h0]
 .by_cases h1:1<=c.Am/\c.Am<=40
  .simp only[h0,h1,decide_true,decide_false,Du,Bn,if_false,and_self,if_true]
   rw[Jt (by omega) (by omega),Yj (by omega) (by omega)]
  .simp[h0,h1]
theorem Yf6 (c:Zi):aU c=some (Jf c):=by
 rw[<-Ygk];unfold aU Oq;simp only[Xu,Wp,sC,Yzm]
theorem Yrd (c:Zi):kI c=some (decide (1<=c.Aw/\c.Aw<=4)&&decide (1<=c.Ar/\c.Ar<=12)&&decide (Jf c≠0)):=by
 have:=sB c;unfold kI Jf;simp only[Xu,sC,Ag];by_cases h1:1<=c.Aw/\c.Aw<=4
 .by_cases h2:F5 c=0
  .simp[h2]
  .have h3:F5 c > 0:=by omega
   by_cases h4:1<=c.Ar/\c.Ar<=12
   .by_cases h5:1<=c.Am/\c.Am<=40
    .have:¬(2*F5 c+c.Am=0):=by omega
     simp[h1,h2,h3,h4,h5,this]
    .simp[h1,h2,h3,h4,h5]
   .simp[h1,h2,h3,h4]
 .simp[h1]
theorem Ymb (xs:List Ze):∀(n:Int),0<=n->n+xs.length < 4611686018427387904->∀{U:Type} (fin:Int->Option U),Nc (λ(a:Ze) n=>some (.inl (if a.prio=true then Zn n 1 else n))) fin xs n=fin (n+(xs.countP (·.prio):Nat)):=by
 induction xs with
 | nil=>intro n _ _ U fin;simp[Nc]
 | cons a l ih=>
  intro n h0 hl U fin;simp only[AU] at hl;simp only[Nc,Ag,gQ];by_cases h:a.prio=true
  .rw[Aj h,Yj (by omega) (by omega),ih _ (by omega) (by omega),Aj h]
   congr 1;omega
  .rw[Ak h,ih _ (by omega) (by omega),Ak h]
   congr 1
theorem Y28 (c:Zi) (hl:c.Ab.length < 1048577):nQ c=some (Kb c:Int):=by
 unfold nQ;rw[rY c.Ab (by omega) (λ(a:Ze) n=>some (.inl (if a.prio=true then Zn n 1 else n))) some (nP c) (λm s i=>?_) 0,Ymb _ _ (by omega) (by omega)]
 .simp[Kb]
 .show Zxi c _ s i=_
  unfold Zxi
  congr 1;congr 1;funext a
  by_cases h:a.prio=true<;>simp[h,dD]
theorem Ypg (c:Zi):Kb c<=c.Ab.length:=Vei
theorem Yun (c:Zi) (hl:c.Ab.length < 1048577):0<=Jf c*(Kb c:Int)/\Jf c*(Kb c:Int)<=136314880:=by
 have h1:=dF c;have h2:=Ypg c;constructor
 .exact uN h1.1 (by omega)
 .have h3:Jf c*(Kb c:Int)<=130*(Kb c:Int):=Int.mul_le_mul_of_nonneg_right h1.2 (by omega)
  omega
theorem Ymk (c:Zi) (hl:c.Ab.length < 1048577):nR c=some (2*Jf c*Kb c):=by
 have h1:=dF c;have h2:=Yun c hl;unfold nR;rw[Yf6,Ag,Y28 c hl,Ag];rw[Jt (a:=2) (by omega) (by omega),Jt (by rw[Int.mul_assoc];omega) (by rw[Int.mul_assoc];omega)]
theorem Yra (c:Zi) (m:Ze) (hl:c.Ab.length < 1048577):nS m c=some (!Q5 c m):=by
 unfold nS Q5;simp only[Wp,Ag,Ymk c hl];by_cases h1:1<=m.weight/\m.weight<=4
 .by_cases h2:m.prio=true
  .by_cases h3:2*Jf c*Kb c<=m.every/\m.every<=1000
   .simp[h1,h2,h3]
   .simp[h1,h2,h3]
  .by_cases h3:m.every=0
   .simp[h1,h2,h3]
   .simp[h1,h2,h3]
 .simp[h1]
theorem Yzi (c:Zi) (xs:List Ze) (hl:c.Ab.length < 1048577) (hx:xs.length < 4611686018427387904):Wo xs c=some (!xs.all (Q5 c)):=by
 unfold Wo Kt;have key:∀(m k:Nat),k<=xs.length->xs.length - k < m->∃r,Y6 xs c m k=some r/\decide (r≥0)=!(xs.drop k).all (Q5 c):=by
  intro m
  induction m with
  | zero=>intro k _ h;omega
  | succ m ih=>
   intro k hk hm;have e:Y6 xs c (m+1) k=Qw xs c (Y6 xs c m) k:=rfl;rw[e];unfold Qw;by_cases hc:k < xs.length
   .have h1:decide ((k:Int) < (xs.length:Int))=true:=by simpa using hc
    rw[Aj h1,Zx hc,Ag,Yra c _ hl,Ag,D5 hc,DW];by_cases hq:Q5 c xs[k]=true
    .have h2:¬(!Q5 c xs[k])=true:=by simp[hq]
     rw[Ak h2,Ye (by omega),hq,Hd];exact ih (k+1) (by omega) (by omega)
    .have h2:(!Q5 c xs[k])=true:=by simpa using hq
     rw[Aj h2];refine⟨_,rfl,?_⟩;simp[hq]
   .have h1:¬decide ((k:Int) < (xs.length:Int))=true:=by simpa using hc
    rw[Ak h1,EZ (by omega)];exact⟨_,rfl,by simp⟩
 obtain⟨r,hr,hq⟩:=key FU 0 (Cf _) (by have:=Y5;omega);rw[show ((0:Nat):Int)=0 from rfl] at hr;rw[hr,Ag,hq,LV]
theorem U8 (c:Zi) (hl:c.Ab.length < 1048577):L1 c=some (Ys c):=by
 unfold L1 Ys;simp only[Wp,Ag,Yf6,Yzi c c.Ab hl (by omega),uP];by_cases h1:1<=(c.Ab.length:Int)/\(c.Ab.length:Int)<=4
 .by_cases h2:1<=c.Aw/\c.Aw<=4
  .by_cases h3:1<=c.Ar/\c.Ar<=12
   .by_cases h4:Jf c=0<;>simp[h1,h2,h3,h4]
   .simp[h1,h2,h3]
  .simp[h1,h2]
 .simp[h1]
theorem Y89 (c:Zi) (m:Ze) (hl:c.Ab.length < 1048577) (k:Option Bool):
  ((Z2 m.weight 1 4).bind λdG=>
  if (!dG)=true then some false
  else if (!m.prio)=true then
    if decide (m.every≠0)=true then some false
    else if decide (m.cap≠0)=true then some false
     else if m.prio=true then
       (Oq c).bind λJK=>
       (Z2 m.every (Qo (Qo 2 (Kb c:Int)) JK) 1000).bind λJL=>
       if (!JL)=true then some false
       else (Z2 m.cap 1 8).bind λJM=>if (!JM)=true then some false else k
      else k
   else if m.prio=true then
     (Oq c).bind λJK=>
     (Z2 m.every (Qo (Qo 2 (Kb c:Int)) JK) 1000).bind λJL=>
     if (!JL)=true then some false
     else (Z2 m.cap 1 8).bind λJM=>if (!JM)=true then some false else k
    else k)=if Q5 c m=true then k else some false:=by
 have h1:=dF c;have h2:=Yun c hl;have h3:=Ypg c;have e:Qo (Qo 2 (Kb c:Int)) (Jf c)=2*Jf c*Kb c:=by
  have e2:2*(Kb c:Int)*Jf c=2*(Jf c*(Kb c:Int)):=by rw[Int.mul_assoc,Tg (Kb c:Int)]
  rw[Jt (a:=2) (by omega) (by omega),Jt (by rw[e2];omega) (by rw[e2];omega),e2,Int.mul_assoc]
 unfold Q5;simp only[Xu,Ag,Ygk,e];by_cases h1:1<=m.weight/\m.weight<=4
 .by_cases h2:m.prio=true
  .by_cases h3:2*Jf c*Kb c<=m.every/\m.every<=1000
   .by_cases h4:1<=m.cap/\m.cap<=8<;>simp[h1,h2,h3,h4]
   .simp[h1,h2,h3]
  .by_cases h3:m.every=0
   .by_cases h4:m.cap=0<;>simp[h1,h2,h3,h4]
   .simp[h1,h2,h3]
 .simp[h1]
theorem Ylo (c:Zi) (hl:c.Ab.length < 1048577):Ot c FU (Kb c:Int) 0=some (Ys c):=by
 have key:∀(m k:Nat),k<=c.Ab.length->c.Ab.length - k < m->Ot c m (Kb c:Int) k=some (decide (1<=(c.Ab.length:Int)/\(c.Ab.length:Int)<=4)&&decide (1<=c.Aw/\c.Aw<=4)&&decide (1<=c.Ar/\c.Ar<=12)&&decide (Jf c≠0)&&(c.Ab.drop k).all (Q5 c)):=by
  intro m
  induction m with
  | zero=>intro k _ h;omega
  | succ m ih=>
   intro k hk hm;have e:Ot c (m+1) (Kb c:Int) k=zK c (Ot c m) (Kb c:Int) k:=rfl;rw[e];unfold zK;by_cases hc:k < c.Ab.length
   .have h1:decide ((k:Int) < (c.Ab.length:Int))=true:=by simpa using hc
    rw[Aj h1,Zx hc,Ag,Y89 c _ hl,D5 hc,DW,Ye (by omega),ih (k+1) (by omega) (by omega)];by_cases hq:Q5 c c.Ab[k]=true
    .simp[hq]
    .simp[hq]
   .have h1:¬decide ((k:Int) < (c.Ab.length:Int))=true:=by simpa using hc
    rw[Ak h1,EZ (by omega),Xu,Ag,Yrd];by_cases h2:1<=(c.Ab.length:Int)/\(c.Ab.length:Int)<=4
    .simp[h2]
    .simp[h2]
 have:=key FU 0 (Cf _) (by have:=Y5;omega);simpa [Ys] using this
theorem Se (c:Zi) (hl:c.Ab.length < 1048577):MI c=some (Ys c):=by
 unfold MI;rw[rY c.Ab (by omega) (λ(a:Ze) n=>some (.inl (if a.prio=true then Zn n 1 else n))) (λn=>Ot c FU n 0) (kJ c) (λm s i=>?_) 0,Ymb _ _ (by omega) (by omega)]
 .rw[show (0:Int)+(c.Ab.countP (·.prio):Nat)=(Kb c:Int) by simp[Kb]]
  exact Ylo c hl
 .show zL c _ s i=_
  unfold zL
  congr 1;congr 1;funext a
  by_cases h:a.prio=true<;>simp[h,dD]
def dH (c:Zi) (i:Int):Int:=((c.Ab[i.toNat]?).map (·.weight)).getD 0
def Zm (c:Zi) (i:Int):Bool:=decide (0<=i/\i < (c.Ab.length:Int))
def FQ (c:Zi) (i:Int):Int:=if Ys c=true/\Zm c i=true then dH c i*c.Aw else 0
theorem Yk7 {c:Zi} {i:Int} (h:Zm c i=true):∃m,idx c.Ab i=some m/\m∈c.Ab/\m.weight=dH c i:=by
 simp only[Zm,Bj] at h;obtain⟨k,rfl⟩:∃k:Nat,i=k:=⟨i.toNat,by omega⟩;have hk:k < c.Ab.length:=by omega
 refine⟨c.Ab[k],Zx hk,B5 hk,?_⟩;simp[dH,hk]
theorem Z54 {c:Zi} {m:Ze} (h:Ys c=true) (hm:m∈c.Ab):1<=m.weight/\m.weight<=4:=by
 simp only[Ys,Bg,Cd] at h;have:=h.2 m hm;simp only[Q5,Bg,Bj] at this;exact this.1
theorem Ycp {c:Zi} (h:Ys c=true):1<=c.Aw/\c.Aw<=4:=by
 simp only[Ys,Bg,Bj] at h;exact h.1.1.1.2
theorem Yu2 {c:Zi} {i:Int} (h:Ys c=true) (hm:Zm c i=true):1<=dH c i/\dH c i<=4:=by
 obtain⟨m,_,h1,h2⟩:=Yk7 hm;rw[<-h2];exact Z54 h h1
theorem Ytr {a b:Int} (h1:1<=a) (h2:a<=4) (h3:1<=b) (h4:b<=4):1<=a*b/\a*b<=16:=by
 have:a=1\/a=2\/a=3\/a=4:=by omega
 rcases this with rfl|rfl|rfl|rfl<;>omega
theorem sD {c:Zi} {i:Int} (h:Ys c=true) (hm:Zm c i=true):1<=FQ c i/\FQ c i<=16:=by
 unfold FQ;rw[Aj ⟨h,hm⟩];have h1:=Yu2 h hm;have h2:=Ycp h;exact Ytr h1.1 h1.2 h2.1 h2.2
theorem Y1n {c:Zi} {i:Int}:FQ c i=0↔¬(Ys c=true/\Zm c i=true):=by
 constructor
 .intro h hc
  have:=sD hc.1 hc.2;omega
 .intro h;unfold FQ;rw[Ak h]
theorem U9 (c:Zi) (i:Int):0<=FQ c i/\FQ c i<=16:=by
 by_cases h:Ys c=true/\Zm c i=true
 .have:=sD h.1 h.2;omega
 .rw[Y1n.2 h];omega
theorem dI {c:Zi} (i:Int) (hl:c.Ab.length < 1048577):decide (0<=i/\i<=Xf (c.Ab.length:Int) 1)=Zm c i:=by
 rw[Xc (by omega) (by omega)];unfold Zm
 congr 1
 apply propext;omega
theorem sE (c:Zi) (i:Int) (hl:c.Ab.length < 1048577):Rr c i=some (FQ c i):=by
 unfold Rr;rw[Se c hl,Ag,Xu,Ag,dI i hl];unfold kN;by_cases h1:Ys c=true
 .by_cases h2:Zm c i=true
  .obtain⟨m,dJ,La,hm3⟩:=Yk7 h2
   have hw:=Z54 h1 La;have hq:=Ycp h1;have:=Ytr hw.1 hw.2 hq.1 hq.2;simp only[h1,h2,dJ,Du,Bn,if_false,Ag];rw[Jt (by omega) (by omega)];simp[FQ,h1,h2,hm3]
  .simp[FQ,h1,h2]
 .simp[FQ,h1]
theorem LC (c:Zi) (i:Int) (hl:c.Ab.length < 1048577):JH c i=some (Zm c i):=by
 unfold JH;rw[Wp,Ag,dI i hl]
theorem Z51 (c:Zi) (i:Int) (hl:c.Ab.length < 1048577):Ud c i=some (FQ c i):=by
 rw[<-sE c i hl];unfold Ud Rr;rw[Se c hl,U8 c hl,LC c i hl,Xu,dI i hl];rfl
theorem Gp (a b:Int):D2 a b=min a b:=by unfold D2;omega
theorem Nf (a b:Int):E7 a b=max a b:=by unfold E7;omega
theorem Kq {c:Zi} (h:Ys c=true):1<=(c.Ab.length:Int)/\(c.Ab.length:Int)<=4:=by
 simp only[Ys,Bg,Bj] at h;exact h.1.1.1.1
theorem Gq {c:Zi} (h:Ys c=true):c.Ab.length < 1048577:=by have:=Kq h;omega
instance:Inhabited Ze:=⟨Ze.z0⟩
instance:Inhabited Zk:=⟨Zk.z0⟩
theorem JN {c:Zi} {i:Int} (h:Ys c=true) (hm:Zm c i=true):Q5 c (Ai c.Ab i)=true:=by
 simp only[Zm,Bj] at hm;have:=Gn hm.1 hm.2;simp only[Ys,Bg,Cd] at h;exact h.2 _ this
theorem Ng {c:Zi} {m:Ze} (h:Q5 c m=true):-1<=m.every/\m.every<=1000/\0<=m.cap/\m.cap<=8:=by
 have h1:=dF c;have h2:0<=2*Jf c*(Kb c:Int):=uN (by omega) (by omega);simp only[Q5,Bg,Bj] at h;obtain⟨h3,h4⟩:=h;split at h4
 .simp only[Bg,Bj] at h4;omega
 .simp only[Bg,Bj] at h4;omega
def Y1 (b:Zk) (m:Ze):Bool:=if m.prio then decide (0<=b.tokens/\b.tokens<=m.cap)&&decide (0<=b.count/\b.count < m.every) else decide (b.tokens=0)&&decide (b.count=0)
def JO (b:Zk) (m:Ze):Zk:=if (m.prio&&Y1 b m)=true then (if b.count+1=m.every then ⟨min (b.tokens+1) m.cap,0⟩ else ⟨b.tokens,b.count+1⟩) else b
def F6 (b:Zk) (m:Ze):Zk×Bool:=if (m.prio&&Y1 b m&&decide (b.tokens≠0))=true then (⟨b.tokens - 1,b.count⟩,true) else (b,false)
def Sf (b:Zk) (m:Ze):Zk:=if (m.prio&&Y1 b m)=true then ⟨min (b.tokens+1) m.cap,b.count⟩ else b
def LD (m:Ze):Zk:=if m.prio then ⟨max m.cap 0,0⟩ else ⟨0,0⟩
theorem sF (b:Zk) {m:Ze} (h:-1<=m.every/\m.every<=1000):Ru b m=some (Y1 b m):=by
 unfold Ru Y1;rw[Xu,Ag,Xu,Ag,Xc (by omega) (by omega)];by_cases h1:m.prio=true
 .have e:(0<=b.count/\b.count<=m.every - 1)↔(0<=b.count/\b.count < m.every):=by omega
  by_cases h2:0<=b.tokens/\b.tokens<=m.cap
  .simp[h1,h2,e]
  .simp[h1,h2]
 .simp[h1]
theorem Ya4 (b:Zk) (m:Ze):bH b m=some (Y1 b m):=by
 unfold bH Y1;rw[Wp,Ag];by_cases h1:m.prio=true
 .by_cases h2:0<=b.tokens/\b.tokens<=m.cap
  .by_cases h3:0<=b.count<;>simp[h1,h2,h3]
  .simp[h1,h2]
 .simp[h1]
theorem Sg {b:Zk} {c:Zi} {m:Ze} (h:Y1 b m=true) (hm:Q5 c m=true):0<=b.tokens/\b.tokens<=8/\0<=b.count/\b.count<=1000:=by
 have:=Ng hm;unfold Y1 at h;split at h<;>simp only[Bg,Bj] at h<;>omega
theorem Yjw (b:Zk) {c:Zi} {m:Ze} (h:Q5 c m=true):lN b m=some (JO b m):=by
 have hm:=Ng h;unfold lN lM JO;rw[sF b ⟨hm.1,hm.2.1⟩,Ag];by_cases h1:m.prio=true
 .by_cases h2:Y1 b m=true
  .have:=Sg h2 h
   simp only[h1,h2,Du,Bn,if_false,LW,if_true];rw[Yj (by omega) (by omega),Yj (by omega) (by omega),Gp,Vy];by_cases h3:b.count+1=m.every<;>simp[h3]
  .simp[h1,h2]
 .simp[h1]
theorem Z6o (b:Zk) (m:Ze):Uc b m=some (m.prio&&Y1 b m):=by
 unfold Uc;rw[Ya4,Ag];by_cases h1:m.prio=true<;>simp[h1]
theorem Yk8 (b:Zk) {c:Zi} {m:Ze} (h:Q5 c m=true):oY b m=some (JO b m):=by
 unfold oY JO;rw[Z6o,Ag];by_cases h1:(m.prio&&Y1 b m)=true
 .have h2:Y1 b m=true:=by simp only[Bg] at h1;exact h1.2
  have:=Sg h2 h;rw[Ak (by simp[h1]),Aj h1,Yj (by omega) (by omega),Yj (by omega) (by omega),Gp];by_cases h3:b.count+1=m.every<;>simp[h3]
 .rw[Aj (by cases hq:(m.prio&&Y1 b m)<;>simp_all),Ak h1]
theorem Ylp (b:Zk) {c:Zi} {m:Ze} (h:Q5 c m=true):mH b m=some (F6 b m):=by
 have hm:=Ng h;unfold mH aD F6;rw[sF b ⟨hm.1,hm.2.1⟩,Ag];by_cases h1:m.prio=true
 .by_cases h2:Y1 b m=true
  .have:=Sg h2 h
   rw[Xc (by omega) (by omega)];by_cases h3:b.tokens=0<;>simp[h1,h2,h3]
  .simp[h1,h2]
 .simp[h1]
theorem Yk2 (b:Zk) {c:Zi} {m:Ze} (h:Q5 c m=true):pY b m=some (F6 b m):=by
 unfold pY pX F6;rw[Z6o,Ag];by_cases h1:(m.prio&&Y1 b m)=true
 .have h2:Y1 b m=true:=by simp only[Bg] at h1;exact h1.2
  have:=Sg h2 h;rw[Xc (by omega) (by omega)];by_cases h3:b.tokens=0<;>simp[h1,h3]
 .simp[h1]
theorem Ykt (b:Zk) {c:Zi} {m:Ze} (h:Q5 c m=true):lR b m=some (Sf b m):=by
 have hm:=Ng h;unfold lR lQ Sf;rw[sF b ⟨hm.1,hm.2.1⟩,Ag];by_cases h1:m.prio=true
 .by_cases h2:Y1 b m=true
  .have:=Sg h2 h
   simp only[h1,h2,if_true,LW];rw[Yj (by omega) (by omega),Gp,Vy]
  .simp[h1,h2]
 .simp[h1]
theorem Yj3 (b:Zk) {c:Zi} {m:Ze} (h:Q5 c m=true):o5 b m=some (Sf b m):=by
 unfold o5 Sf;rw[Z6o,Ag];by_cases h1:(m.prio&&Y1 b m)=true
 .have h2:Y1 b m=true:=by simp only[Bg] at h1;exact h1.2
  have h4:m.prio=true:=by simp only[Bg] at h1;exact h1.1
  have:=Sg h2 h;have h5:b.tokens<=m.cap:=by
   unfold Y1 at h2;rw[Aj h4] at h2;simp only[Bg,Bj] at h2;exact h2.1.2
  rw[Aj h1,Aj h1,Yj (by omega) (by omega)];by_cases h3:b.tokens < m.cap
  .rw[Aj (by simpa using h3),Int.min_eq_left (by omega)]
  .rw[Ak (by simpa using h3),Int.min_eq_right (by omega)]
   have:b.tokens=m.cap:=by omega
   rw[<-this]
 .rw[Ak h1,Ak h1]
theorem Yn6 (m:Ze):kK m=some (LD m):=by
 unfold kK LD;rw[Nf,Int.max_comm];by_cases h1:m.prio=true<;>simp[h1]
theorem Yoo (m:Ze):oL m=some (LD m):=by
 unfold oL LD;rw[Nf];by_cases h1:m.prio=true<;>simp[h1]
theorem Xby {c:Zi} {m:Ze} (h:Q5 c m=true) (hs:0 < Jf c/\(m.prio=true->0 < Kb c)):Y1 (LD m) m=true:=by
 have hm:=Ng h;unfold Y1 LD;by_cases h1:m.prio=true
 .simp only[h1,if_true,Bg,Bj]
  simp only[Q5,h1,if_true,Bg,Bj] at h;have h2:0 < Jf c*(Kb c:Int):=Int.mul_pos hs.1 (by have:=hs.2 h1;omega);have h3:2*Jf c*(Kb c:Int)=2*(Jf c*(Kb c:Int)):=Int.mul_assoc ..;omega
 .simp[h1]
theorem Xao {b:Zk} {c:Zi} {m:Ze} (h:Y1 b m=true) (hm:Q5 c m=true):Y1 (JO b m) m=true:=by
 have hb:=Ng hm;have hn:=Sg h hm;unfold JO;split
 .rename_i h1
  simp only[Bg] at h1;unfold Y1 at h;rw[Aj h1.1] at h;simp only[Bg,Bj] at h;split
  .unfold Y1
   rw[Aj h1.1];simp only[Bg,Bj];omega
  .unfold Y1
   rw[Aj h1.1];simp only[Bg,Bj];omega
 .exact h
theorem Xa6 {b:Zk} {c:Zi} {m:Ze} (h:Y1 b m=true) (hm:Q5 c m=true):Y1 (F6 b m).1 m=true:=by
 unfold F6;split
 .rename_i h1
  simp only[Bg,Bj] at h1;unfold Y1 at h ⊢;rw[Aj h1.1.1] at h ⊢;simp only[Bg,Bj] at h ⊢;omega
 .exact h
theorem Y9k {b:Zk} {c:Zi} {m:Ze} (h:Y1 b m=true) (hm:Q5 c m=true):Y1 (Sf b m) m=true:=by
 have hb:=Ng hm;unfold Sf;split
 .rename_i h1
  simp only[Bg] at h1;unfold Y1 at h ⊢;rw[Aj h1.1] at h ⊢;simp only[Bg,Bj] at h ⊢;omega
 .exact h
def CF (w:Ya) (c:Zi):Bool:=Ys c&&(Zm c w.at_&&decide (0<=w.Be/\w.Be<=FQ c w.at_))
theorem Z81 (w:Ya) (c:Zi) (hl:c.Ab.length < 1048577):T9 w c=some (CF w c):=by
 unfold T9 CF;rw[Se c hl,Ag,Xu,Ag,dI _ hl,sE c _ hl,Ag,Xu,Ag];by_cases h1:Ys c=true<;>by_cases h2:Zm c w.at_=true<;>simp[h1,h2]
theorem Z90 (w:Ya) (c:Zi) (hl:c.Ab.length < 1048577):RM w c=some (CF w c):=by
 unfold RM CF;rw[U8 c hl,Ag,LC c _ hl,Ag,Z51 c _ hl,Ag,Wp,Ag];by_cases h1:Ys c=true<;>by_cases h2:Zm c w.at_=true<;>simp[h1,h2]
def JP (w:Ya) (c:Zi) (wants:List Bool):Nat->Int->Ya×Int
 | 0,_=>(⟨w.at_,0⟩,-1)
 | r+1,k=>if Ai wants ((w.at_+k) % (wants.length:Int))=true then (⟨(w.at_+k) % (wants.length:Int),FQ c ((w.at_+k) % (wants.length:Int)) - 1⟩,(w.at_+k) % (wants.length:Int)) else JP w c wants r (k+1)
def F7 (w:Ya) (c:Zi) (wants:List Bool):Ya×Int:=if (decide (0 < w.Be)&&Ai wants w.at_)=true then (⟨w.at_,w.Be - 1⟩,w.at_) else JP w c wants wants.length 1
def Sh (w:Ya) (c:Zi) (Ah:Int):Ya:=if w.at_=Ah then ⟨w.at_,min (w.Be+1) (FQ c Ah)⟩ else w
theorem OK {w:Ya} {c:Zi} (h:CF w c=true):Ys c=true/\Zm c w.at_=true/\0<=w.Be/\w.Be<=FQ c w.at_:=by
 simp only[CF,Bg,Bj] at h;exact⟨h.1,h.2.1,h.2.2.1,h.2.2.2⟩
theorem Yz8 (w:Ya) (c:Zi) (wants:List Bool) (h:CF w c=true) (hn:wants.length=c.Ab.length):∀(m r:Nat) (k:Int),r < m->k+r=wants.length+1->1<=k->pZ w c wants m k=some (JP w c wants r k)/\mK w c wants m k=some (JP w c wants r k):=by
 obtain⟨hc,hm,h1,h2⟩:=OK h;have hl:=Kq hc;have CI:=Gq hc;simp only[Zm,Bj] at hm;intro m
 induction m with
 | zero=>intro r k hr;omega
 | succ m ih=>
  intro r k hr hk h1k;show Ztx w c wants _ k=_/\zY w c wants _ k=_;unfold Ztx zY;rw[<-hn];cases r with
  | zero=>
   rw[Ak (by simp;omega),Ak (by simp;omega)];exact⟨rfl,rfl⟩
  | succ r=>
   have h0:0<=(w.at_+k) % (wants.length:Int):=Te _ (by omega);have jJ:(w.at_+k) % (wants.length:Int) < (wants.length:Int):=Tb _ (by omega);have dK:Zm c ((w.at_+k) % (wants.length:Int))=true:=by
    simp only[Zm,Bj];omega
   have ht:=sD hc dK;rw[Aj (by simp;omega),Aj (by simp;omega),OJ (by omega),Ag,Ag,Yj (a:=w.at_) (by omega) (by omega),Hy (by omega),Xm h0 jJ,Ag,Ag,Z51 c _ CI,sE c _ CI,Ag,Xc (by omega) (by omega),Yj (a:=k) (by omega) (by omega)];have:=ih r (k+1) (by omega) (by omega) (by omega);simp only[JP];by_cases hq:Ai wants ((w.at_+k) % (wants.length:Int))=true
   .simp[hq]
   .simp only[hq,if_false,Bn]
    exact this
theorem Ytw (w:Ya) (c:Zi) (wants:List Bool) (h:CF w c=true) (hn:wants.length=c.Ab.length):p7 w c wants=some (F7 w c wants):=by
 obtain⟨hc,hm,h1,h2⟩:=OK h;have hl:=Kq hc;have CI:=Gq hc;simp only[Zm,Bj] at hm;have hs:=(Yz8 w c wants h hn FU wants.length 1 (by have:=Y5;omega) (by omega) (by omega)).1;have ht:=U9 c w.at_;unfold p7 p6 p5 F7;rw[Z90 w c CI,Ag,h,Xm hm.1 (by omega),Ag,hs,Xc (by omega) (by omega)];have h3:¬((wants.length:Int)≠(c.Ab.length:Int)):=by omega
 by_cases h4:0 < w.Be<;>by_cases h5:Ai wants w.at_=true<;>simp[h3,h4,h5]
theorem Yug (w:Ya) (c:Zi) (wants:List Bool) (h:CF w c=true) (hn:wants.length=c.Ab.length):mN w c wants=some (F7 w c wants):=by
 obtain⟨hc,hm,h1,h2⟩:=OK h;have hl:=Kq hc;have CI:=Gq hc;simp only[Zm,Bj] at hm;have hs:=(Yz8 w c wants h hn FU wants.length 1 (by have:=Y5;omega) (by omega) (by omega)).2;have ht:=U9 c w.at_;unfold mN mM mL F7;rw[Z81 w c CI,Ag,h,Xm hm.1 (by omega),Ag,hs,Xc (by omega) (by omega)];have h3:¬((wants.length:Int)≠(c.Ab.length:Int)):=by omega
 by_cases h4:0 < w.Be<;>by_cases h5:Ai wants w.at_=true<;>simp[h3,h4,h5]
theorem Yvq (w:Ya) (c:Zi) (Ah:Int) (h:CF w c=true):lT w c Ah=some (Sh w c Ah):=by
 obtain⟨hc,hm,h1,h2⟩:=OK h;have CI:=Gq hc;have ht:=U9 c w.at_;unfold lT lS Sh;rw[Z81 w c CI,Ag,h,sE c _ CI,Ag,Yj (by omega) (by omega),Gp,Vy];by_cases h4:w.at_=Ah<;>simp[h4]
theorem Yu6 (w:Ya) (c:Zi) (Ah:Int) (h:CF w c=true):o7 w c Ah=some (Sh w c Ah):=by
 obtain⟨hc,hm,h1,h2⟩:=OK h;have CI:=Gq hc;have ht:=U9 c w.at_;unfold o7 o6 Sh;rw[Z90 w c CI,Ag,h,Z51 c _ CI,Ag,Yj (by omega) (by omega),Gp];by_cases h4:w.at_=Ah
 .simp[h4]
 .have:¬Ah=w.at_:=λh=>h4 h.symm
  simp[h4,this]
theorem Y8m {w:Ya} {c:Zi} (Ah:Int) (h:CF w c=true):CF (Sh w c Ah) c=true:=by
 obtain⟨hc,hm,h1,h2⟩:=OK h;unfold Sh;split
 .rename_i h4
  subst h4;have ht:=U9 c w.at_;simp only[CF,Bg,Bj];exact⟨hc,hm,by omega,by omega⟩
 .exact h
theorem Y7x {w:Ya} {c:Zi} {wants:List Bool} (h:CF w c=true) (hn:wants.length=c.Ab.length):∀(r:Nat) (k:Int),1<=k->CF (JP w c wants r k).1 c=true/\((JP w c wants r k).2=-1\/(Zm c (JP w c wants r k).2=true/\Ai wants (JP w c wants r k).2=true)):=by
 obtain⟨hc,hm,h1,h2⟩:=OK h;have hl:=Kq hc;intro r
 induction r with
 | zero=>
  intro k _;refine⟨?_,.inl rfl⟩;simp only[JP];simp only[CF,Bg,Bj];exact⟨hc,hm,by omega,by omega⟩
 | succ r ih=>
  intro k hk;simp only[JP];split
  .rename_i hq
   have h0:0<=(w.at_+k) % (wants.length:Int):=Te _ (by omega);have jJ:(w.at_+k) % (wants.length:Int) < (wants.length:Int):=Tb _ (by omega);have dK:Zm c ((w.at_+k) % (wants.length:Int))=true:=by
    simp only[Zm,Bj];omega
   have ht:=sD hc dK;refine⟨?_,.inr ⟨dK,hq⟩⟩;simp only[CF,Bg,Bj];exact⟨hc,dK,by omega,by omega⟩
  .exact ih (k+1) (by omega)
theorem Y8u {w:Ya} {c:Zi} {wants:List Bool} (h:CF w c=true) (hn:wants.length=c.Ab.length):CF (F7 w c wants).1 c=true/\((F7 w c wants).2=-1\/(Zm c (F7 w c wants).2=true/\Ai wants (F7 w c wants).2=true)):=by
 obtain⟨hc,hm,h1,h2⟩:=OK h;unfold F7;split
 .rename_i h3
  simp only[Bg,Bj] at h3;refine⟨?_,.inr ⟨hm,h3.2⟩⟩;simp only[CF,Bg,Bj];exact⟨hc,hm,by omega,by omega⟩
 .exact Y7x h hn _ _ (by omega)
def Y2 (s:Int):Int:=if s=0 then 1 else if s=1 then 2 else if s=2 then 4 else 0
def Gr (s:Int):Int:=if s=0 then 256 else if s=1 then 65536 else if s=2 then 4294967296 else 0
def Xy (b:Int):Int:=if b=0 then 1 else if b=1 then 4 else if b=2 then 4 else if b=3 then 8 else 0
theorem OL (s:Int):0<=Y2 s/\Y2 s<=4:=by unfold Y2;repeat' split<;>omega
theorem UA (s:Int):0<=Gr s/\Gr s<=4294967296:=by unfold Gr;repeat' split<;>omega
theorem OM (b:Int):0<=Xy b/\Xy b<=8:=by unfold Xy;repeat' split<;>omega
theorem Nh (s:Int):HV s=some (Y2 s):=by
 unfold HV;rw[Xu,Ag];by_cases h:0<=s/\s<=2
 .have:s=0\/s=1\/s=2:=by omega
  rcases this with rfl|rfl|rfl<;>rfl
 .have:Y2 s=0:=by unfold Y2;repeat' split<;>omega
  simp[h,this]
theorem UB (s:Int):JG s=some (Y2 s):=by
 rw[<-Nh];unfold JG HV;rw[Wp,Xu]
theorem UC (b:Int):Lu b=some (Xy b):=by
 unfold Lu;rw[Xu,Ag];by_cases h:0<=b/\b<=3
 .have:b=0\/b=1\/b=2\/b=3:=by omega
  rcases this with rfl|rfl|rfl|rfl<;>rfl
 .have:Xy b=0:=by unfold Xy;repeat' split<;>omega
  simp[h,this]
theorem sG (b:Int):RD b=some (Xy b):=by
 rw[<-UC];unfold RD Lu;rw[Wp,Xu]
theorem Ni (s:Int):Kf s=some (Gr s):=by
 unfold Kf;rw[Nh,Ag,Ag];by_cases h:s=0\/s=1\/s=2
 .rcases h with rfl|rfl|rfl<;>rfl
 .have h1:Y2 s=0:=by unfold Y2;repeat' split<;>omega
  have h2:Gr s=0:=by unfold Gr;repeat' split<;>omega
  simp[h1,h2]
theorem Ycm (s:Int):aY s=some (Gr s):=by
 rw[<-Ni];unfold aY Kf;simp only[UB,Nh]
def Y8 (v s:Int):Bool:=decide (0<=v/\v < Gr s)
theorem Si (v s:Int):L4 v s=some (Y8 v s):=by
 have:=UA s;unfold L4 Y8;rw[Ycm,Ag,Wp,Ag,Xc (by omega) (by omega)]
 congr 2
 apply propext;omega
theorem Sj (v s:Int):Z2 v 0 (Xf (Gr s) 1)=some (Y8 v s):=by
 have:=UA s;unfold Y8;rw[Xu,Xc (by omega) (by omega)]
 congr 2
 apply propext;omega
def Xv (a s:Int):Bool:=decide (0 < Y2 s)&&(decide (0<=a)&&decide (a % Y2 s=0))
theorem sH (a s:Int):Lv a s=some (Xv a s):=by
 unfold Lv Xv;rw[Nh,Ag,Ag];by_cases h1:0 < Y2 s
 .by_cases h2:0<=a
  .rw[OJ (by omega),Hy h2];simp[h1,h2]
  .simp[h1,h2]
 .simp[h1]
theorem UD (s:Int):0 < Y2 s↔(0<=s/\s<=2):=by
 unfold Y2
 repeat' split<;>omega
theorem sI (a s:Int):RE a s=some (Xv a s):=by
 unfold RE Xv;rw[Wp,Ag,UB,Ag];by_cases h1:0 < Y2 s
 .have h3:=(UD s).1 h1
  by_cases h2:0<=a
  .rw[OJ (by omega),Hy h2];simp[h1,h2,h3]
  .simp[h1,h2,h3]
 .have h3:¬(0<=s/\s<=2):=λh=>h1 ((UD s).2 h)
  simp[h1,h3]
def FR (a s b:Int):Int:=if (Xv a s=true/\a < 512)/\Xy b≠0 then (if b=2/\(a+Y2 s) % (4*Y2 s)=0 then a+Y2 s - 4*Y2 s else a+Y2 s) else -1
theorem Jq {a s:Int} (h:Xv a s=true):0 < Y2 s/\0<=a/\a % Y2 s=0:=by
 simpa [Xv,Bg,Bj] using h
theorem Yqx (a s b:Int):ZI a s b=some (FR a s b):=by
 have hb:=OL s;unfold ZI ZH kQ FR;rw[Nh,Ag,sH,Ag,Xu,Ag,UC,Ag];by_cases h1:Xv a s=true
 .obtain⟨h2,h3,h4⟩:=Jq h1
  by_cases h5:a < 512
  .have h6:0<=a/\a<=511:=by omega
   rw[Jt (by omega) (by omega),Yj (by omega) (by omega),Xc (by omega) (by omega),OJ (by omega),Hy (by omega)];by_cases h7:Xy b=0
   .simp[h1,h5,h6,h7]
   .by_cases h8:b=2
    .subst h8
     by_cases h9:(a+Y2 s) % (4*Y2 s)=0<;>simp[h1,h5,h6,h7,h9]
    .simp[h1,h5,h6,h7,h8]
  .have h6:¬(0<=a/\a<=511):=by omega
   simp[h1,h5,h6]
 .simp[h1]
theorem Yrj (a s b:Int):nZ a s b=some (FR a s b):=by
 have hb:=OL s;unfold nZ aV FR;rw[sI,Ag,UB,Ag,Ag,sG,Ag];by_cases h1:Xv a s=true
 .obtain⟨h2,h3,h4⟩:=Jq h1
  by_cases h5:a < 512
  .have h6:¬a≥512:=by omega
   rw[Jt (by omega) (by omega),Yj (by omega) (by omega),Xc (by omega) (by omega),OJ (by omega),Hy (by omega)];by_cases h7:Xy b=0
   .simp[h1,h5,h6,h7]
   .by_cases h8:b=2
    .subst h8
     by_cases h9:(a+Y2 s) % (4*Y2 s)=0<;>simp[h1,h5,h6,h7,h9]
    .simp[h1,h5,h6,h7,h8]
  .have h6:a≥512:=by omega
   simp[h1,h5,h6]
 .simp[h1]
theorem Yxj {a s b:Int} (h:0<=FR a s b):Xv a s=true/\a < 512:=by
 unfold FR at h;split at h
 .rename_i h1;exact h1.1
 .omega
def EB (s b:Int):Nat->Int->Option (List Int)
 | 0,_=>some []
 | n+1,a=>if FR a s b < 0 then none else (EB s b n (FR a s b)).map (a::·)
def Kl (a s b:Int):List Int:=(EB s b (Xy b).toNat a).getD []
theorem Z5m (a s b:Int):aX a s b=some (Kl a s b):=by
 have hb:=OM b;unfold aX;rw[sG,Ag];have key:∀(n m:Nat) (x:Int) (out:List Int) (k:Nat),n < m->(k:Int)+n=Xy b->out.length=k->oA a s b m x out (Xy b) k=some (match EB s b n x with|some l=>out++l|none=>[]):=by
  intro n
  induction n with
  | zero=>
   intro m x out k hm hk ho;obtain⟨m,rfl⟩:∃m',m=m'+1:=⟨m - 1,by omega⟩;show aW a s b _ x out (Xy b) k=_;unfold aW;rw[Ak (by simp;omega)];simp[EB]
  | succ n ih=>
   intro m x out k hm hk ho;obtain⟨m,rfl⟩:∃m',m=m'+1:=⟨m - 1,by omega⟩;show aW a s b _ x out (Xy b) k=_;unfold aW;rw[Aj (by simp;omega),Yrj,Ag];simp only[EB];by_cases h1:FR x s b < 0
   .rw[Aj (by simpa using h1),Aj h1]
   .rw[Ak (by simpa using h1),Ak h1,Yp (by simp;omega) (by simp;omega),Ag,Ye (by omega),ih m _ _ (k+1) (by omega) (by omega) (by simp[ho])]
    cases EB s b n (FR x s b)<;>simp
 have:=key (Xy b).toNat FU a [] 0 (by have:=Y5;omega) (by omega) rfl;rw[show ((0:Nat):Int)=0 from rfl] at this;rw[this];unfold Kl;cases EB s b (Xy b).toNat a<;>simp
theorem Z37 (a s b:Int):ZL a s b=some (Kl a s b):=by
 have hb:=OM b;unfold ZL;have key:∀(n m:Nat) (x:Int) (out:List Int),n < m->(out.length:Int)+n=Xy b->kR a s b m x out=some (match EB s b n x with|some l=>out++l|none=>[]):=by
  intro n
  induction n with
  | zero=>
   intro m x out hm hk;obtain⟨m,rfl⟩:∃m',m=m'+1:=⟨m - 1,by omega⟩;show ZK a s b _ x out=_;unfold ZK ZJ;have h1:¬((out.length:Int) < Xy b):=by omega
   simp[UC,h1,EB]
  | succ n ih=>
   intro m x out hm hk;obtain⟨m,rfl⟩:∃m',m=m'+1:=⟨m - 1,by omega⟩;show ZK a s b _ x out=_;unfold ZK ZJ;have h1:(out.length:Int) < Xy b:=by omega
   simp only[UC,Yqx,Ag,h1,decide_true,if_true,EB,Bj];by_cases h2:FR x s b < 0
   .have h3:¬(FR x s b≥0):=by omega
    rw[Ak h3,Aj h2]
   .have h3:FR x s b≥0:=by omega
    rw[Aj h3,Ak h2,Yp (by simp;omega) (by simp;omega),Ag,ih m _ _ (by omega) (by simp;omega)];cases EB s b n (FR x s b)<;>simp
 have:=key (Xy b).toNat FU a [] (by have:=Y5;omega) (by simp;omega);rw[this];unfold Kl;cases EB s b (Xy b).toNat a<;>simp
theorem Yb5 {s b:Int}:∀{n:Nat} {a:Int} {l:List Int},EB s b n a=some l->l.length=n/\(∀x∈l,Xv x s=true/\x < 512)/\(0 < n->l.head?=some a):=by
 intro n
 induction n with
 | zero=>intro a l h;simp only[EB,AB] at h;subst h;simp
 | succ n ih=>
  intro a l h;simp only[EB] at h;split at h
  .cases h
  .rename_i h1
   obtain⟨l',h2,rfl⟩:=AL.1 h;obtain⟨h3,h4,_⟩:=ih h2;refine⟨by simp[h3],λx hx=>?_,λ_=>rfl⟩;rcases Ce.1 hx with rfl|hx
   .exact Yxj (s:=s) (b:=b) (by omega)
   .exact h4 x hx
theorem Ylr (a s b:Int):Kl a s b=[]\/((Kl a s b).length:Int)=Xy b:=by
 unfold Kl;have hb:=OM b;cases h:EB s b (Xy b).toNat a with
 | none=>exact .inl rfl
 | some l=>
  have:=(Yb5 h).1;exact .inr (by simp only[Ga];omega)
theorem dL {a s b x:Int} (h:x∈Kl a s b):Xv x s=true/\0<=x/\x < 512:=by
 unfold Kl at h;cases h2:EB s b (Xy b).toNat a with
 | none=>rw[h2] at h;simp at h
 | some l=>
  rw[h2] at h;have:=(Yb5 h2).2.1 x h;exact⟨this.1,(Jq this.1).2.1,this.2⟩
theorem Ypb (a s b:Int):(Kl a s b).length<=8:=by
 have:=OM b;rcases Ylr a s b with h|h
 .rw[h];simp
 .omega
def F8 (a s b:Int):Bool:=(Kl a s b).all (λx=>decide (x / 64=Ai (Kl a s b) 0 / 64))&&decide (Kl a s b≠[])
theorem sJ {x:Int} (h0:0<=x) (h1:x < 512):Fw x 64=x / 64:=rZ h0 (by omega) (by omega)
theorem Ysi (a s b:Int):oD a s b=some (F8 a s b):=by
 unfold oD F8;rw[Z5m,Ag];generalize hA:Kl a s b=l;have hm:∀x∈l,0<=x/\x < 512:=λx hx=>by rw[<-hA] at hx;exact (dL hx).2
 have hl:l.length<=8:=by rw[<-hA];exact Ypb a s b
 have key:∀(m k:Nat),k<=l.length->l.length - k < m->oC a s b m l (l.length:Int) k=some ((l.drop k).all (λx=>decide (x / 64=Ai l 0 / 64))&&decide (l≠[])):=by
  intro m
  induction m with
  | zero=>intro k _ h;omega
  | succ m ih=>
   intro k hk La;show Zt2 a s b _ l (l.length:Int) k=_;unfold Zt2;by_cases hc:k < l.length
   .have h0:=hm _ (B5 hc)
    have h1:=hm _ (B5 (by omega:0 < l.length));rw[Aj (by simpa using hc),Zx hc,Ag,show (0:Int)=((0:Nat):Int) from rfl,Zx (by omega:0 < l.length),Ag,sJ h0.1 h0.2,sJ h1.1 h1.2,Qk (by omega:0 < l.length),D5 hc,DW];by_cases hq:(l[k]:Int) / (64:Int)=(l[0]:Int) / (64:Int)
    .rw[Ak (by simpa using hq),Ye (by omega),ih (k+1) (by omega) (by omega),show (0:Int)=((0:Nat):Int) from rfl,Qk (by omega:0 < l.length),decide_eq_true hq,Hd]
    .rw[Aj (by simpa using hq),decide_eq_false hq,Iq,Iq]
   .rw[Ak (by simpa using hc),EZ (by omega)]
    simp[Cw]
 have:=key FU 0 (Cf _) (by have:=Y5;omega);simpa using this
theorem Yub (a s b:Int):kT a s b=some (F8 a s b):=by
 unfold kT F8;rw[Z37,Ag];generalize hA:Kl a s b=l;have hm:∀x∈l,0<=x/\x < 512:=λx hx=>by rw[<-hA] at hx;exact (dL hx).2
 have hl:l.length<=8:=by rw[<-hA];exact Ypb a s b
 have key:∀(m k:Nat),k<=l.length->l.length - k < m->kS a s b m l k=some ((l.drop k).all (λx=>decide (x / 64=Ai l 0 / 64))&&decide (l≠[])):=by
  intro m
  induction m with
  | zero=>intro k _ h;omega
  | succ m ih=>
   intro k hk La;show zR a s b _ l k=_;unfold zR;by_cases hc:k < l.length
   .have h0:=hm _ (B5 hc)
    have h1:=hm _ (B5 (by omega:0 < l.length));rw[Aj (by simpa using hc),Zx hc,Ag,show (0:Int)=((0:Nat):Int) from rfl,Zx (by omega:0 < l.length),Ag,sJ h0.1 h0.2,sJ h1.1 h1.2,Qk (by omega:0 < l.length),D5 hc,DW];by_cases hq:(l[k]:Int) / (64:Int)=(l[0]:Int) / (64:Int)
    .rw[Ak (by simpa using hq),Ye (by omega),ih (k+1) (by omega) (by omega),show (0:Int)=((0:Nat):Int) from rfl,Qk (by omega:0 < l.length),decide_eq_true hq,Hd]
    .rw[Aj (by simpa using hq),decide_eq_false hq,Iq,Iq]
   .rw[Ak (by simpa using hc),EZ (by omega)]
    simp[Cw]
 have:=key FU 0 (Cf _) (by have:=Y5;omega);simpa using this
instance:Inhabited Zj:=⟨Zj.z0⟩
def W6 (r:Zj):Bool:=F8 r.addr r.size r.Ay&&(decide ((r.Aa.length:Int)=if r.write then Xy r.Ay else 0)&&r.Aa.all λv=>Y8 v r.size)
def Zj.sm (r:Zj):Prop:=r.Aa.length < 1048577
theorem sK (r:Zj) (hs:r.sm):O6 r=some (W6 r):=by
 unfold Zj.sm at hs;have hf:Qd r.Aa r=some (!r.Aa.all λv=>Y8 v r.size):=by
  unfold Qd J6;refine sA r.Aa (by omega) (λv=>oF v r) (λv=>Y8 v r.size) (λv _=>?_) _ (λm i=>rfl);unfold oF;rw[Si];rfl
 unfold O6 oG W6;rw[sG,Ag,Ysi,Ag,hf,Ag,uP];by_cases h1:F8 r.addr r.size r.Ay=true
 .by_cases h2:r.write=true
  .by_cases h3:(r.Aa.length:Int)=Xy r.Ay<;>simp[h1,h2,h3]
  .by_cases h3:r.Aa=[]<;>simp[h1,h2,h3]
 .by_cases h2:r.write=true<;>simp[h1,h2]
theorem Z9l (r:Zj) (hs:r.sm):TA r=some (W6 r):=by
 unfold Zj.sm at hs;unfold TA;rw[Yub,Ag];have hb:=OM r.Ay;have key:∀(m k:Nat),k<=r.Aa.length->r.Aa.length - k < m->kU r m k=some (decide ((r.Aa.length:Int)=if r.write then Xy r.Ay else 0)&&(r.Aa.drop k).all λv=>Y8 v r.size):=by
  intro m
  induction m with
  | zero=>intro k _ h;omega
  | succ m ih=>
   intro k hk hm;show zS r _ k=_;unfold zS;by_cases hc:k < r.Aa.length
   .rw[Aj (by simpa using hc),Zx hc,Ag,Ni,Ag,Sj,Ag,D5 hc,DW]
    by_cases hq:Y8 r.Aa[k] r.size=true
    .rw[Ak (by simp[hq]),Ye (by omega),ih (k+1) (by omega) (by omega)]
     simp[hq]
    .rw[Aj (by simp[hq])]
     simp[hq]
   .rw[Ak (by simpa using hc),EZ (by omega),UC]
    cases h2:r.write<;>simp only[if_true,if_false,Bn,Ag,Vx,KK]<;>generalize decide ((r.Aa.length:Int)=0)=x<;>generalize decide ((r.Aa.length:Int)=Xy r.Ay)=y<;>cases x<;>cases y<;>rfl
 have:=key FU 0 (Cf _) (by have:=Y5;omega);unfold W6;by_cases h1:F8 r.addr r.size r.Ay=true
 .rw[Ak (by simp[h1]),show (0:Int)=((0:Nat):Int) from rfl,this]
  simp[h1]
 .rw[Aj (by simp[h1])]
  simp[h1]
theorem JQ {r:Zj} (h:W6 r=true):F8 r.addr r.size r.Ay=true/\(r.Aa.length:Int)=(if r.write then Xy r.Ay else 0)/\∀v∈r.Aa,Y8 v r.size=true:=by
 simp only[W6,Bg,Bj,Cd] at h;exact⟨h.1,h.2.1,h.2.2⟩
theorem ON {a s b:Int} (h:F8 a s b=true):((Kl a s b).length:Int)=Xy b/\1<=Xy b:=by
 simp only[F8,Bg,Bj] at h;rcases Ylr a s b with h1|h1
 .exact absurd h1 h.2
 .have:0 < (Kl a s b).length:=Cw.2 h.2
  omega
theorem dM {r:Zj} (h:W6 r=true):r.sm:=by
 have:=(JQ h).2.1;have hb:=OM r.Ay;unfold Zj.sm;split at this<;>omega
theorem Yeh (r:Zj) (hs:r.sm):RL r=some r:=by
 unfold Zj.sm at hs;unfold RL Xi;rw[Yp (by simp;omega) (by simp;omega)];rfl
theorem Ycg (r:Zj) (hs:r.sm):Rw r=some r:=by
 unfold Zj.sm at hs;unfold Rw;rw[Yp (by simp;omega) (by simp;omega)];rfl
instance:Inhabited Zg:=⟨Zg.z0⟩
def Zw (m:Zg):Int:=if m.queue=[] then 0 else Xy (Ai m.queue 0).Ay
theorem dN (m:Zg):0<=Zw m/\Zw m<=8:=by
 unfold Zw;have:=OM (Ai m.queue 0).Ay;split<;>omega
def OO (m:Zg):Bool:=decide (m.queue.length<=4)&&(decide (0<=m.tries)&&(m.queue.all W6&&
 (if m.queue=[] then decide (m.An=0)&&(decide (m.done=0)&&(decide (m.tries=0)&&(!m.Ax&&!m.broken))) else decide (0<=m.done/\m.done<=Zw m - 1)&&decide (m.done<=m.An/\m.An<=min (m.done+2) (Zw m)))))
def Zg.sm (m:Zg):Prop:=m.queue.length < 1048577/\∀r∈m.queue,r.sm
structure Yy (m:Zg):Prop where
 len:m.queue.length<=4
 tries:0<=m.tries
 reqs:∀r∈m.queue,W6 r=true
 none:m.queue=[]->m.An=0/\m.done=0/\m.tries=0/\m.Ax=false/\m.broken=false
 some:m.queue≠[]->0<=m.done/\m.done < Zw m/\m.done<=m.An/\m.An<=m.done+2/\m.An<=Zw m
theorem Gs {m:Zg}:OO m=true↔Yy m:=by
 unfold OO;by_cases h:m.queue=[]
 .constructor
  .intro h1
   simp only[h,if_true,Bg,Bj,N6] at h1;exact⟨by simp[h],h1.2.1,by simp[h],λ_=>⟨h1.2.2.2.1,h1.2.2.2.2.1,h1.2.2.2.2.2.1,h1.2.2.2.2.2.2.1,h1.2.2.2.2.2.2.2⟩,λh2=>absurd h h2⟩
  .intro h1
   obtain⟨h2,h3,h4,h5,h6⟩:=h1.none h;simp[h,h2,h3,h4,h5,h6]
 .constructor
  .intro h1
   rw[Ak h] at h1;simp only[Bg,Bj,Cd] at h1;exact⟨h1.1,h1.2.1,h1.2.2.1,λh2=>absurd h2 h,λ_=>by omega⟩
  .intro h1
   have h2:=h1.some h;rw[Ak h];simp only[Bg,Bj,Cd];exact⟨h1.len,h1.tries,h1.reqs,by omega,by omega⟩
theorem Yy.sm {m:Zg} (h:Yy m):m.sm:=⟨by have:=h.len;omega,λr hr=>dM (h.reqs r hr)⟩
theorem sL (m:Zg):O8 m=some (Zw m):=by
 unfold O8 Zw;by_cases h:m.queue=[]
 .simp[h]
 .have h1:0 < m.queue.length:=Cw.2 h
  rw[Ak (by simpa using h),Ak h,Xm (by omega) (by omega),Ag,sG];rfl
theorem sM (m:Zg):Ov m=some (Zw m):=by
 unfold Ov Zw;by_cases h:m.queue=[]
 .simp[h]
 .have h1:0 < m.queue.length:=Cw.2 h
  rw[Ak (by simpa using h),Ak h,Xm (by omega) (by omega),Ag,UC];rfl
theorem UE (m:Zg) (hs:m.sm):Jd m=some (OO m):=by
 have hf:Wh m.queue=some (!m.queue.all W6):=by
  unfold Wh Kg;refine sA m.queue (by have:=hs.1;omega) oQ W6 (λr hr=>?_) _ (λm i=>rfl);unfold oQ;rw[sK r (hs.2 r hr)];rfl
 have hb:=dN m;have hJ:Qh m false=some (if m.queue=[] then decide (m.An=0)&&(decide (m.done=0)&&(decide (m.tries=0)&&(!m.Ax&&!m.broken))) else decide (0<=m.done/\m.done<=Zw m - 1)&&decide (m.done<=m.An/\m.An<=min (m.done+2) (Zw m))):=by
  unfold Qh;rw[sL,Ag,Ag,Wp,Ag,Wp,Ag,Xc (by omega) (by omega)];by_cases h:m.queue=[]
  .rw[Ak (by simp),Aj (by simpa using h),Aj h]
   by_cases h1:m.An=0<;>by_cases h2:m.done=0<;>by_cases h3:m.tries=0<;>by_cases h4:m.Ax=true<;>simp[h1,h2,h3,h4]
  .rw[Ak (by simp),Ak (by simpa using h),Ak h]
   by_cases h1:0<=m.done/\m.done<=Zw m - 1
   .rw[Yj (by omega) (by omega),Gp]
    simp[h1]
   .simp[h1]
 unfold Jd OO;rw[hf,Ag];by_cases h1:(m.queue.length:Int) > 4
 .have h2:¬m.queue.length<=4:=by omega
  simp[h1,h2,Qh]
 .have h2:m.queue.length<=4:=by omega
  by_cases h3:m.tries < 0
  .have h4:¬0<=m.tries:=by omega
   simp[h1,h2,h3,h4,Qh]
  .have h4:0<=m.tries:=by omega
   rw[Ak (by simpa using h1),Ak (by simpa using h3)];by_cases h5:m.queue.all W6=true
   .rw[h5,Du,hJ]
    simp only[h2,h4,decide_true,Hd]
   .have h6:m.queue.all W6=false:=by simpa using h5
    rw[h6,FF];simp[Qh]
theorem UF (m:Zg) (hs:m.sm):MK m=some (OO m):=by
 have hb:=dN m;have hJ:Rt m false=some (if m.queue=[] then decide (m.An=0)&&(decide (m.done=0)&&(decide (m.tries=0)&&(!m.Ax&&!m.broken))) else decide (0<=m.done/\m.done<=Zw m - 1)&&decide (m.done<=m.An/\m.An<=min (m.done+2) (Zw m))):=by
  unfold Rt;rw[sM,Ag,Ag,Xu,Ag,Xu,Ag,Xc (by omega) (by omega)];by_cases h:m.queue=[]
  .rw[Ak (by simp),Aj (by simpa using h),Aj h]
   by_cases h1:m.An=0<;>by_cases h2:m.done=0<;>by_cases h3:m.tries=0<;>by_cases h4:m.Ax=true<;>simp[h1,h2,h3,h4]
  .rw[Ak (by simp),Ak (by simpa using h),Ak h]
   by_cases h1:0<=m.done/\m.done<=Zw m - 1
   .rw[Yj (by omega) (by omega),Gp]
    simp[h1]
   .simp[h1]
 unfold MK;have hl:=hs.1;have key:∀(n k:Nat),k<=m.queue.length->m.queue.length - k < n->kV m n k=some (decide (m.queue.length<=4)&&(decide (0<=m.tries)&&((m.queue.drop k).all W6&&
 (if m.queue=[] then decide (m.An=0)&&(decide (m.done=0)&&(decide (m.tries=0)&&(!m.Ax&&!m.broken))) else decide (0<=m.done/\m.done<=Zw m - 1)&&decide (m.done<=m.An/\m.An<=min (m.done+2) (Zw m)))))):=by
  intro n
  induction n with
  | zero=>intro k _ h;omega
  | succ n ih=>
   intro k hk hm;show zT m _ k=_;unfold zT;by_cases hc:k < m.queue.length
   .rw[Aj (by simpa using hc),Zx hc,Ag,Z9l _ (hs.2 _ (B5 hc)),Ag,D5 hc,DW]
    by_cases hq:W6 m.queue[k]=true
    .rw[Ak (by simp[hq]),Ye (by omega),ih (k+1) (by omega) (by omega)]
     simp[hq]
    .rw[Aj (by simp[hq])]
     simp[hq]
   .rw[Ak (by simpa using hc),EZ (by omega)]
    by_cases h1:(m.queue.length:Int) > 4
    .have h2:¬m.queue.length<=4:=by omega
     simp[h1,h2,Rt]
    .have h2:m.queue.length<=4:=by omega
     by_cases h3:m.tries < 0
     .have h4:¬0<=m.tries:=by omega
      simp[h1,h2,h3,h4,Rt]
     .have h4:0<=m.tries:=by omega
      rw[Ak (by simpa using h1),decide_eq_false h3,hJ];simp only[h2,h4,decide_true,Hd,Vx]
 have:=key FU 0 (Cf _) (by have:=Y5;omega);simpa [OO] using this
theorem dO (m:Zg) (hs:m.sm):OA m=some m:=by
 unfold OA;refine (Ypi 64 (by decide) m.queue hs.1 RL (λr hr=>Yeh r (hs.2 r hr)) (λv=>some {m with queue:=v}) (oW m) (λn v i=>rfl)).trans ?_;rfl
theorem dP (m:Zg) (hs:m.sm):Ox m=some m:=by
 unfold Ox;refine (Ypi 64 (by decide) m.queue hs.1 Rw (λr hr=>Ycg r (hs.2 r hr)) (λv=>some {m with queue:=v}) (lE m) (λn v i=>rfl)).trans ?_;rfl
def J3 (m:Zg) (r:Zj):Zg:=if W6 r=true/\m.queue.length≠4 then {m with queue:=m.queue++[r]} else m
def LF (m:Zg):Bool:=decide (m.An < Zw m)
def Xb (m:Zg) (b:Int):Int:=if 0<=b/\b<=Zw m - 1 then Ai (Kl (Ai m.queue 0).addr (Ai m.queue 0).size (Ai m.queue 0).Ay) b else -1
def X8 (m:Zg):Zg:=if m.An < Zw m/\m.An≠m.done+2 then {m with An:=m.An+1} else m
def Dp (m:Zg):Zg:=if m.An=m.done then m else {m with An:=m.An - 1}
def Jo (m:Zg):Zg:=if m.An=m.done then m else if m.done+1=Zw m then Zg.mk m.queue.tail 0 0 0 false false else Zg.mk m.queue m.An (m.done+1) 0 false m.broken
theorem Gt {m:Zg} (h:Yy m):0<=m.done/\m.done<=8/\0<=m.An/\m.An<=8:=by
 have hb:=dN m;by_cases hq:m.queue=[]
 .have:=h.none hq;omega
 .have:=h.some hq;omega
theorem sN {m:Zg} (h:Yy m) (hq:m.queue≠[]):W6 (Ai m.queue 0)=true/\Zw m=Xy (Ai m.queue 0).Ay/\1<=Zw m:=by
 have h1:0 < m.queue.length:=Cw.2 hq;have h2:W6 (Ai m.queue 0)=true:=h.reqs _ (Gn (by omega) (by omega));have h3:Zw m=Xy (Ai m.queue 0).Ay:=by unfold Zw;rw[Ak hq]
 exact⟨h2,h3,by rw[h3];exact (ON (JQ h2).1).2⟩
theorem Ytl {m:Zg} {b:Int} (h:Yy m) (h0:0<=b) (h1:b < Zw m):Xb m b∈Kl (Ai m.queue 0).addr (Ai m.queue 0).size (Ai m.queue 0).Ay/\Xv (Xb m b) (Ai m.queue 0).size=true/\0<=Xb m b/\Xb m b < 512:=by
 have hq:m.queue≠[]:=by
  intro hq;unfold Zw at h1;rw[Aj hq] at h1;omega
 obtain⟨h2,h3,h4⟩:=sN h hq;have h5:=(ON (JQ h2).1).1;have h6:Xb m b=Ai (Kl (Ai m.queue 0).addr (Ai m.queue 0).size (Ai m.queue 0).Ay) b:=by
  unfold Xb;rw[Aj (by omega)]
 have h7:=Gn (xs:=Kl (Ai m.queue 0).addr (Ai m.queue 0).size (Ai m.queue 0).Ay) h0 (by omega);rw[h6];have h8:=dL h7;exact⟨h7,h8.1,h8.2.1,h8.2.2⟩
theorem Sk {m:Zg} (b:Int) (h:Yy m):O9 m b=some (Xb m b):=by
 have hb:=dN m;unfold O9 oR;rw[UE m h.sm,Ag,Gs.2 h,sL,Ag,Wp,Ag,Xc (by omega) (by omega)];by_cases h1:0<=b/\b<=Zw m - 1
 .have hq:m.queue≠[]:=by
   intro hq;unfold Zw at h1;rw[Aj hq] at h1;omega
  obtain⟨h2,h3,h4⟩:=sN h hq;have h5:=(ON (JQ h2).1).1;have h6:0 < m.queue.length:=Cw.2 hq;rw[Xm (by omega) (by omega),Ag,Z5m,Ag,Xm h1.1 (by omega)];simp[h1,Xb]
 .simp[h1,Xb]
theorem UG {m:Zg} (b:Int) (h:Yy m):Rx m b=some (Xb m b):=by
 have hb:=dN m;unfold Rx lG;rw[UF m h.sm,Ag,Gs.2 h,sM,Ag,Xu,Ag,Xc (by omega) (by omega)];by_cases h1:0<=b/\b<=Zw m - 1
 .have hq:m.queue≠[]:=by
   intro hq;unfold Zw at h1;rw[Aj hq] at h1;omega
  obtain⟨h2,h3,h4⟩:=sN h hq;have h5:=(ON (JQ h2).1).1;have h6:0 < m.queue.length:=Cw.2 hq;rw[Xm (by omega) (by omega),Ag,Z37,Ag,Xm h1.1 (by omega)];simp[h1,Xb]
 .simp[h1,Xb]
theorem Yan {m:Zg} (h:Yy m):bV m=some (LF m):=by
 unfold bV LF;rw[UE m h.sm,Ag,Gs.2 h,sL];rfl
theorem Yax {m:Zg} (h:Yy m):aC m=some (LF m):=by
 unfold aC LF;rw[UF m h.sm,Ag,Gs.2 h,sM];rfl
theorem Ys2 {m:Zg} {r:Zj} (h:Yy m) (hr:r.sm):∃b,oX m r=some (J3 m r,b):=by
 have hl:=h.len;unfold oX bG J3;rw[dO m h.sm,Ag,UE m h.sm,Ag,Gs.2 h,sK r hr,Ag,Yeh r hr,Ag,Yp (by simp;omega) (by simp;omega),Ag];by_cases h1:W6 r=true
 .by_cases h2:m.queue.length=4
  .simp[h1,h2]
  .have h3:¬((m.queue.length:Int)=4):=by omega
   simp[h1,h2,h3]
 .simp[h1]
theorem Yua {m:Zg} {r:Zj} (h:Yy m) (hr:r.sm):∃b,lL m r=some (J3 m r,b):=by
 have hl:=h.len;unfold lL ZS J3;rw[dP m h.sm,Ag,UF m h.sm,Ag,Gs.2 h,Z9l r hr,Ag,Ycg r hr,Ag,Yp (by simp;omega) (by simp;omega),Ag];by_cases h1:W6 r=true
 .by_cases h2:m.queue.length=4
  .simp[h1,h2]
  .have h3:¬((m.queue.length:Int)=4):=by omega
   simp[h1,h2,h3]
 .simp[h1]
theorem Yrb {m:Zg} (h:Yy m):∃b,qD m=some (X8 m,b):=by
 have hb:=Gt h;unfold qD qC X8;rw[dO m h.sm,Ag,Yan h,Ag,Yj (a:=m.done) (by omega) (by omega),Yj (by omega) (by omega)];unfold LF;by_cases h1:m.An < Zw m
 .by_cases h2:m.An=m.done+2<;>simp[h1,h2]
 .simp[h1]
theorem Yq9 {m:Zg} (h:Yy m):∃b,mJ m=some (X8 m,b):=by
 have hb:=Gt h;unfold mJ mI X8;rw[dP m h.sm,Ag,Yax h,Ag,Yj (a:=m.done) (by omega) (by omega),Yj (by omega) (by omega)];unfold LF;by_cases h1:m.An < Zw m
 .by_cases h2:m.An=m.done+2<;>simp[h1,h2]
 .simp[h1]
theorem Yvf {m:Zg} (h:Yy m):∃b,o4 m=some (Dp m,b):=by
 have hb:=Gt h;unfold o4 oZ Dp;rw[dO m h.sm,Ag,UE m h.sm,Ag,Gs.2 h,Xc (by omega) (by omega)];by_cases h1:m.An=m.done<;>simp[h1]
theorem Yvt {m:Zg} (h:Yy m):∃b,lP m=some (Dp m,b):=by
 have hb:=Gt h;unfold lP lO Dp;rw[dP m h.sm,Ag,UF m h.sm,Ag,Gs.2 h,Xc (by omega) (by omega)];by_cases h1:m.An=m.done<;>simp[h1]
theorem sO {α:Type} (xs:List α) (h:xs≠[]) (hl:xs.length < 1048577):Yt xs 1 (xs.length:Int)=some xs.tail:=by
 have h1:0 < xs.length:=Cw.2 h;unfold Yt;rw[Aj ⟨by omega,by omega,by omega⟩]
 congr 1
 rw[D6 (by simp),<-List.drop_one];rfl
theorem LG {m:Zg} (h:Yy m) (hb:m.An≠m.done):m.queue≠[]:=by
 intro hq;have:=h.none hq;omega
theorem Yxg {m:Zg} (h:Yy m):∃b,pO m=some (Jo m,b):=by
 have hb:=Gt h;have hl:=h.len;unfold pO pN Jo;rw[dO m h.sm,Ag,UE m h.sm,Ag,Gs.2 h,Yj (by omega) (by omega),sL,Ag];have e:Zw {m with done:=m.done+1}=Zw m:=rfl;rw[e];by_cases h1:m.An=m.done
 .simp[h1]
 .rw[sO _ (LG h h1) (by omega),Ag]
  by_cases h2:m.done+1=Zw m<;>simp[h1,h2]
theorem Yxn {m:Zg} (h:Yy m):∃b,mC m=some (Jo m,b):=by
 have hb:=Gt h;have hl:=h.len;unfold mC mB Jo;rw[dP m h.sm,Ag,UF m h.sm,Ag,Gs.2 h,Yj (by omega) (by omega),sM,Ag];by_cases h1:m.An=m.done
 .simp[h1]
 .rw[sO _ (LG h h1) (by omega),Ag]
  by_cases h2:m.done+1=Zw m<;>simp[h1,h2]
theorem Yg7 {m:Zg} {r:Zj} (h:m.queue≠[]):Ai (m.queue++[r]) 0=Ai m.queue 0:=by
 cases hq:m.queue with
 | nil=>exact absurd hq h
 | cons a l=>rfl
theorem Y29 {m:Zg} {r:Zj} (h:Yy m):Yy (J3 m r):=by
 unfold J3;split
 .rename_i h1
  have hl:=h.len;have Yg:m.queue++[r]≠[]:=by simp
  refine⟨by simp;omega,h.tries,λx hx=>?_,λhx=>absurd hx Yg,λ_=>?_⟩
  .rcases BU.1 hx with hx|hx
   .exact h.reqs x hx
   .rw[List.mem_singleton.1 hx];exact h1.1
  .by_cases hq:m.queue=[]
   .obtain⟨h2,h3,h4,h5,h6⟩:=h.none hq
    have hm:Zw {m with queue:=m.queue++[r]}=Xy r.Ay:=by
     unfold Zw;rw[Ak Yg];simp[hq,Ai]
    have:=(ON (JQ h1.1).1).2;rw[hm];simp only[h2,h3];omega
   .have h2:=h.some hq
    have hm:Zw {m with queue:=m.queue++[r]}=Zw m:=by
     unfold Zw;rw[Ak Yg,Ak hq];simp only[Yg7 hq]
    rw[hm];exact h2
 .exact h
theorem Yzc {m:Zg} (h:Yy m):Yy (X8 m):=by
 unfold X8;split
 .rename_i h1
  have hq:m.queue≠[]:=by
   intro hq;unfold Zw at h1;rw[Aj hq] at h1;have:=Gt h;omega
  have h2:=h.some hq;refine⟨h.len,h.tries,h.reqs,λhx=>absurd hx hq,λ_=>?_⟩;have hm:Zw {m with An:=m.An+1}=Zw m:=rfl;rw[hm];simp only;omega
 .exact h
theorem Yj4 {m:Zg} (h:Yy m):Yy (Dp m):=by
 unfold Dp;split
 .exact h
 .rename_i h1
  have hq:=LG h h1;have h2:=h.some hq;refine⟨h.len,h.tries,h.reqs,λhx=>absurd hx hq,λ_=>?_⟩;have hm:Zw {m with An:=m.An - 1}=Zw m:=rfl;rw[hm];simp only;omega
theorem Y5t {m:Zg} (h:Yy m):Yy (Jo m):=by
 unfold Jo;split
 .exact h
 .rename_i h1
  have hq:=LG h h1;have h2:=h.some hq;split
  .have hr:∀r∈m.queue.tail,W6 r=true:=λr hr=>h.reqs r (uC hr)
   refine⟨by have:=h.len;simp;omega,by simp,hr,λ_=>by simp,λhx=>?_⟩;have h3:Yy (Zg.mk m.queue.tail 0 0 0 false false)->True:=λ_=>trivial;have h4:0 < m.queue.tail.length:=Cw.2 hx;have h5:W6 (Ai m.queue.tail 0)=true:=hr _ (Gn (by omega) (by omega));have h6:=(ON (JQ h5).1).2;have hm:Zw (Zg.mk m.queue.tail 0 0 0 false false)=Xy (Ai m.queue.tail 0).Ay:=by
    unfold Zw;rw[Ak hx]
   rw[hm];simp only;omega
  .rename_i h3
   refine⟨h.len,by simp,h.reqs,λhx=>absurd hx hq,λ_=>?_⟩;have hm:Zw (Zg.mk m.queue m.An (m.done+1) 0 false m.broken)=Zw m:=rfl;rw[hm];simp only;omega
theorem Xbk {a b:Int} {k:Nat} (h0:0<=a) (h1:a < 2^k) (hb:0<=b) (hk:b*2^k+a < 9223372036854775808):zA a (b*2^k)=a+b*2^k:=by
 obtain⟨a,rfl⟩:=tZ h0;obtain⟨b,rfl⟩:=tZ hb;have e1:(b:Int)*2^k=((b*2^k:Nat):Int):=by simp
 rw[e1] at hk ⊢;have Lh:a < 2^k:=by
  have:((a:Nat):Int) < ((2^k:Nat):Int):=by simpa using h1
  exact Int.ofNat_lt.1 this
 have h2:a+b*2^k < 18446744073709551616:=by omega
 unfold zA;show IntKind.i64.wrap (((BitVec.ofInt 64 ((a:Nat):Int) ||| BitVec.ofInt 64 ((b*2^k:Nat):Int)).toNat:Nat):Int)=_;rw[gJ,gJ,BitVec.toNat_or,gL,gL,Vq (by omega),Vq (by omega)];have h3:a ||| b*2^k=a+b*2^k:=by
  rw[Nat.or_comm,<-Nat.shiftLeft_eq,<-Nat.shiftLeft_add_eq_or_of_lt Lh,gU]
 rw[h3,Sc (by omega) (by omega)];simp
theorem Y8z {a:Int} (h0:0<=a) (h1:a < 9223372036854775808):Rk a 255=a % 256:=by
 obtain⟨a,rfl⟩:=tZ h0;unfold Rk;show IntKind.i64.wrap (((BitVec.ofInt 64 ((a:Nat):Int) &&& BitVec.ofInt 64 ((255:Nat):Int)).toNat:Nat):Int)=_;rw[gJ,gJ,BitVec.toNat_and,gL,gL,Vq (by omega),Vq (by omega)];have h3:a &&& 255=a % 256:=Nat.and_two_pow_sub_one_eq_mod a 8;rw[h3,Sc (by omega) (by omega)];omega
theorem Xa0 {a:Int} {k:Nat} (hk:k<=64) (h0:0<=a) (h1:a*2^k < 9223372036854775808):Rl a (k:Int)=a*2^k:=by
 unfold Rl;have:min ((k:Int).toNat) IntKind.i64.bits=k:=by
  show min ((k:Int).toNat) 64=k;omega
 rw[this];have:0<=a*2^k:=uN h0 (Int.pow_nonneg (by omega));exact Sc (by omega) h1
theorem Xbu {a:Int} {k:Nat} (hk:k<=64) (h0:0<=a):Rm a (k:Int)=a / 2^k:=by
 unfold Rm;have:min ((k:Int).toNat) IntKind.i64.bits=k:=by
  show min ((k:Int).toNat) 64=k;omega
 rw[this,Int.fdiv_eq_ediv_of_nonneg _ (Int.pow_nonneg (by omega))]
def DP (n:Int):Bool:=decide (0<=n/\n<=255)
def LH (mem:List Int):Bool:=decide (mem.length<=512)&&mem.all DP
def GN (mem:List Int) (a s:Int):Bool:=LH mem&&(Xv a s&&decide (a<=(mem.length:Int) - Y2 s))
theorem Ydw (mem:List Int) (a s:Int) (hl:mem.length < 1048577):Uh mem a s=some (GN mem a s):=by
 have hb:=OL s;have hf:Qr mem=some (!mem.all DP):=by
  unfold Qr Zai;refine sA mem (by omega) pB DP (λr hr=>?_) _ (λm i=>rfl);unfold pB;rw[Wp];rfl
 unfold Uh GN LH;rw[hf,Ag,sI,Ag,UB,Ag,Xc (by omega) (by omega)];by_cases h1:mem.length<=512
 .have h2:(mem.length:Int)<=512:=by omega
  by_cases h3:mem.all DP=true
  .by_cases h4:Xv a s=true<;>simp only[h1,h2,h3,h4,decide_true,if_true,Du,FF,Hd,LW,Iq,Bn,if_false]
  .simp[h1,h2,h3]
 .have h2:¬(mem.length:Int)<=512:=by omega
  simp[h1,h2]
theorem Yc2 (mem:List Int) (hl:mem.length < 1048577):ZD mem=some (LH mem):=by
 unfold ZD LH;have key:∀(n k:Nat),k<=mem.length->mem.length - k < n->kO mem n k=some (decide (mem.length<=512)&&(mem.drop k).all DP):=by
  intro n
  induction n with
  | zero=>intro k _ h;omega
  | succ n ih=>
   intro k hk hm;show zP mem _ k=_;unfold zP;by_cases hc:k < mem.length
   .rw[Aj (by simpa using hc),Zx hc,Ag,Xu,Ag,D5 hc,DW]
    by_cases hq:0<=mem[k]/\mem[k]<=255
    .rw[Ak (by simp[hq]),Ye (by omega),ih (k+1) (by omega) (by omega)]
     simp[hq,DP]
    .rw[Aj (by simp[hq])]
     simp[hq,DP]
   .rw[Ak (by simpa using hc),EZ (by omega)]
    by_cases h1:mem.length<=512
    .have h2:(mem.length:Int)<=512:=by omega
     simp[h1,h2]
    .have h2:¬(mem.length:Int)<=512:=by omega
     simp[h1,h2]
 have:=key FU 0 (Cf _) (by have:=Y5;omega);simpa using this
theorem Ygy (mem:List Int) (a s:Int) (hl:mem.length < 1048577):ZV mem a s=some (GN mem a s):=by
 have hb:=OL s;unfold ZV GN;rw[Yc2 mem hl,Ag,sH,Ag,Nh,Ag,Xc (by omega) (by omega)];by_cases h3:LH mem=true
 .by_cases h4:Xv a s=true<;>simp only[h3,h4,if_true,Hd,Iq,Bn,if_false]
 .simp[h3]
def El (mem:List Int):Nat->Int->Int
 | 0,_=>0
 | n+1,a=>Ai mem a+256*El mem n (a+1)
def Nj:Nat->List Int->Int->Int->List Int
 | 0,l,_,_=>l
 | n+1,l,a,v=>Nj n (l.set a.toNat (v % 256)) (a+1) (v / 256)
theorem Y8v:∀(n:Nat) (l:List Int) (a v:Int),(Nj n l a v).length=l.length:=by
 intro n
 induction n with
 | zero=>intro l a v;rfl
 | succ n ih=>intro l a v;simp only[Nj,ih,KI]
theorem Y3s:∀(n:Nat) (l:List Int) (a v:Int),l.all DP=true->(Nj n l a v).all DP=true:=by
 intro n
 induction n with
 | zero=>intro l a v h;exact h
 | succ n ih=>
  intro l a v h;refine ih _ _ _ ?_;rw[Cd] at h ⊢;intro x hx;rcases Vj hx with hx|rfl
  .exact h x hx
  .have h1:0<=v % 256:=Te _ (by omega)
   have h2:v % 256 < 256:=Tb _ (by omega);simp[DP];omega
theorem Yp3 (mem:List Int):∀(n:Nat) (a:Int),El mem (n+1) a=El mem n a+256^n*Ai mem (a+n):=by
 intro n
 induction n with
 | zero=>intro a;simp[El]
 | succ n ih=>
  intro a;rw[El,ih (a+1),El];rw[Int.mul_add,<-Int.mul_assoc,show (256:Int)*256^n=256^(n+1) by rw[Int.pow_succ,Tg],show a+1+(n:Int)=a+((n+1:Nat):Int) by omega];omega
theorem Yz2 {mem:List Int} (h:mem.all DP=true):∀(n:Nat) (a:Int),0<=a->a+n<=(mem.length:Int)->0<=El mem n a/\El mem n a < 256^n:=by
 intro n
 induction n with
 | zero=>intro a _ _;simp[El]
 | succ n ih=>
  intro a h0 h1;have h2:=ih (a+1) (by omega) (by omega);have h3:=Cd.1 h _ (Gn h0 (by omega:a < (mem.length:Int)));simp only[DP,Bj] at h3;simp only[El];have e:(256:Int)^(n+1)=256*256^n:=by rw[Int.pow_succ,Tg]
  rw[e];omega
def JR (mem:List Int) (a s:Int):Int:=El mem (Y2 s).toNat a
def GO (mem:List Int) (a s v:Int):List Int:=Nj (Y2 s).toNat mem a v
theorem dQ {mem:List Int} {a s:Int} (h:GN mem a s=true):mem.length<=512/\mem.all DP=true/\0 < Y2 s/\0<=a/\a+Y2 s<=(mem.length:Int):=by
 simp only[GN,LH,Bg,Bj] at h;have:=Jq h.2.1;exact⟨h.1.1,h.1.2,this.1,this.2.1,by omega⟩
theorem Yux (k:Nat) (h:k<=4):(256:Int)^k=2^(8*k)/\(256:Int)^k<=4294967296:=by
 have:k=0\/k=1\/k=2\/k=3\/k=4:=by omega
 rcases this with rfl|rfl|rfl|rfl|rfl<;>decide
theorem Yxy {mem:List Int} {a s:Int} (h:GN mem a s=true):pK mem a s=some (JR mem a s,true):=by
 obtain⟨h1,h2,h3,h4,h5⟩:=dQ h;have hb:=OL s;unfold pK JR;rw[Ydw mem a s (by omega),Ag,h,Ak (by simp),UB,Ag];have key:∀(r n k:Nat),r < n->(k:Int)+r=Y2 s->pJ mem a s n (El mem k a) (Y2 s) k=some (El mem (k+r) a,true):=by
  intro r
  induction r with
  | zero=>
   intro n k hn hk;obtain⟨n,rfl⟩:∃m',n=m'+1:=⟨n - 1,by omega⟩;show bP mem a s _ (El mem k a) (Y2 s) k=_;unfold bP;rw[Ak (by simp;omega)];rfl
  | succ r ih=>
   intro n k hn hk;obtain⟨n,rfl⟩:∃m',n=m'+1:=⟨n - 1,by omega⟩;show bP mem a s _ (El mem k a) (Y2 s) k=_;unfold bP;have h6:0<=a+(k:Int):=by omega
   have h7:a+(k:Int) < (mem.length:Int):=by omega
   have h8:=Cd.1 h2 _ (Gn h6 h7);simp only[DP,Bj] at h8;have h9:=Yz2 h2 k a h4 (by omega);have hp:=Yux k (by omega);have WU:(0:Int) < 2^(8*k):=Int.pow_pos (by omega);have JS:Ai mem (a+k)*2^(8*k)<=255*4294967296:=by
    rw[<-hp.1];exact Int.mul_le_mul h8.2 hp.2 (by rw[hp.1];omega) (by omega)
   rw[Aj (by simp;omega),Yj (by omega) (by omega),Xm h6 h7,Ag,Jt (by omega) (by omega),Y65 (by omega),Ag,show (8:Int)*(k:Int)=((8*k:Nat):Int) by omega,Xa0 (by omega) h8.1 (by omega),Xbk h9.1 (by rw[<-hp.1];exact h9.2) h8.1 (by have:=h9.2;rw[hp.1] at this;have:=hp.2;rw[hp.1] at this;omega),Ye (by omega)];have e:El mem k a+Ai mem (a+k)*2^(8*k)=El mem (k+1) a:=by
    rw[Yp3,hp.1,Tg]
   rw[e,ih n (k+1) (by omega) (by omega),show k+1+r=k+(r+1) by omega]
 have:=key (Y2 s).toNat FU 0 (by have:=Y5;omega) (by omega);simpa [El] using this
theorem Yyv {mem:List Int} {a s:Int} (h:GN mem a s=true):l8 mem a s=some (JR mem a s,true):=by
 obtain⟨h1,h2,h3,h4,h5⟩:=dQ h;have hb:=OL s;unfold l8 JR;rw[Ygy mem a s (by omega),Ag,h,Ak (by simp),Nh,Ag,Xc (by omega) (by omega)];have key:∀(r n j:Nat) (v:Int),r < n->(r:Int)<=Y2 s->j+r<=4->0<=v->v < 256^j->l7 mem a s n v ((r:Int) - 1)=some (v*256^r+El mem r a,true):=by
  intro r
  induction r with
  | zero=>
   intro n j v hn hk _ _ _;obtain⟨n,rfl⟩:∃m',n=m'+1:=⟨n - 1,by omega⟩;show ZZ mem a s _ v _=_;unfold ZZ;rw[Ak (by simp)];simp[El]
  | succ r ih=>
   intro n j v hn hk hj hv CW;obtain⟨n,rfl⟩:∃m',n=m'+1:=⟨n - 1,by omega⟩;show ZZ mem a s _ v _=_;unfold ZZ;have h6:0<=a+(r:Int):=by omega
   have h7:a+(r:Int) < (mem.length:Int):=by omega
   have h8:=Cd.1 h2 _ (Gn h6 h7);simp only[DP,Bj] at h8;have hp:=(Yux j (by omega)).2;have e1:(256:Int)^(r+1)=256^r*256:=Int.pow_succ ..;have e3:(256:Int)^(j+1)=256^j*256:=Int.pow_succ ..;have e2:(((r+1:Nat):Int) - 1)=(r:Int):=by omega
   rw[e2,Aj (by simp),Yj (by omega) (by omega),Xm h6 h7,Ag,Jt (by omega) (by omega),Yj (by omega) (by omega),Xc (by omega) (by omega),ih n (j+1) _ (by omega) (by omega) (by omega) (by omega) (by rw[e3];omega)];rw[Yp3,Int.add_mul,e1,Tg (256^r) 256,<-Int.mul_assoc,Tg (256^r) (Ai mem (a+r))]
   congr 2
   omega
 have:=key (Y2 s).toNat FU 0 0 (by have:=Y5;omega) (by omega) (by omega) (by omega) (by simp);rw[show ((Y2 s).toNat:Int)=Y2 s by omega] at this;simpa using this
theorem UH (xs:List Int) (h:xs.length < 1048577):Xi xs=some xs:=by
 unfold Xi;rw[Yp (by simp;omega) (by simp;omega)];rfl
theorem dR (xs:List Int) (h:xs.length < 1048577):Yz 8 [] xs=some xs:=by
 rw[Yp (by simp;omega) (by simp;omega)];rfl
theorem Yyb {mem:List Int} {a s v:Int} (h:GN mem a s=true) (hv:Y8 v s=true):pI mem a s v=some (GO mem a s v,true):=by
 obtain⟨h1,h2,h3,h4,h5⟩:=dQ h;have hb:=OL s;have hl:=UA s;simp only[Y8,Bj] at hv;unfold pI pH GO;rw[UH mem (by omega),Ag,Ydw mem a s (by omega),Ag,h,Ak (by simp),Si,Ag,UB,Ag];have hn:Y8 v s=true:=by simp[Y8,hv]
 rw[hn,Ak (by simp)];have key:∀(r n k:Nat) (l:List Int),r < n->(k:Int)+r=Y2 s->l.length=mem.length->pG mem a s v n l (Y2 s) k=some (Nj r l (a+k) (v / 256^k),true):=by
  intro r
  induction r with
  | zero=>
   intro n k l hn hk _;obtain⟨n,rfl⟩:∃m',n=m'+1:=⟨n - 1,by omega⟩;show bO mem a s v _ l (Y2 s) k=_;unfold bO;rw[Ak (by simp;omega)];rfl
  | succ r ih=>
   intro n k l hn hk CI;obtain⟨n,rfl⟩:∃m',n=m'+1:=⟨n - 1,by omega⟩;show bO mem a s v _ l (Y2 s) k=_;unfold bO;have h6:0<=a+(k:Int):=by omega
   have h7:a+(k:Int) < (l.length:Int):=by omega
   have hp:=Yux k (by omega);have WU:(0:Int) < 256^k:=Int.pow_pos (by omega);have h8:0<=v / 256^k:=Int.ediv_nonneg hv.1 (by omega);have h9:v / 256^k<=v:=Int.ediv_le_self _ hv.1;rw[Aj (by simp;omega),Jt (by omega) (by omega),Y65 (by omega),Ag,Yj (a:=a) (by omega) (by omega),Xm h6 h7,Ag,Qm,Ag,show (8:Int)*(k:Int)=((8*k:Nat):Int) by omega,Xbu (by omega) hv.1,<-hp.1,Y8z h8 (by omega),Ye (by omega),ih n (k+1) _ (by omega) (by omega) (by simp[CI])];simp only[Nj];rw[Int.ediv_ediv_of_nonneg (by omega),<-Int.pow_succ,show a+((k+1:Nat):Int)=a+k+1 by omega]
 have:=key (Y2 s).toNat FU 0 mem (by have:=Y5;omega) (by omega) rfl;simpa using this
theorem Yzj {mem:List Int} {a s v:Int} (h:GN mem a s=true) (hv:Y8 v s=true):lY mem a s v=some (GO mem a s v,true):=by
 obtain⟨h1,h2,h3,h4,h5⟩:=dQ h;have hb:=OL s;have hl:=UA s;unfold lY lX GO;rw[dR mem (by omega),Ag,Ygy mem a s (by omega),Ag,h,Ak (by simp),Ni,Ag,Sj,Ag,hv,Ak (by simp)];simp only[Y8,Bj] at hv;have key:∀(r n k:Nat) (l:List Int) (x:Int),r < n->(k:Int)+r=Y2 s->l.length=mem.length->0<=x->x < 9223372036854775808->lW mem a s v n x l k=some (Nj r l (a+k) x,true):=by
  intro r
  induction r with
  | zero=>
   intro n k l x hn hk _ _ _;obtain⟨n,rfl⟩:∃m',n=m'+1:=⟨n - 1,by omega⟩;show ZW mem a s v _ x l k=_;unfold ZW;rw[Nh,Ag,Ak (by simp;omega)];rfl
  | succ r ih=>
   intro n k l x hn hk CI hx Ec;obtain⟨n,rfl⟩:∃m',n=m'+1:=⟨n - 1,by omega⟩;show ZW mem a s v _ x l k=_;unfold ZW;have h6:0<=a+(k:Int):=by omega
   have h7:a+(k:Int) < (l.length:Int):=by omega
   rw[Nh,Ag,Aj (by simp;omega),Yj (a:=a) (by omega) (by omega),Xm h6 h7,Ag,Qm,Ag,Hy hx,rZ hx Ec (by omega),Ye (by omega),ih n (k+1) _ _ (by omega) (by omega) (by simp[CI]) (by omega) (by omega)];simp only[Nj];rw[show a+((k+1:Nat):Int)=a+k+1 by omega]
 have:=key (Y2 s).toNat FU 0 mem v (by have:=Y5;omega) (by omega) rfl hv.1 (by omega);simpa using this
def Zl.sm (d:Zl):Prop:=d.AH.length < 1048577/\d.A2.length < 1048577
def Sl (d:Zl):Bool:=decide (d.AH.length=4)&&(d.AH.all (λv=>Y8 v 2)&&(Y8 d.timer 2&&(decide (d.A2.length<=4)&&d.A2.all λv=>Y8 v 2)))
theorem Yll (d:Zl) (hs:d.sm):bJ d=some (Sl d):=by
 have hf:∀xs:List Int,xs.length < 1048577->Wd xs=some (!xs.all λv=>Y8 v 2):=by
  intro xs hl;unfold Wd J7;refine sA xs (by omega) pC (λv=>Y8 v 2) (λr hr=>?_) _ (λm i=>rfl);unfold pC;rw[Si];rfl
 unfold bJ Sl;rw[hf _ hs.1,Ag,hf _ hs.2,Ag,Si,Ag];by_cases h1:d.AH.length=4
 .have h2:(d.AH.length:Int)=4:=by omega
  by_cases h3:d.A2.length<=4
  .have h4:(d.A2.length:Int)<=4:=by omega
   cases h5:(d.AH.all λv=>Y8 v 2)<;>cases h6:(d.A2.all λv=>Y8 v 2)<;>cases h7:Y8 d.timer 2<;>simp[h1,h2,h3,h4]
  .have h4:¬(d.A2.length:Int)<=4:=by omega
   simp[h1,h2,h3,h4]
 .have h2:¬(d.AH.length:Int)=4:=by omega
  simp[h1,h2]
theorem Yc6 (xs:List Int) (hl:xs.length < 1048577):ZE xs=some (xs.all λv=>Y8 v 2):=by
 unfold ZE;have key:∀(n k:Nat),k<=xs.length->xs.length - k < n->kP xs n k=some ((xs.drop k).all λv=>Y8 v 2):=by
  intro n
  induction n with
  | zero=>intro k _ h;omega
  | succ n ih=>
   intro k hk hm;show zQ xs _ k=_;unfold zQ;by_cases hc:k < xs.length
   .rw[Aj (by simpa using hc),Zx hc,Ag,Ni,Ag,Sj,Ag,D5 hc,DW]
    by_cases hq:Y8 xs[k] 2=true
    .rw[Ak (by simp[hq]),Ye (by omega),ih (k+1) (by omega) (by omega)]
     simp[hq]
    .rw[Aj (by simp[hq])]
     simp[hq]
   .rw[Ak (by simpa using hc),EZ (by omega)]
    rfl
 have:=key FU 0 (Cf _) (by have:=Y5;omega);simpa using this
theorem Ykw (d:Zl) (hs:d.sm):ZF d=some (Sl d):=by
 unfold ZF Sl;rw[Yc6 _ hs.1,Ag,Yc6 _ hs.2,Ag,Ni,Ag,Sj,Ag];by_cases h1:d.AH.length=4
 .have h2:(d.AH.length:Int)=4:=by omega
  by_cases h3:d.A2.length<=4
  .have h4:(d.A2.length:Int)<=4:=by omega
   cases h5:(d.AH.all λv=>Y8 v 2)<;>cases h6:(d.A2.all λv=>Y8 v 2)<;>cases h7:Y8 d.timer 2<;>simp[h1,h2,h3,h4]
  .have h4:¬(d.A2.length:Int)<=4:=by omega
   cases h5:(d.AH.all λv=>Y8 v 2)<;>cases h7:Y8 d.timer 2<;>simp[h1,h2,h3,h4]
 .have h2:¬(d.AH.length:Int)=4:=by omega
  simp[h1,h2]
structure OP (d:Zl):Prop where
 AH:d.AH.length=4
 B7:∀v∈d.AH,Y8 v 2=true
 timer:Y8 d.timer 2=true
 len:d.A2.length<=4
 A2:∀v∈d.A2,Y8 v 2=true
theorem Yna {d:Zl}:Sl d=true↔OP d:=by
 simp only[Sl,Bg,Bj,Cd];constructor
 .intro h;exact⟨h.1,h.2.1,h.2.2.1,h.2.2.2.1,h.2.2.2.2⟩
 .intro h;exact⟨h.AH,h.B7,h.timer,h.len,h.A2⟩
theorem OP.sm {d:Zl} (h:OP d):d.sm:=⟨by have:=h.AH;omega,by have:=h.len;omega⟩
theorem Yhg (d:Zl) (hs:d.sm):bI d=some d:=by
 unfold bI;rw[UH _ hs.1,Ag,UH _ hs.2];rfl
theorem Ygn (d:Zl) (hs:d.sm):ZO d=some d:=by
 unfold ZO;rw[dR _ hs.1,Ag,dR _ hs.2];rfl
def DQ (d:Zl) (w:Bool) (a v:Int):Zl×Int×Bool:=
 if (w&&!Y8 v 2)=true then (d,0,false) else
 if a=16 then (if w then ({d with timer:=v},v,true) else ({d with timer:=(d.timer+1) % 4294967296},d.timer,true)) else
 if a=20 then (if w then (if d.A2.length < 4 then ({d with A2:=d.A2++[v]},v,true) else (d,0,false)) else (if d.A2=[] then (d,0,false) else ({d with A2:=d.A2.tail},Ai d.A2 0,true))) else
 if (0<=a/\a < 16)/\a % 4=0 then (if w then ({d with AH:=d.AH.set (a / 4).toNat v},v,true) else (d,Ai d.AH (a / 4),true)) else (d,0,false)
theorem Sm {v:Int} (h:Y8 v 2=true):0<=v/\v < 4294967296:=by
 simpa [Y8,Gr] using h
theorem Y3g {d:Zl} (w:Bool) (a v:Int) (h:OP d):pF d w a v=some (DQ d w a v):=by
 have ht:=Sm h.timer;have hl:=h.len;have hr:=h.AH;unfold pF;rw[Yhg d h.sm,Ag,Yll d h.sm,Ag,Yna.2 h,Si,Ag];have hJ:RO d w a v d false=some (if a=16 then (if w then ({d with timer:=v},v,true) else ({d with timer:=(d.timer+1) % 4294967296},d.timer,true)) else
 if a=20 then (if w then (if d.A2.length < 4 then ({d with A2:=d.A2++[v]},v,true) else (d,0,false)) else (if d.A2=[] then (d,0,false) else ({d with A2:=d.A2.tail},Ai d.A2 0,true))) else
 if (0<=a/\a < 16)/\a % 4=0 then (if w then ({d with AH:=d.AH.set (a / 4).toNat v},v,true) else (d,Ai d.AH (a / 4),true)) else (d,0,false)):=by
  unfold RO pE bN bM bL;by_cases JT:a=16
  .subst JT
   rw[Ycm,Ag,show Gr 2=4294967296 from rfl,OJ (by omega),Yj (by omega) (by omega),Hy (by omega)];cases w<;>simp
  .by_cases JU:a=20
   .subst JU
    cases w with
    | true=>
     by_cases h3:d.A2.length < 4
     .have h4:(d.A2.length:Int) < 4:=by omega
      rw[Yp (by simp;omega) (by simp;omega)];simp[h3,h4]
     .have h4:¬(d.A2.length:Int) < 4:=by omega
      simp[h3,h4]
    | false=>
     by_cases h3:d.A2=[]
     .simp[h3]
     .have h4:0 < d.A2.length:=Cw.2 h3
      have h5:(d.A2.length:Int) > 0:=by omega
      rw[Xm (by omega) (by omega),Ag,sO _ h3 (by omega),Ag,UH _ (by simp;omega)];simp[h3,h5]
   .by_cases h3:(0<=a/\a < 16)/\a % 4=0
    .obtain⟨⟨h4,h5⟩,h6⟩:=h3
     have h7:¬a≥16:=by omega
     have h8:¬a < 0:=by omega
     rw[rZ h4 (by omega) (by omega),Xm (xs:=d.AH) (by omega) (by omega),Ag,Ag,Qm,Hy h4];cases w<;>simp[JT,JU,h4,h5,h6,h7,h8]
    .by_cases h4:a≥16
     .have h5:¬a < 16:=by omega
      cases w<;>simp[JT,JU,h4,h5]
     .by_cases h5:a < 0
      .have h6:¬0<=a:=by omega
       cases w<;>simp[JT,JU,h4,h5,h6]
      .have h6:a % 4≠0:=λh=>h3 ⟨by omega,h⟩
       rw[Hy (by omega)];cases w<;>simp[JT,JU,h4,h5,h6]
 unfold DQ;cases w with
 | false=>simp only[Du,Bn,if_false,Iq];exact hJ
 | true=>
  by_cases hv:Y8 v 2=true
  .simp only[hv,Du,Bn,if_false,if_true,Vv]
   exact hJ
  .simp[hv,RO]
theorem Y2f {d:Zl} (w:Bool) (a v:Int) (h:OP d):l6 d w a v=some (DQ d w a v):=by
 have ht:=Sm h.timer;have hl:=h.len;have hr:=h.AH;unfold l6;rw[Ygn d h.sm,Ag,Ykw d h.sm,Ag,Yna.2 h,Ni,Ag,Sj,Ag];have hJ:∀_:K0 a 4=0,MO d w a v d false=some (if a=16 then (if w then ({d with timer:=v},v,true) else ({d with timer:=(d.timer+1) % 4294967296},d.timer,true)) else
 if a=20 then (if w then (if d.A2.length < 4 then ({d with A2:=d.A2++[v]},v,true) else (d,0,false)) else (if d.A2=[] then (d,0,false) else ({d with A2:=d.A2.tail},Ai d.A2 0,true))) else
 if (0<=a/\a < 16)/\a % 4=0 then (if w then ({d with AH:=d.AH.set (a / 4).toNat v},v,true) else (d,Ai d.AH (a / 4),true)) else (d,0,false)):=by
  intro LI;unfold MO l5 lZ ZY ZX;rw[Xu,Ag,Ag];by_cases JT:a=16
  .subst JT
   rw[Ni,Ag,show Gr 2=4294967296 from rfl,OJ (by omega),Yj (by omega) (by omega),Hy (by omega)];cases w<;>simp
  .by_cases JU:a=20
   .subst JU
    cases w with
    | true=>
     by_cases h3:d.A2.length < 4
     .have h4:(d.A2.length:Int) < 4:=by omega
      rw[Yp (by simp;omega) (by simp;omega)];simp[h3,h4]
     .have h4:¬(d.A2.length:Int) < 4:=by omega
      simp[h3,h4]
    | false=>
     by_cases h3:d.A2=[]
     .simp[h3]
     .have h4:0 < d.A2.length:=Cw.2 h3
      have h5:(d.A2.length:Int) > 0:=by omega
      rw[Xm (xs:=d.A2) (by omega) (by omega),Ag,sO _ h3 (by omega),Ag];simp[h3,h5]
   .by_cases h3:0<=a/\a < 16
    .rw[Hy h3.1] at LI
     have h4:0<=a/\a<=12:=by omega
     rw[rZ h3.1 (by omega) (by omega),Xm (xs:=d.AH) (by omega) (by omega),Ag,Ag,Qm];cases w<;>simp[JT,JU,h3,h4,LI]
    .have h4:¬(0<=a/\a<=12):=by omega
     cases w<;>simp[JT,JU,h3,h4]
 unfold DQ;by_cases LI:K0 a 4=0
 .rw[Ak (by simp),Ak (by simp[LI])]
  cases w with
  | false=>simp only[Bn,if_false,Iq];exact hJ LI
  | true=>
   by_cases hv:Y8 v 2=true
   .simp only[hv,Du,Bn,if_false,if_true,Vv]
    exact hJ LI
   .simp[hv,MO]
 .have JT:a≠16:=λh=>LI (by subst h;rfl)
  have JU:a≠20:=λh=>LI (by subst h;rfl);have h3:¬((0<=a/\a < 16)/\a % 4=0):=λh=>LI (by rw[Hy h.1.1];exact h.2);rw[Ak (by simp),Aj (by simp[LI])];simp only[JT,JU,h3,if_false,MO,if_true];split<;>rfl
theorem Xbx {xs:List Int} {p:Int->Prop} (h:∀x∈xs,p x) {k:Nat} {v:Int} (hv:p v):∀x∈xs.set k v,p x:=by
 intro x hx;rcases Vj hx with hx|rfl
 .exact h x hx
 .exact hv
theorem Y9u {d:Zl} {w:Bool} {a v:Int} (h:OP d):OP (DQ d w a v).1/\((DQ d w a v).2.2=true->Y8 (DQ d w a v).2.1 2=true):=by
 have ht:=Sm h.timer;have hl:=h.len;unfold DQ;split
 .exact⟨h,by simp⟩
 .rename_i hw
  have hv:w=true->Y8 v 2=true:=by
   intro h1;rw[h1] at hw;simpa using hw
  split
  .split
   .rename_i h1
    exact⟨⟨h.AH,h.B7,hv h1,h.len,h.A2⟩,λ_=>hv h1⟩
   .refine⟨⟨h.AH,h.B7,?_,h.len,h.A2⟩,λ_=>h.timer⟩
    have:Gr 2=4294967296:=rfl;simp only[Y8,this,Bj];omega
  .split
   .split
    .rename_i h1
     split
     .rename_i h2
      refine⟨⟨h.AH,h.B7,h.timer,by simp;omega,λx hx=>?_⟩,λ_=>hv h1⟩;rcases BU.1 hx with hx|hx
      .exact h.A2 x hx
      .rw[List.mem_singleton.1 hx];exact hv h1
     .exact⟨h,by simp⟩
    .split
     .exact⟨h,by simp⟩
     .rename_i h2
      have h4:0 < d.A2.length:=Cw.2 h2;refine⟨⟨h.AH,h.B7,h.timer,by simp;omega,λx hx=>h.A2 x (uC hx)⟩,λ_=>h.A2 _ (Gn (by omega) (by omega))⟩
   .split
    .rename_i h3
     split
     .rename_i h1
      exact⟨⟨by simp[h.AH],Xbx h.B7 (hv h1),h.timer,h.len,h.A2⟩,λ_=>hv h1⟩
     .refine⟨h,λ_=>h.B7 _ (Gn (by omega) (by have:=h.AH;omega))⟩
    .exact⟨h,by simp⟩
def Yl (a:Int):Int:=if a < 0\/224<=a then 0 else if a < 128 then 1 else if a < 192 then 2 else 3
theorem Z2o (a:Int):bK a=some (Yl a):=by
 unfold bK pD Yl;by_cases h1:a < 0
 .simp[h1]
 .by_cases h2:a≥224
  .simp[h1,h2]
  .by_cases h3:a < 128
   .simp[h1,h2,h3]
   .by_cases h4:a < 192<;>simp[h1,h2,h3,h4]
theorem Ydx (a:Int):lV a=some (Yl a):=by
 rw[<-Z2o];rfl
def Zf.sm (m:Zf):Prop:=m.mem.length < 1048577/\m.dev.sm
def Sn (m:Zf):Bool:=decide (m.mem.length=192)&&(m.mem.all DP&&Sl m.dev)
structure Ef (m:Zf):Prop where
 len:m.mem.length=192
 bytes:m.mem.all DP=true
 dev:OP m.dev
theorem dS {m:Zf}:Sn m=true↔Ef m:=by
 simp only[Sn,Bg,Bj,Yna];constructor
 .intro h;exact⟨h.1,h.2.1,h.2.2⟩
 .intro h;exact⟨h.len,h.bytes,h.dev⟩
theorem Ef.sm {m:Zf} (h:Ef m):m.sm:=⟨by have:=h.len;omega,h.dev.sm⟩
theorem Ydn (m:Zf) (hs:m.sm):RN m=some (Sn m):=by
 unfold RN Sn;rw[Ydw m.mem 0 0 hs.1,Ag,Yll m.dev hs.2,Ag];by_cases h1:m.mem.length=192
 .have h2:(m.mem.length:Int)=192:=by omega
  have h3:GN m.mem 0 0=m.mem.all DP:=by
   simp[GN,LH,h1,Xv,Y2]
  rw[h3];cases h4:m.mem.all DP<;>simp[h1,h2]
 .have h2:¬(m.mem.length:Int)=192:=by omega
  simp[h1,h2]
theorem Yd4 (m:Zf) (hs:m.sm):ZG m=some (Sn m):=by
 unfold ZG Sn;rw[Yc2 m.mem hs.1,Ag,Ykw m.dev hs.2,Ag];by_cases h1:m.mem.length=192
 .have h2:(m.mem.length:Int)=192:=by omega
  have h3:LH m.mem=m.mem.all DP:=by
   simp[LH,h1]
  rw[h3];cases h4:m.mem.all DP<;>simp[h1,h2]
 .have h2:¬(m.mem.length:Int)=192:=by omega
  simp[h1,h2]
theorem Zzw (m:Zf) (hs:m.sm):Ug m=some m:=by
 unfold Ug;rw[UH _ hs.1,Ag,Yhg _ hs.2];rfl
theorem Ygj (m:Zf) (hs:m.sm):ZP m=some m:=by
 unfold ZP;rw[dR _ hs.1,Ag,Ygn _ hs.2];rfl
def Wj (m:Zf) (w:Bool) (a s v:Int):Zf×Int×Int:=
 if (Xv a s&&!(w&&!Y8 v s))=true then
  (if Yl a=1\/Yl a=2 then (if w then ({m with mem:=GO m.mem a s v},v,0) else (m,JR m.mem a s,0))
  else if Yl a=3/\s=2 then (if (DQ m.dev w (a - 192) v).2.2=true then ({m with dev:=(DQ m.dev w (a - 192) v).1},(DQ m.dev w (a - 192) v).2.1,0) else (m,0,1))
  else (m,0,1))
 else (m,0,1)
theorem Y6h {a:Int} (h:Yl a=1\/Yl a=2):0<=a/\a < 192:=by
 unfold Yl at h
 repeat' split at h
 all_goals omega
theorem Yph {a:Int} (h:Yl a=3):192<=a/\a < 224:=by
 unfold Yl at h
 repeat' split at h
 all_goals omega
theorem Yia {m:Zf} {a s:Int} (h:Ef m) (ha:Xv a s=true) (hs:Yl a=1\/Yl a=2):GN m.mem a s=true:=by
 have h1:=Y6h hs;have h2:=h.len;have h3:=Jq ha;have h4:a+Y2 s<=192:=by
  have h5:=(UD s).1 h3.1;have h6:s=0\/s=1\/s=2:=by omega
  have h7:=h3.2.2;rcases h6 with rfl|rfl|rfl<;>simp[Y2] at h7 ⊢<;>omega
 simp only[GN,LH,Bg,Bj];exact⟨⟨by omega,h.bytes⟩,ha,by omega⟩
theorem Ycr {m:Zf} (w:Bool) (a s v:Int) (h:Ef m):bQ m w a s v=some (Wj m w a s v):=by
 unfold bQ Wj;rw[Zzw m h.sm,Ag,Ydn m h.sm,Ag,dS.2 h,sI,Ag,Si,Ag,Ak (by simp)];by_cases ha:Xv a s=true
 .rw[ha,Ak (by simp)]
  have hJ:(w=true->Y8 v s=true)->J2 m w a s v m false=some (if Yl a=1\/Yl a=2 then (if w then ({m with mem:=GO m.mem a s v},v,0) else (m,JR m.mem a s,0))
  else if Yl a=3/\s=2 then (if (DQ m.dev w (a - 192) v).2.2=true then ({m with dev:=(DQ m.dev w (a - 192) v).1},(DQ m.dev w (a - 192) v).2.1,0) else (m,0,1))
  else (m,0,1)):=by
   intro hw;unfold J2;rw[Ak (by simp),Z2o,Ag];unfold pM pL Ui;rw[Zzw m h.sm,Ag];by_cases h1:Yl a=1\/Yl a=2
   .have h3:¬Yl a=3:=by omega
    have hf:=Yia h ha h1;cases w with
    | true=>
     rw[Yyb hf (hw rfl),Ag];rcases h1 with h1|h1<;>simp[h1,h3]
    | false=>
     rw[Yxy hf,Ag];rcases h1 with h1|h1<;>simp[h1,h3]
   .have h2:¬Yl a=1:=λh=>h1 (.inl h)
    have h4:¬Yl a=2:=λh=>h1 (.inr h);by_cases h3:Yl a=3
    .have h5:=Yph h3
     rw[Xc (by omega) (by omega),Y3g w _ v h.dev,Ag];by_cases h6:s=2
     .by_cases h7:(DQ m.dev w (a - 192) v).2.2=true<;>simp[h3,h6,h7]
     .simp[h3,h6]
    .simp[h2,h3,h4]
  cases w with
  | false=>
   simp only[Bn,if_false,Iq,FF,KK,if_true];exact hJ (by simp)
  | true=>
   by_cases hv:Y8 v s=true
   .simp only[hv,Du,if_true,Vv,FF,KK]
    exact hJ (λ_=>hv)
   .simp[hv,J2]
 .simp[ha,J2]
theorem Z1t {m:Zf} (w:Bool) (a s v:Int) (h:Ef m):TE m w a s v=some (Wj m w a s v):=by
 unfold TE Wj;rw[Ygj m h.sm,Ag,Yd4 m h.sm,Ag,dS.2 h,sH,Ag,Ni,Ag,Sj,Ag,Ak (by simp)];by_cases ha:Xv a s=true
 .rw[ha,Ak (by simp)]
  have hJ:(w=true->Y8 v s=true)->J1 m w a s v m false=some (if Yl a=1\/Yl a=2 then (if w then ({m with mem:=GO m.mem a s v},v,0) else (m,JR m.mem a s,0))
  else if Yl a=3/\s=2 then (if (DQ m.dev w (a - 192) v).2.2=true then ({m with dev:=(DQ m.dev w (a - 192) v).1},(DQ m.dev w (a - 192) v).2.1,0) else (m,0,1))
  else (m,0,1)):=by
   intro hw;unfold J1;rw[Ak (by simp),Ydx,Ag];unfold mA l9;by_cases h1:Yl a=1\/Yl a=2
   .have h3:¬Yl a=3:=by omega
    have hf:=Yia h ha h1;cases w with
    | true=>
     rw[Yzj hf (hw rfl),Ag];rcases h1 with h1|h1<;>simp[h1,h3]
    | false=>
     rw[Yyv hf,Ag];rcases h1 with h1|h1<;>simp[h1,h3]
   .have h2:¬Yl a=1:=λh=>h1 (.inl h)
    have h4:¬Yl a=2:=λh=>h1 (.inr h);by_cases h3:Yl a=3
    .have h5:=Yph h3
     rw[Xc (by omega) (by omega),Y2f w _ v h.dev,Ag];by_cases h6:s=2
     .by_cases h7:(DQ m.dev w (a - 192) v).2.2=true<;>simp[h3,h6,h7]
     .simp[h3,h6]
    .simp[h2,h3,h4]
  cases w with
  | false=>
   simp only[Bn,if_false,Iq,FF,KK,if_true];exact hJ (by simp)
  | true=>
   by_cases hv:Y8 v s=true
   .simp only[hv,Du,if_true,Vv,FF,KK]
    exact hJ (λ_=>hv)
   .simp[hv,J1]
 .simp[ha,J1]
theorem Y6f (s:Int) (h:0 < Y2 s):(256:Int)^(Y2 s).toNat=Gr s:=by
 have h1:=(UD s).1 h;have:s=0\/s=1\/s=2:=by omega
 rcases this with rfl|rfl|rfl<;>decide
theorem Z9u {m:Zf} {w:Bool} {a s v:Int} (h:Ef m) (hs:Xv a s=true):Ef (Wj m w a s v).1/\Y8 (Wj m w a s v).2.1 s=true/\((Wj m w a s v).2.2=0\/(Wj m w a s v).2.2=1):=by
 have hp:=Jq hs;have hz:Y8 0 s=true:=by
  have h1:=(UD s).1 hp.1;have:s=0\/s=1\/s=2:=by omega
  rcases this with rfl|rfl|rfl<;>decide
 unfold Wj;split
 .rename_i h1
  split
  .rename_i h2
   have hf:=Yia h hs h2;split
   .rename_i hw
    have hv:Y8 v s=true:=by
     rw[hw] at h1;simpa [hs] using h1
    exact⟨⟨by simp only[GO,Y8v,h.len],Y3s _ _ _ _ h.bytes,h.dev⟩,hv,.inl rfl⟩
   .obtain⟨h3,h4,h5,h6,h7⟩:=dQ hf
    have h8:=Yz2 h4 (Y2 s).toNat a h6 (by omega);rw[Y6f s h5] at h8;exact⟨h,by simp only[Y8,JR];exact decide_eq_true h8,.inl rfl⟩
  .split
   .rename_i h3
    split
    .rename_i h4
     have h5:=Y9u (w:=w) (a:=a - 192) (v:=v) h.dev;have h6:=h5.2 h4;rw[h3.2];exact⟨⟨h.len,h.bytes,h5.1⟩,h6,.inl rfl⟩
    .exact⟨h,hz,.inr rfl⟩
   .exact⟨h,hz,.inr rfl⟩
 .exact⟨h,hz,.inr rfl⟩
def Y7 (p:Option Bool) (P:Prop):Prop:=∃r,p=some r/\(r=true↔P)
theorem Y7.of {b:Bool} {P:Prop} (h:b=true↔P):Y7 (some b) P:=⟨b,rfl,h⟩
theorem Y7.iff {p:Option Bool} {P Q:Prop} (h:Y7 p P) (e:P↔Q):Y7 p Q:=by
 obtain⟨r,h1,h2⟩:=h;exact⟨r,h1,h2.trans e⟩
theorem Y7.yes {P:Prop} (h:P):Y7 (some true) P:=⟨true,rfl,by simp[h]⟩
theorem Y7.no {P:Prop} (h:¬P):Y7 (some false) P:=⟨false,rfl,by simp[h]⟩
theorem Y7.eq {p q:Option Bool} {P:Prop} (h:Y7 p P) (h':Y7 q P):∃r,p=some r/\q=some r/\(r=true↔P):=by
 obtain⟨r,h1,h2⟩:=h;obtain⟨r',h3,h4⟩:=h';have:r=r':=by
  cases r<;>cases r'<;>simp_all
 subst this;exact⟨r,h1,h3,h2⟩
theorem Y7.AA {x:Option Bool} {P Q:Prop} {f:Bool->Option Bool} (h:Y7 x P) (h1:P->Y7 (f true) Q) (h2:¬P->Y7 (f false) Q):Y7 (x.bind f) Q:=by
 obtain⟨r,rfl,hr⟩:=h;rw[Ag];cases r with
 | true=>exact h1 (hr.1 rfl)
 | false=>exact h2 (λhp=>by simpa using hr.2 hp)
theorem Y7.and {x y:Option Bool} {P Q:Prop} (h:Y7 x P) (h1:P->Y7 y Q):Y7 (x.bind λr=>if r=true then y else some false) (P/\Q):=by
 refine h.AA (λhp=>?_) (λhp=>?_)
 .rw[Aj rfl];exact (h1 hp).iff ⟨λq=>⟨hp,q⟩,λq=>q.2⟩
 .rw[Ak (by simp)];exact .no λq=>hp q.1
section
variable {σ:Type}
theorem sP {n:Nat} (hn:n < 4611686018427387904) {P:Nat->Prop} {Q:Prop} (st:Nat->σ) {B:(σ->Int->Option Bool)->σ->Int->Option Bool} {L:Nat->σ->Int->Option Bool} (hL:∀m s i,L (m+1) s i=B (L m) s i)
  (hs:∀k,k < n->(P k/\∀κ,B κ (st k) (k:Int)=κ (st (k+1)) (Zn (k:Int) 1))\/(¬P k/\∀κ,B κ (st k) (k:Int)=some false))
  (hf:(∀k,k < n->P k)->∃r,(∀κ,B κ (st n) (n:Int)=some r)/\(r=true↔Q)):Y7 (L FU (st 0) 0) ((∀k,k < n->P k)/\Q):=by
 have key:∀(m k:Nat),k<=n->n - k < m->(∀j,j < k->P j)->Y7 (L m (st k) (k:Int)) ((∀j,j < n->P j)/\Q):=by
  intro m
  induction m with
  | zero=>intro k _ h;omega
  | succ m ih=>
   intro k hk hm hp;rw[hL];by_cases hc:k < n
   .rcases hs k hc with⟨h1,h2⟩|⟨h1,h2⟩
    .rw[h2,Ye (by omega)]
     refine ih (k+1) (by omega) (by omega) λj hj=>?_;by_cases dT:j=k
     .subst dT;exact h1
     .exact hp j (by omega)
    .rw[h2];exact .no λq=>h1 (q.1 k hc)
   .have:k=n:=by omega
    subst this;obtain⟨r,hr,hq⟩:=hf hp;rw[hr];exact .of ⟨λh=>⟨hp,hq.1 h⟩,λh=>hq.2 h.2⟩
 have:=key FU 0 (Cf _) (by have:=Y5;omega) (λj hj=>by omega);simpa using this
theorem dU {n:Nat} (hn:n < 4611686018427387904) {P:Nat->Prop} {Q:Prop} {B:(Int->Option Bool)->Int->Option Bool} {L:Nat->Int->Option Bool} (hL:∀m i,L (m+1) i=B (L m) i)
  (hs:∀k,k < n->(P k/\∀κ,B κ (k:Int)=κ (Zn (k:Int) 1))\/(¬P k/\∀κ,B κ (k:Int)=some false))
  (hf:(∀k,k < n->P k)->∃r,(∀κ,B κ (n:Int)=some r)/\(r=true↔Q)):Y7 (L FU 0) ((∀k,k < n->P k)/\Q):=
 sP (σ:=Unit) hn (λ_=>()) (B:=λκ _ i=>B (κ ()) i) (L:=λm _ i=>L m i) (λm _ i=>hL m i) (λk hk=>(hs k hk).imp (λh=>⟨h.1,λκ=>h.2 _⟩) λh=>⟨h.1,λκ=>h.2 _⟩)
  (λh=>by obtain⟨r,h1,h2⟩:=hf h;exact⟨r,λκ=>h1 _,h2⟩)
end
instance:Inhabited Zs:=⟨Zs.z0⟩
instance:Inhabited Zh:=⟨Zh.z0⟩
def Yr (m:Zg):Bool:=decide (m.queue≠[])&&((Ai m.queue 0).lock&&!m.broken)
def Jw (b:Za) (i:Int):Int:=(if b.addr.live=true/\b.addr.Ah=i then 1 else 0)+(if b.Aa.live=true/\b.Aa.Ah=i then 1 else 0)
structure HY (c:Zi) (b:Za) (i:Int):Prop where
 right:Yy (Ai b.m i)
 tries:(Ai b.m i).tries<=c.Ao
 bucket:Y1 (Ai b.buckets i) (Ai c.Ab i)=true
 split:0<=Ai b.splits i/\Ai b.splits i<=c.Ar
def Dv (b:Za) (x:Zh):Prop:=Zm b.Ad x.Ah=true/\(1<=x.B6/\x.B6<=3)/\Ai b.splits x.Ah=0
def Jr (b:Za):Prop:=if b.addr.live=true then b.addr.An=(Ai b.m b.addr.Ah).An - 1/\b.addr.left=0/\b.addr.Ap=0/\b.addr.second=false else b.addr=Zh.z0
def Kz (b:Za):Prop:=if b.Aa.live=true then
  (b.Aa.An=(Ai b.m b.Aa.Ah).done/\(0<=b.Aa.left/\b.Aa.left<=b.Ad.Au+2)/\(0<=b.Aa.Ap/\b.Aa.Ap<=3))/\
  (b.Aa.Ap=2->(Ai b.m b.Aa.Ah).tries < b.Ad.Ao)/\(b.Aa.Ap=3->(Ai b.m b.Aa.Ah).Ax=false/\b.Aa.Ah≠b.Af)/\
  (b.Aa.second=true->b.Aa.left=0/\b.Aa.Ap≠0/\b.addr.live=false)
 else b.Aa=Zh.z0
def Gu (b:Za):Prop:=(∀i,Zm b.Ad i=true->(Ai b.m i).An > 0->Yr (Ai b.m i)=true->b.Af=i)/\
 (if b.Af=-1 then b.held=0 else Zm b.Ad b.Af=true/\Yr (Ai b.m b.Af)=true/\Ai b.splits b.Af=0/\(0<=b.held/\b.held<=b.Ad.Am))
def So (c:Zi) (now:Int) (d:Zs):Prop:=(0<=d.A3/\d.A3 < now)/\Zm c d.Ah=true/\Xv d.addr d.size=true/\d.addr < 512/\Y8 d.value d.size=true/\(d.Ap=0\/d.Ap=1)
def Nk (b:Za):Prop:=(∀d∈b.log,So b.Ad b.now d)/\b.log.Pairwise λx y=>x.A3 < y.A3
structure CP (b:Za):Prop where
 Ad:Ys b.Ad=true
 now:0<=b.now/\b.now<=4000
 ml:b.m.length=b.Ad.Ab.length
 bl:b.buckets.length=b.Ad.Ab.length
 sl:b.splits.length=b.Ad.Ab.length
 Bx:∀i,Zm b.Ad i=true->HY b.Ad b i
 Bq:CF b.Bq b.Ad=true
 last:b.last=-1\/Zm b.Ad b.last=true
 model:Ef b.model
 At:0<=b.At/\b.At<=b.now
 alive:b.addr.live=true->Dv b b.addr
 B9:b.Aa.live=true->Dv b b.Aa
 Dq:∀i,Zm b.Ad i=true->(Ai b.m i).An - (Ai b.m i).done=Jw b i
 addr:Jr b
 data:Kz b
 held:Gu b
 log:Nk b
structure Za.sm (b:Za):Prop where
 Ad:b.Ad.Ab.length < 1048577
 ml:b.m.length < 1048577
 Bx:∀x∈b.m,x.sm
 bl:b.buckets.length < 1048577
 sl:b.splits.length < 1048577
 model:b.model.sm
 log:b.log.length < 1048577
theorem FT {c:Zi} {k:Nat} (h:k < c.Ab.length):Zm c (k:Int)=true:=by simp[Zm,h]
theorem dV {c:Zi} {i:Int} (h:Zm c i=true):∃k:Nat,i=(k:Int)/\k < c.Ab.length:=by
 simp only[Zm,Bj] at h;exact⟨i.toNat,by omega,by omega⟩
theorem UI {c:Zi} {P:Int->Prop}:(∀i,Zm c i=true->P i)↔∀k:Nat,k < c.Ab.length->P (k:Int):=by
 constructor
 .intro h k hk;exact h _ (FT hk)
 .intro h i hi
  obtain⟨k,rfl,hk⟩:=dV hi;exact h k hk
theorem Wv {b:Za} (hl:b.m.length=b.Ad.Ab.length) {i:Int} (h:Zm b.Ad i=true):idx b.m i=some (Ai b.m i):=by
 simp only[Zm,Bj] at h;exact Xm h.1 (by omega)
theorem UJ {b:Za} (hl:b.buckets.length=b.Ad.Ab.length) {i:Int} (h:Zm b.Ad i=true):idx b.buckets i=some (Ai b.buckets i):=by
 simp only[Zm,Bj] at h;exact Xm h.1 (by omega)
theorem HZ {b:Za} (hl:b.splits.length=b.Ad.Ab.length) {i:Int} (h:Zm b.Ad i=true):idx b.splits i=some (Ai b.splits i):=by
 simp only[Zm,Bj] at h;exact Xm h.1 (by omega)
theorem OQ {c:Zi} {i:Int} (h:Zm c i=true):idx c.Ab i=some (Ai c.Ab i):=by
 simp only[Zm,Bj] at h;exact Xm h.1 h.2
theorem OR {b:Za} (hl:b.m.length=b.Ad.Ab.length) {i:Int} (h:Zm b.Ad i=true):Ai b.m i∈b.m:=by
 simp only[Zm,Bj] at h;exact Gn h.1 (by omega)
theorem dW (x:Zh):((x.live == false)&&(decide (x.Ah=0)&&(decide (x.An=0)&&((x.first == false)&&(decide (x.B6=0)&&(decide (x.left=0)&&(decide (x.Ap=0)&&((x.second == false)&&true))))))))=true↔x=Zh.z0:=by
 obtain⟨a1,a2,a3,a4,a5,a6,a7,a8⟩:=x;simp only[Bg,beq_iff_eq,Bj,Zh.mk.injEq,and_true]
theorem Z8s (m:Zg):Uk m=some (Yr m):=by
 unfold Uk Yr;by_cases h:m.queue=[]
 .simp[h]
 .have h1:0 < m.queue.length:=Cw.2 h
  rw[Xm (by omega) (by omega),Ag,Aj (by simp;omega)];cases h2:(Ai m.queue 0).lock<;>simp[h]
theorem Zzn (b:Za) (hs:b.sm) (hc:Ys b.Ad=true):Y7 (qO b) (b.m.length=b.Ad.Ab.length/\b.buckets.length=b.Ad.Ab.length/\b.splits.length=b.Ad.Ab.length/\∀i,Zm b.Ad i=true->HY b.Ad b i):=by
 unfold qO;by_cases h1:b.m.length=b.Ad.Ab.length
 .rw[Ak (by simp;omega)]
  by_cases h2:b.buckets.length=b.Ad.Ab.length
  .rw[Ak (by simp;omega)]
   unfold Kh;by_cases h3:b.splits.length=b.Ad.Ab.length
   .rw[Ak (by simp;omega)]
    have:=Kq hc;refine (dU (n:=b.m.length) (P:=λk=>HY b.Ad b (k:Int)) (Q:=True) (by omega) (B:=qN b) (λm i=>rfl) (λk hk=>?_) λ_=>⟨true,λκ=>?_,by simp⟩).iff ?_
    .have hm:=FT (c:=b.Ad) (k:=k) (by omega)
     have hms:=hs.Bx _ (OR h1 hm);unfold qN;simp only[Aj (show decide ((k:Int) < (b.m.length:Int))=true by simpa using hk),Wv h1 hm,UJ h2 hm,HZ h3 hm,OQ hm,Ag,UE _ hms,Ya4,Wp];by_cases e1:OO (Ai b.m (k:Int))=true
     .by_cases e2:(Ai b.m (k:Int)).tries<=b.Ad.Ao
      .by_cases e3:Y1 (Ai b.buckets (k:Int)) (Ai b.Ad.Ab (k:Int))=true
       .by_cases e4:0<=Ai b.splits (k:Int)/\Ai b.splits (k:Int)<=b.Ad.Ar
        .refine .inl ⟨⟨Gs.1 e1,e2,e3,e4⟩,λκ=>?_⟩
         have e5:¬(Ai b.m (k:Int)).tries > b.Ad.Ao:=by omega
         simp[e1,e3,e4,e5]
        .refine .inr ⟨λh=>e4 h.split,λκ=>?_⟩
         simp[e1,e3,e4]
       .refine .inr ⟨λh=>e3 h.bucket,λκ=>?_⟩
        simp[e1,e3]
      .refine .inr ⟨λh=>e2 h.tries,λκ=>?_⟩
       have e5:(Ai b.m (k:Int)).tries > b.Ad.Ao:=by omega
       simp[e1,e5]
     .refine .inr ⟨λh=>e1 (Gs.2 h.right),λκ=>?_⟩
      simp[e1]
    .unfold qN
     rw[Ak (by simp)]
    .rw[and_true,h1,<-UI]
     exact⟨λh=>⟨rfl,h2,h3,h⟩,λh=>h.2.2.2⟩
   .rw[Aj (by simp;omega)]
    exact .no λh=>h3 h.2.2.1
  .rw[Aj (by simp;omega)]
   unfold Kh;rw[Aj rfl];exact .no λh=>h2 h.2.1
 .rw[Aj (by simp;omega)]
  unfold Kh;rw[Aj rfl];exact .no λh=>h1 h.1
theorem Y5e (b:Za):qQ b=some ([b.addr,b.Aa].filter (·.live)):=by
 unfold qQ;have:W0 [b.addr,b.Aa]=some ([b.addr,b.Aa].filter (·.live)):=by
  unfold W0 Ku;exact Yyd [b.addr,b.Aa] Zh.z0 (by simp) qP (·.live) (λa _=>rfl) _ (λm i=>rfl) _ (λm v i j=>rfl)
 rw[this];rfl
def DR:List Zh->List Int->List Int
 | [],l=>l
 | x::xs,l=>DR xs (l.set x.Ah.toNat (Ai l x.Ah+1))
theorem Y5h:∀(xs:List Zh) (x:Zh) (l:List Int),DR (xs++[x]) l=(DR xs l).set x.Ah.toNat (Ai (DR xs l) x.Ah+1):=by
 intro xs
 induction xs with
 | nil=>intro x l;rfl
 | cons y xs ih=>intro x l;exact ih x _
theorem Yui:∀(xs:List Zh) (l:List Int),(DR xs l).length=l.length:=by
 intro xs
 induction xs with
 | nil=>intro l;rfl
 | cons y xs ih=>intro l;rw[DR,ih,KI]
theorem Xbg:∀(xs:List Zh) (l:List Int) (i:Int),0<=i->i < (l.length:Int)->(∀x∈xs,0<=x.Ah/\x.Ah < (l.length:Int))->Ai (DR xs l) i=Ai l i+(xs.countP λx=>decide (x.Ah=i):Nat):=by
 intro xs
 induction xs with
 | nil=>intro l i _ _ _;simp[DR]
 | cons y xs ih=>
  intro l i h0 h1 hx;have hy:=hx y (BJ ..);rw[DR,ih _ i h0 (by simpa using h1) (λx hxm=>by simpa using hx x (Cp _ hxm)),gQ];by_cases h:y.Ah=i
  .subst h
   rw[dE _ hy.1 hy.2];simp;omega
  .rw[Ypj _ hy.1 h0 h]
   simp[h]
theorem Y7c (b:Za) (i:Int):(([b.addr,b.Aa].filter (·.live)).countP λx=>decide (x.Ah=i):Nat)=Jw b i:=by
 unfold Jw;by_cases h1:b.addr.live=true<;>by_cases h2:b.Aa.live=true<;>by_cases h3:b.addr.Ah=i<;>by_cases h4:b.Aa.Ah=i<;>simp[h1,h2,h3,h4]
theorem Y7s {b:Za} {P:Zh->Prop}:(∀k (h:k < ([b.addr,b.Aa].filter (·.live)).length),P (([b.addr,b.Aa].filter (·.live))[k]))↔(b.addr.live=true->P b.addr)/\(b.Aa.live=true->P b.Aa):=by
 have:(∀k (h:k < ([b.addr,b.Aa].filter (·.live)).length),P (([b.addr,b.Aa].filter (·.live))[k]))↔∀x∈[b.addr,b.Aa].filter (·.live),P x:=by
  constructor
  .intro h x hx
   obtain⟨k,hk,rfl⟩:=Pm hx;exact h k hk
  .intro h k hk;exact h _ (B5 hk)
 rw[this];constructor
 .intro h;exact⟨λh1=>h _ (by simp[h1]),λh1=>h _ (by simp[h1])⟩
 .intro h x hx
  simp only[Pp,Ce,Ip,or_false] at hx;rcases hx with⟨rfl|rfl,hx⟩
  .exact h.1 hx
  .exact h.2 hx
theorem Yl4 (b:Za):Y7 (Q7 b false) (b.Aa.second=true->b.Aa.left=0/\b.Aa.Ap≠0/\b.addr.live=false):=by
 unfold Q7;rw[Ak (by simp)];by_cases h1:b.Aa.second=true
 .rw[Ak (by simp[h1])]
  by_cases h2:b.Aa.left=0
  .rw[Aj (by simpa using h2)]
   by_cases h3:b.Aa.Ap=0
   .rw[Ak (by simpa using h3)];exact .no λh=>(h h1).2.1 h3
   .rw[Aj (by simpa using h3)]
    exact .of (by simp[h1,h2,h3])
  .rw[Ak (by simpa using h2)];exact .no λh=>h2 (h h1).1
 .rw[Aj (by simpa using h1)];exact .yes λh=>absurd h h1
theorem W7 {c:Zi} (hc:Ys c=true):(0<=c.Ao/\c.Ao<=3)/\(0<=c.Au/\c.Au<=3)/\(1<=c.Am/\c.Am<=40)/\(1<=c.Ar/\c.Ar<=12):=by
 simp only[Ys,Bg,Bj] at hc;have h3:=hc.1.2;have h4:F5 c≠0:=λh=>h3 (by unfold Jf;rw[Aj h]);have h5:1<=c.Am/\c.Am<=40:=by
  unfold Jf at h3;rw[Ak h4] at h3;by_cases h6:1<=c.Am/\c.Am<=40
  .exact h6
  .rw[Ak h6] at h3;exact absurd rfl h3
 have h6:(0<=c.Ao/\c.Ao<=3)/\(0<=c.Au/\c.Au<=3):=by
  unfold F5 at h4;by_cases h7:(0<=c.Ao/\c.Ao<=3)/\(0<=c.Au/\c.Au<=3)
  .exact h7
  .rw[Ak h7] at h4;exact absurd rfl h4
 exact⟨h6.1,h6.2,h5,hc.1.1.2⟩
theorem Y3q (b:Za) (hc:Ys b.Ad=true) (h1:b.m.length=b.Ad.Ab.length) (hl:b.Aa.live=true->Dv b b.Aa):Y7 (Xk b false) (Kz b):=by
 have hw:=(W7 hc).2.1;unfold Xk Kz;rw[Ak (by simp)];by_cases hd:b.Aa.live=true
 .obtain⟨hm,PG,JV⟩:=hl hd
  rw[Ak (by simp[hd]),Wv h1 hm,Ag,Aj hd,Wp,Ag,Wp,Ag,Yj (by omega) (by omega)];have dX:∀v,Y7 (cE b (Ai b.m b.Aa.Ah) v) (v=false/\(b.Aa.Ap=3->(Ai b.m b.Aa.Ah).Ax=false/\b.Aa.Ah≠b.Af)/\(b.Aa.second=true->b.Aa.left=0/\b.Aa.Ap≠0/\b.addr.live=false)):=by
   intro v;unfold cE;cases v with
   | true=>rw[Aj rfl];exact .no λh=>by simp at h
   | false=>
    rw[Ak (by simp)];by_cases h3:b.Aa.Ap=3
    .rw[Aj (by simpa using h3)]
     by_cases h4:(Ai b.m b.Aa.Ah).Ax=true
     .rw[Aj h4]
      unfold Q7;rw[Aj rfl];exact .no λh=>by have:=(h.2.1 h3).1;rw[h4] at this;cases this
     .rw[Ak h4]
      by_cases h5:b.Aa.Ah=b.Af
      .rw[decide_eq_true h5]
       unfold Q7;rw[Aj rfl];exact .no λh=>(h.2.1 h3).2 h5
      .rw[decide_eq_false h5]
       exact (Yl4 b).iff ⟨λh=>⟨rfl,λ_=>⟨by simpa using h4,h5⟩,h⟩,λh=>h.2.2⟩
    .rw[Ak (by simpa using h3)]
     exact (Yl4 b).iff ⟨λh=>⟨rfl,λh6=>absurd h6 h3,h⟩,λh=>h.2.2⟩
  have hJ5:∀v,Y7 (Un b (Ai b.m b.Aa.Ah) v) (v=false/\(b.Aa.Ap=2->(Ai b.m b.Aa.Ah).tries < b.Ad.Ao)/\(b.Aa.Ap=3->(Ai b.m b.Aa.Ah).Ax=false/\b.Aa.Ah≠b.Af)/\(b.Aa.second=true->b.Aa.left=0/\b.Aa.Ap≠0/\b.addr.live=false)):=by
   intro v;unfold Un;cases v with
   | true=>rw[Aj rfl];exact .no λh=>by simp at h
   | false=>
    rw[Ak (by simp)];by_cases h3:b.Aa.Ap=2
    .rw[Aj (by simpa using h3)]
     refine (dX _).iff ?_;simp[h3]
    .rw[Ak (by simpa using h3)]
     refine (dX _).iff ?_;simp[h3]
  by_cases h3:b.Aa.An=(Ai b.m b.Aa.Ah).done
  .rw[Ak (by simpa using h3)]
   by_cases h4:0<=b.Aa.left/\b.Aa.left<=b.Ad.Au+2
   .rw[Ak (by simpa using h4)]
    refine (hJ5 _).iff ?_;simp[h3,h4]
   .rw[Aj (by rw[decide_eq_false h4];rfl)]
    exact (hJ5 _).iff ⟨λh=>by simp at h,λh=>absurd h.1.2.1 h4⟩
  .rw[Aj (by simpa using h3)]
   exact (hJ5 _).iff ⟨λh=>by simp at h,λh=>absurd h.1.1 h3⟩
 .rw[Aj (by simpa using hd),Ak hd]
  exact .of (dW _)
theorem Y4p {l:List Int} {N:Int} (hN:0<=N) (h:∀v∈l,0<=v/\v<=N) (i:Int):0<=Ai l i/\Ai l i<=N:=by
 unfold Ai;rw[N2];cases hg:l[i.toNat]? with
 | none=>exact⟨LY _,hN⟩
 | some v=>exact h v (Eh hg)
theorem Y8y:∀(xs:List Zh) (l:List Int) (N:Int),0<=N->(∀v∈l,0<=v/\v<=N)->∀v∈DR xs l,0<=v/\v<=N+xs.length:=by
 intro xs
 induction xs with
 | nil=>intro l N _ h v hv;have:=h v hv;simpa using this
 | cons x xs ih=>
  intro l N hN h v hv;have h2:=Y4p hN h x.Ah;have:=ih (l.set x.Ah.toNat (Ai l x.Ah+1)) (N+1) (by omega) (λy hy=>by
   rcases Vj hy with hy|rfl
   .have:=h y hy;omega
   .omega) v hv
  simp only[AU];omega
theorem Yh5 (b:Za) (hc:Ys b.Ad=true) (h1:b.m.length=b.Ad.Ab.length) (h3:b.splits.length=b.Ad.Ab.length) (hr:∀i,Zm b.Ad i=true->Yy (Ai b.m i)):
  Y7 (Uo b) (((b.addr.live=true->Dv b b.addr)/\(b.Aa.live=true->Dv b b.Aa))/\(∀i,Zm b.Ad i=true->(Ai b.m i).An - (Ai b.m i).done=Jw b i)/\Jr b/\Kz b):=by
 have Yo:=Kq hc;have Z7:=Gq hc;unfold Uo;rw[Yue (by omega) (by omega),Ag,Y5e,Ag];generalize hLs:[b.addr,b.Aa].filter (·.live)=ls;have hls:ls.length<=2:=by
  rw[<-hLs];exact LX (Ta ..) (by simp)
 have Xad:∀x:Zh,Zm b.Ad x.Ah=true->0<=x.Ah/\x.Ah < (b.m.length:Int):=λx h=>by
  simp only[Zm,Bj] at h;omega
 have M5:(∀x∈ls,Zm b.Ad x.Ah=true)->((b.addr.live=true->Dv b b.addr)/\(b.Aa.live=true->Dv b b.Aa))->Y7 (cF b FU (DR ls (List.replicate b.m.length 0)) 0) ((∀i,Zm b.Ad i=true->(Ai b.m i).An - (Ai b.m i).done=Jw b i)/\Jr b/\Kz b):=by
  intro CG Xae;have hfa:∀i,Zm b.Ad i=true->Ai (DR ls (List.replicate b.m.length 0)) i=Jw b i:=by
   intro i hi;simp only[Zm,Bj] at hi;rw[Xbg _ _ i hi.1 (by simp;omega) (λx hx=>by have:=Xad x (CG x hx);simpa using this),<-Y7c,hLs];have:Ai (List.replicate b.m.length (0:Int)) i=0:=by
    unfold Ai;rw[N2,Ved];split<;>rfl
   rw[this];simp
  have hQ:∃r,(∀κ,W1 b κ (DR ls (List.replicate b.m.length 0)) (b.m.length:Int)=some r)/\(r=true↔Jr b/\Kz b):=by
   obtain⟨r,h4,h5⟩:=Y3q b hc h1 Xae.2;have dY:Xk b true=some false:=by unfold Xk;rw[Aj rfl]
   by_cases ha:b.addr.live=true
   .obtain⟨hm,PG,JV⟩:=Xae.1 ha
    have Tt:=Gt (hr _ hm);by_cases e1:b.addr.An=(Ai b.m b.addr.Ah).An - 1/\b.addr.left=0/\b.addr.Ap=0/\b.addr.second=false
    .refine⟨r,λκ=>?_,?_⟩
     .unfold W1
      obtain⟨f1,f2,f3,f4⟩:=e1;rw[Ak (by simp),Aj ha,Wv h1 hm,Ag,Xc (by omega) (by omega)];simp only[f1,f2,f3,f4,ha,ne_eq,not_true_eq_false,decide_false,Bn,if_false,Du,h4]
     .rw[h5];unfold Jr;rw[Aj ha];exact⟨λh=>⟨e1,h⟩,λh=>h.2⟩
    .refine⟨false,λκ=>?_,?_⟩
     .unfold W1
      rw[Ak (by simp),Aj ha,Wv h1 hm,Ag,Xc (by omega) (by omega)];by_cases f1:b.addr.An=(Ai b.m b.addr.Ah).An - 1
      .by_cases f2:b.addr.left=0
       .by_cases f3:b.addr.Ap=0
        .have f4:b.addr.second=true:=by
          cases hs:b.addr.second with
          | true=>rfl
          | false=>exact absurd ⟨f1,f2,f3,hs⟩ e1
         rw[Ak (by simpa using f1),Ak (by simpa using f2),Ak (by simpa using f3),Aj f4,dY]
        .rw[Ak (by simpa using f1),Ak (by simpa using f2),Aj (by simpa using f3),dY]
       .rw[Ak (by simpa using f1),Aj (by simpa using f2),dY]
      .rw[Aj (by simpa using f1),dY]
     .unfold Jr;rw[Aj ha];simp[e1]
   .by_cases e1:b.addr=Zh.z0
    .refine⟨r,λκ=>?_,?_⟩
     .unfold W1
      rw[Ak (by simp),Ak ha,Aj (by simpa using ha),(dW b.addr).2 e1];exact h4
     .rw[h5];unfold Jr;rw[Ak ha];exact⟨λh=>⟨e1,h⟩,λh=>h.2⟩
    .refine⟨false,λκ=>?_,?_⟩
     .unfold W1
      rw[Ak (by simp),Ak ha,Aj (by simpa using ha)];have:((b.addr.live == false)&&(decide (b.addr.Ah=0)&&(decide (b.addr.An=0)&&((b.addr.first == false)&&(decide (b.addr.B6=0)&&(decide (b.addr.left=0)&&(decide (b.addr.Ap=0)&&((b.addr.second == false)&&true))))))))=false:=by
       rw[<-Bool.not_eq_true,dW];exact e1
      rw[this,FF,dY]
     .unfold Jr;rw[Ak ha];simp[e1]
  obtain⟨r,E3,C6⟩:=hQ;refine (sP (σ:=List Int) (n:=b.m.length) (by omega) (P:=λk=>(Ai b.m (k:Int)).An - (Ai b.m (k:Int)).done=Jw b (k:Int)) (Q:=Jr b/\Kz b) (λ_=>DR ls (List.replicate b.m.length 0)) (B:=W1 b) (L:=cF b) (λm s i=>rfl) (λk hk=>?_) λ_=>⟨r,E3,C6⟩).iff ?_
  .have hm:=FT (c:=b.Ad) (k:=k) (by omega)
   have Tt:=Gt (hr _ hm);have BM:=Yui ls (List.replicate b.m.length 0);rw[gI] at BM;have hi:idx (DR ls (List.replicate b.m.length 0)) (k:Int)=some (Jw b (k:Int)):=by
    rw[Xm (by omega) (by omega),hfa _ hm]
   by_cases e1:(Ai b.m (k:Int)).An - (Ai b.m (k:Int)).done=Jw b (k:Int)
   .refine .inl ⟨e1,λκ=>?_⟩
    unfold W1;rw[Aj (by simpa using hk),Wv h1 hm,Ag,hi,Ag,Xc (by omega) (by omega),Ak (by simpa using e1)]
   .refine .inr ⟨e1,λκ=>?_⟩
    unfold W1;rw[Aj (by simpa using hk),Wv h1 hm,Ag,hi,Ag,Xc (by omega) (by omega),Aj (by simpa using e1)]
  .rw[h1,<-UI (P:=λi=>(Ai b.m i).An - (Ai b.m i).done=Jw b i)]
 have hlv:(∀k,k < ls.length->Dv b (Ai ls (k:Int)))↔((b.addr.live=true->Dv b b.addr)/\(b.Aa.live=true->Dv b b.Aa)):=by
  rw[<-Y7s (P:=Dv b),hLs];constructor
  .intro h k hk;have:=h k hk;rwa [Qk hk] at this
  .intro h k hk;rw[Qk hk];exact h k hk
 have dZ:∀k,k < ls.length->(Dv b (Ai ls (k:Int))/\∀κ,W5 b κ (DR (ls.take k) (List.replicate b.m.length 0)) ls (ls.length:Int) (k:Int)=κ (DR (ls.take (k+1)) (List.replicate b.m.length 0)) ls (ls.length:Int) (Zn (k:Int) 1))\/(¬Dv b (Ai ls (k:Int))/\∀κ,W5 b κ (DR (ls.take k) (List.replicate b.m.length 0)) ls (ls.length:Int) (k:Int)=some false):=by
  intro k hk;have BM:=Yui (ls.take k) (List.replicate b.m.length 0);rw[gI] at BM;have Sp:∀κ x,Ji b κ x (DR (ls.take k) (List.replicate b.m.length 0)) ls (ls.length:Int) (k:Int) true=some false:=λκ x=>by unfold Ji;rw[Aj rfl]
  by_cases e1:Zm b.Ad (Ai ls (k:Int)).Ah=true
  .by_cases e2:1<=(Ai ls (k:Int)).B6/\(Ai ls (k:Int)).B6<=3
   .by_cases e3:Ai b.splits (Ai ls (k:Int)).Ah=0
    .refine .inl ⟨⟨e1,e2,e3⟩,λκ=>?_⟩
     unfold W5;have hw:=Xad _ e1;rw[Aj (by simpa using hk),Xm (by omega) (by omega),Ag,LC _ _ Z7,Ag,e1,Ak (by simp),Wp,Ag,Ak (by simpa using e2),HZ h3 e1,Ag,e3];unfold Ji;have hb:=Y4p (by omega) (Y8y (ls.take k) (List.replicate b.m.length 0) 0 (by omega) (λv hv=>by rw[List.eq_of_mem_replicate hv];omega)) (Ai ls (k:Int)).Ah;have GP:(ls.take k).length<=2:=by rw[FZ];omega
     rw[Ak (by simp),Xm hw.1 (by omega),Ag,Yj (a:=Ai (DR (ls.take k) (List.replicate b.m.length 0)) (Ai ls (k:Int)).Ah) (by omega) (by omega),Qm,Ag,List.take_succ_eq_append_getElem hk,Y5h,Qk hk]
    .refine .inr ⟨λh=>e3 h.2.2,λκ=>?_⟩
     unfold W5;rw[Aj (by simpa using hk),Xm (by omega) (by omega),Ag,LC _ _ Z7,Ag,e1,Ak (by simp),Wp,Ag,Ak (by simpa using e2),HZ h3 e1,Ag,decide_eq_true e3,Sp]
   .refine .inr ⟨λh=>e2 h.2.1,λκ=>?_⟩
    unfold W5;rw[Aj (by simpa using hk),Xm (by omega) (by omega),Ag,LC _ _ Z7,Ag,e1,Ak (by simp),Wp,Ag,Aj (by rw[decide_eq_false e2];rfl),Sp]
  .refine .inr ⟨λh=>e1 h.1,λκ=>?_⟩
   unfold W5;rw[Aj (by simpa using hk),Xm (by omega) (by omega),Ag,LC _ _ Z7,Ag,Aj (by simpa using e1),Sp]
 have PI:=sP (σ:=List Int×List Zh×Int) (n:=ls.length) (by omega) (P:=λk=>Dv b (Ai ls (k:Int)))
  (Q:=(∀i,Zm b.Ad i=true->(Ai b.m i).An - (Ai b.m i).done=Jw b i)/\Jr b/\Kz b)
  (λk=>(DR (ls.take k) (List.replicate b.m.length 0),ls,(ls.length:Int))) (B:=λκ s i=>W5 b (λv l n i=>κ (v,l,n) i) s.1 s.2.1 s.2.2 i) (L:=λm s i=>qR b m s.1 s.2.1 s.2.2 i) (λm s i=>rfl)
  (λk hk=>(dZ k hk).imp (λh=>⟨h.1,λκ=>h.2 _⟩) λh=>⟨h.1,λκ=>h.2 _⟩)
 have CG:(∀k,k < ls.length->Dv b (Ai ls (k:Int)))->∀x∈ls,Zm b.Ad x.Ah=true:=by
  intro h x hx;obtain⟨k,hk,rfl⟩:=Pm hx;have:=(h k hk).1
  rwa [Qk hk] at this
 have CI:=PI λK3=>by
  obtain⟨r,E3,C6⟩:=M5 (CG K3) (hlv.1 K3);refine⟨r,λκ=>?_,C6⟩;unfold W5;rw[Ak (by simp),Fb];exact E3
 simp only[List.take_zero,DR] at CI;exact CI.iff (by rw[hlv])
theorem Ynt (b:Za) (hc:Ys b.Ad=true) (h1:b.m.length=b.Ad.Ab.length) (h3:b.splits.length=b.Ad.Ab.length):Y7 (Up b) (Gu b):=by
 have Yo:=Kq hc;have Z7:=Gq hc;unfold Up Gu;refine (dU (n:=b.m.length) (by omega) (P:=λk=>(Ai b.m (k:Int)).An > 0->Yr (Ai b.m (k:Int))=true->b.Af=(k:Int))
  (Q:=if b.Af=-1 then b.held=0 else Zm b.Ad b.Af=true/\Yr (Ai b.m b.Af)=true/\Ai b.splits b.Af=0/\(0<=b.held/\b.held<=b.Ad.Am))
  (B:=qS b) (λm i=>rfl) (λk hk=>?_) λ_=>?_).iff ?_
 .have hm:=FT (c:=b.Ad) (k:=k) (by omega)
  unfold qS;simp only[Aj (show decide ((k:Int) < (b.m.length:Int))=true by simpa using hk),Wv h1 hm,Ag,Z8s];by_cases e1:(Ai b.m (k:Int)).An > 0
  .by_cases e2:Yr (Ai b.m (k:Int))=true
   .by_cases e3:b.Af=(k:Int)
    .exact .inl ⟨λ_ _=>e3,λκ=>by simp[e1,e2,e3]⟩
    .exact .inr ⟨λh=>e3 (h e1 e2),λκ=>by simp[e1,e2,e3]⟩
   .exact .inl ⟨λ_ h=>absurd h e2,λκ=>by simp[e1,e2]⟩
  .exact .inl ⟨λh=>absurd h e1,λκ=>by simp[e1]⟩
 .unfold qS
  simp only[Int.lt_irrefl,decide_false,Bn,if_false];by_cases e1:b.Af=-1
  .exact⟨decide (b.held=0),λκ=>by simp[e1],by simp[e1]⟩
  .simp only[e1,decide_false,Bn,if_false,LC _ _ Z7,Ag]
   by_cases e2:Zm b.Ad b.Af=true
   .simp only[e2,if_true,Wv h1 e2,HZ h3 e2,Ag,Z8s,Wp]
    by_cases e3:Yr (Ai b.m b.Af)=true
    .by_cases e4:Ai b.splits b.Af=0
     .exact⟨decide (0<=b.held/\b.held<=b.Ad.Am),λκ=>by simp only[e3,e4,decide_true,if_true],by simp[e3,e4]⟩
     .exact⟨false,λκ=>by simp[e3,e4],by simp[e4]⟩
    .exact⟨false,λκ=>by simp[e3],by simp[e3]⟩
   .exact⟨false,λκ=>by simp[e2],by simp[e2]⟩
 .rw[h1,<-UI (P:=λi=>(Ai b.m i).An > 0->Yr (Ai b.m i)=true->b.Af=i)]
def GQ (l:List Zs):Nat->Int
 | 0=>-1
 | k+1=>(Ai l (k:Int)).A3
theorem Ytz {l:List Zs}:(l.Pairwise λx y=>x.A3 < y.A3)↔∀k,k+1 < l.length->(Ai l (k:Int)).A3 < (Ai l ((k+1:Nat):Int)).A3:=by
 constructor
 .intro h k hk
  rw[Qk (by omega),Qk hk];exact Vd7.1 h k (k+1) (by omega) hk (by omega)
 .intro h
  rw[Vd7];have key:∀(d i:Nat) (hj:i+d+1 < l.length),(l[i]'(by omega)).A3 < (l[i+d+1]'hj).A3:=by
   intro d
   induction d with
   | zero=>
    intro i hj;have:=h i hj;rw[Qk (by omega),Qk hj] at this;exact this
   | succ d ih=>
    intro i hj;have h4:=ih i (by omega);have h5:=h (i+d+1) (by omega);rw[Qk (by omega),Qk (by omega)] at h5;exact Int.lt_trans h4 h5
  intro i j hi hj hij;have:=key (j - i - 1) i (by omega);have e:i+(j - i - 1)+1=j:=by omega
  simp only[e] at this;exact this
theorem Yz5 {b:Za}:Nk b↔∀k,k < b.log.length->So b.Ad b.now (Ai b.log (k:Int))/\GQ b.log k < (Ai b.log (k:Int)).A3:=by
 unfold Nk;constructor
 .intro h k hk
  have h1:=h.1 _ (Gn (xs:=b.log) (i:=(k:Int)) (by omega) (by omega));refine⟨h1,?_⟩;cases k with
  | zero=>have:=h1.1.1;simp only[GQ];omega
  | succ k=>exact Ytz.1 h.2 k hk
 .intro h
  refine⟨λd hd=>?_,Ytz.2 λk hk=>?_⟩
  .obtain⟨k,hk,rfl⟩:=Pm hd
   have:=(h k hk).1
   rwa [Qk hk] at this
  .exact (h (k+1) hk).2
def OS (c:Zi) (now:Int) (d:Zs):Prop:=d.A3 < now/\Zm c d.Ah=true/\Xv d.addr d.size=true/\d.addr < 512/\Y8 d.value d.size=true/\(d.Ap=0\/d.Ap=1)
theorem Y9m {b:Za}:Nk b↔∀k,k < b.log.length->OS b.Ad b.now (Ai b.log (k:Int))/\GQ b.log k < (Ai b.log (k:Int)).A3:=by
 rw[Yz5];constructor
 .intro h k hk
  have:=h k hk;exact⟨⟨this.1.1.2,this.1.2⟩,this.2⟩
 .intro h
  have h0:∀k,k<=b.log.length->-1<=GQ b.log k:=by
   intro k
   induction k with
   | zero=>intro _;simp[GQ]
   | succ k ih=>
    intro hk;have h1:=ih (by omega);have h2:=(h k (by omega)).2;simp only[GQ];omega
  intro k hk;have h1:=h k hk;have h2:=h0 k (by omega);exact⟨⟨⟨by omega,h1.1.1⟩,h1.1.2⟩,h1.2⟩
theorem Yie (b:Za) (hc:Ys b.Ad=true) (hl:b.log.length < 1048577) (hn:0<=b.now/\b.now<=4000):Y7 (Uq b) (Nk b):=by
 have Z7:=Gq hc;unfold Uq;have:=sP (σ:=Int) (n:=b.log.length) (by omega) (P:=λk=>OS b.Ad b.now (Ai b.log (k:Int))/\GQ b.log k < (Ai b.log (k:Int)).A3) (Q:=True)
  (GQ b.log) (B:=qT b) (L:=qU b) (λm s i=>rfl) (λk hk=>?_) λ_=>⟨true,λκ=>?_,by simp⟩
 .exact this.iff (by rw[and_true,Y9m])
 .have e0:GQ b.log (k+1)=(Ai b.log (k:Int)).A3:=rfl
  rw[e0];unfold qT;simp only[Aj (show decide ((k:Int) < (b.log.length:Int))=true by simpa using hk),Xm (xs:=b.log) (i:=(k:Int)) (by omega) (by omega),Ag,LC _ _ Z7,sI,Si];generalize Ai b.log (k:Int)=d;by_cases e1:GQ b.log k < d.A3
  .have E4:¬d.A3<=GQ b.log k:=by omega
   by_cases e2:d.A3 < b.now
   .have H0:¬d.A3≥b.now:=by omega
    by_cases e3:Zm b.Ad d.Ah=true
    .by_cases e4:Xv d.addr d.size=true
     .by_cases e5:d.addr < 512
      .have Ia:¬d.addr≥512:=by omega
       by_cases e6:Y8 d.value d.size=true
       .by_cases e7:d.Ap=0
        .exact .inl ⟨⟨⟨e2,e3,e4,e5,e6,.inl e7⟩,e1⟩,λκ=>by simp[E4,H0,e3,e4,Ia,e6,e7]⟩
        .by_cases e8:d.Ap=1
         .exact .inl ⟨⟨⟨e2,e3,e4,e5,e6,.inr e8⟩,e1⟩,λκ=>by simp[E4,H0,e3,e4,Ia,e6,e8]⟩
         .exact .inr ⟨λh=>by have:=h.1.2.2.2.2.2;omega,λκ=>by simp[E4,H0,e3,e4,Ia,e6,e7,e8]⟩
       .exact .inr ⟨λh=>e6 h.1.2.2.2.2.1,λκ=>by simp[E4,H0,e3,e4,Ia,e6]⟩
      .have Ia:d.addr≥512:=by omega
       exact .inr ⟨λh=>e5 h.1.2.2.2.1,λκ=>by simp[E4,H0,e3,e4,Ia]⟩
     .exact .inr ⟨λh=>e4 h.1.2.2.1,λκ=>by simp[E4,H0,e3,e4]⟩
    .exact .inr ⟨λh=>e3 h.1.2.1,λκ=>by simp[E4,H0,e3]⟩
   .have H0:d.A3≥b.now:=by omega
    exact .inr ⟨λh=>e2 h.1.1,λκ=>by simp[E4,H0]⟩
  .have E4:d.A3<=GQ b.log k:=by omega
   exact .inr ⟨λh=>e1 h.2,λκ=>by simp[E4]⟩
 .unfold qT
  rw[Ak (by simp)]
theorem Yq0 (b:Za) (hs:b.sm):Y7 (Ur b) (CP b):=by
 unfold Ur;rw[U8 _ hs.Ad,Ag];by_cases hc:Ys b.Ad=true
 .rw[Aj hc,Wp,Ag]
  by_cases hn:0<=b.now/\b.now<=4000
  .rw[Aj (decide_eq_true hn)]
   have Xaf:b.m.length=b.Ad.Ab.length->b.buckets.length=b.Ad.Ab.length->b.splits.length=b.Ad.Ab.length->(∀i,Zm b.Ad i=true->HY b.Ad b i)->
     Y7 ((RN b.model).bind λr133=>if r133=true then (Yn b.At 0 b.now).bind λr140=>if r140=true then (Uo b).bind λr143=>if r143=true then (Up b).bind λr146=>if r146=true then (Uq b).bind λr149=>some r149 else some false else some false else some false else some false)
      (Ef b.model/\(0<=b.At/\b.At<=b.now)/\(((b.addr.live=true->Dv b b.addr)/\(b.Aa.live=true->Dv b b.Aa))/\(∀i,Zm b.Ad i=true->(Ai b.m i).An - (Ai b.m i).done=Jw b i)/\Jr b/\Kz b)/\Gu b/\Nk b):=by
    intro h1 h2 h3 hm;rw[Ydn _ hs.model];refine Y7.and (Y7.of dS) λ_=>?_;rw[Wp];refine Y7.and (Y7.of (decide_eq_true_iff)) λ_=>?_;refine Y7.and (Yh5 b hc h1 h3 λi hi=>(hm i hi).right) λ_=>?_;refine Y7.and (Ynt b hc h1 h3) λ_=>?_;obtain⟨r,h4,h5⟩:=Yie b hc hs.log hn;rw[h4];exact .of h5
   have hw:Y7 (RM b.Bq b.Ad) (CF b.Bq b.Ad=true):=by rw[Z90 _ _ hs.Ad];exact .of Iff.rfl
   by_cases sQ:b.last=-1
   .simp only[sQ,decide_true,if_true]
    refine (Y7.and (Zzn b hs hc) λhm=>Y7.and hw λ_=>Xaf hm.1 hm.2.1 hm.2.2.1 hm.2.2.2).iff ⟨λh=>?_,λh=>?_⟩
    .obtain⟨⟨h1,h2,h3,h4⟩,h5,h6,h7,⟨⟨h8,h9⟩,JS,Sq,eA⟩,eB,h14⟩:=h
     exact⟨hc,hn,h1,h2,h3,h4,h5,.inl sQ,h6,h7,h8,h9,JS,Sq,eA,eB,h14⟩
    .exact⟨⟨h.ml,h.bl,h.sl,h.Bx⟩,h.Bq,h.model,h.At,⟨⟨h.alive,h.B9⟩,h.Dq,h.addr,h.data⟩,h.held,h.log⟩
   .have e:decide (b.last=-1)=false:=decide_eq_false sQ
    simp only[e,Bn,if_false];have hi:Y7 (JH b.Ad b.last) (Zm b.Ad b.last=true):=by rw[LC _ _ hs.Ad];exact .of Iff.rfl
    refine (Y7.and (Zzn b hs hc) λhm=>Y7.and hw λ_=>Y7.and hi λ_=>Xaf hm.1 hm.2.1 hm.2.2.1 hm.2.2.2).iff ⟨λh=>?_,λh=>?_⟩
    .obtain⟨⟨h1,h2,h3,h4⟩,h5,hx,h6,h7,⟨⟨h8,h9⟩,JS,Sq,eA⟩,eB,h14⟩:=h
     exact⟨hc,hn,h1,h2,h3,h4,h5,.inr hx,h6,h7,h8,h9,JS,Sq,eA,eB,h14⟩
    .exact⟨⟨h.ml,h.bl,h.sl,h.Bx⟩,h.Bq,h.last.resolve_left sQ,h.model,h.At,⟨⟨h.alive,h.B9⟩,h.Dq,h.addr,h.data⟩,h.held,h.log⟩
  .rw[Ak (by simpa using hn)]
   exact .no λh=>hn h.now
 .rw[Ak hc]
  exact .no λh=>hc h.Ad
theorem Y4u (b:Za) (i:Int):kY b i=some (Jw b i):=by
 unfold kY kX kW Jw;by_cases h1:b.addr.live=true<;>by_cases h2:b.Aa.live=true<;>by_cases h3:b.addr.Ah=i<;>by_cases h4:b.Aa.Ah=i<;>simp[h1,h2,h3,h4]<;>rfl
theorem Yrl (n:Int):∃w,ML n=some w/\((!(w.toList == ByteArray.empty.toList))=true↔(0<=n/\n<=3)):=by
 unfold ML;rw[Xu,Ag];by_cases h:0<=n/\n<=3
 .have:n=0\/n=1\/n=2\/n=3:=by omega
  rcases this with rfl|rfl|rfl|rfl<;>exact⟨_,rfl,by rw[Ypr,Ypr];decide⟩
 .rw[Aj (by rw[decide_eq_false h];rfl)]
  exact⟨_,rfl,by simp[h]⟩
theorem eC {b:Za} (h1:b.m.length=b.Ad.Ab.length) (Z7:b.Ad.Ab.length < 1048577) (i:Int):Z2 i 0 (Xf (b.m.length:Int) 1)=some (Zm b.Ad i):=by
 rw[Xu,h1,dI i Z7]
theorem Ynw (b:Za) (hs:b.sm) (hc:Ys b.Ad=true) (h1:b.m.length=b.Ad.Ab.length) (h3:b.splits.length=b.Ad.Ab.length) (hm:∀i,Zm b.Ad i=true->HY b.Ad b i):
  Y7 (MM b b.addr false) ((b.addr.live=true->Dv b b.addr)/\Jr b):=by
 have Z7:=Gq hc;have Nl:Kv b b.addr false true=some false:=by unfold Kv;rw[Aj rfl]
 unfold MM Jr;by_cases ha:b.addr.live=true
 .rw[Ak (by simp[ha]),Aj ha,eC h1 Z7,Ag,Xu,Ag]
  by_cases e1:Zm b.Ad b.addr.Ah=true
  .rw[e1,Ak (by simp)]
   by_cases e2:1<=b.addr.B6/\b.addr.B6<=3
   .rw[Ak (by simpa using e2),HZ h3 e1,Ag]
    have JV:=(hm _ e1).split;by_cases e3:Ai b.splits b.addr.Ah=0
    .rw[decide_eq_false (by omega)]
     have Tt:=Gt (hm _ e1).right;unfold Kv;rw[Ak (by simp),Wv h1 e1,Ag,Aj (by simp),Xc (by omega) (by omega)];by_cases f1:b.addr.An=(Ai b.m b.addr.Ah).An - 1
     .by_cases f2:b.addr.left=0
      .by_cases f3:b.addr.Ap=0
       .rw[Aj (by simpa using f1),Aj (by simpa using f2),Aj (by simpa using f3)]
        refine .of ⟨λh=>⟨λ_=>⟨e1,e2,e3⟩,f1,f2,f3,by simpa using h⟩,λh=>by simpa using h.2.2.2.2⟩
       .rw[Aj (by simpa using f1),Aj (by simpa using f2),Ak (by simpa using f3)]
        exact .no λh=>f3 h.2.2.2.1
      .rw[Aj (by simpa using f1),Ak (by simpa using f2)]
       exact .no λh=>f2 h.2.2.1
     .rw[Ak (by simpa using f1)]
      exact .no λh=>f1 h.2.1
    .rw[decide_eq_true (by omega),Nl]
     exact .no λh=>e3 (h.1 ha).2.2
   .rw[Aj (by rw[decide_eq_false e2];rfl),Nl]
    exact .no λh=>e2 (h.1 ha).2.1
  .rw[Aj (by simpa using e1),Nl]
   exact .no λh=>e1 (h.1 ha).1
 .rw[Aj (by simpa using ha),Ak ha]
  exact (Y7.of (dW _)).iff ⟨λh=>⟨λh2=>absurd h2 ha,h⟩,λh=>h.2⟩
theorem Yns (b:Za) (hs:b.sm) (hc:Ys b.Ad=true) (h1:b.m.length=b.Ad.Ab.length) (h3:b.splits.length=b.Ad.Ab.length) (hm:∀i,Zm b.Ad i=true->HY b.Ad b i):
  Y7 (MM b b.Aa true) ((b.Aa.live=true->Dv b b.Aa)/\Kz b):=by
 have Z7:=Gq hc;have hw:=(W7 hc).2.1;have Nl:Kv b b.Aa true true=some false:=by unfold Kv;rw[Aj rfl]
 unfold MM Kz;by_cases ha:b.Aa.live=true
 .rw[Ak (by simp[ha]),Aj ha,eC h1 Z7,Ag,Xu,Ag]
  by_cases e1:Zm b.Ad b.Aa.Ah=true
  .rw[e1,Ak (by simp)]
   by_cases e2:1<=b.Aa.B6/\b.Aa.B6<=3
   .rw[Ak (by simpa using e2),HZ h3 e1,Ag]
    have JV:=(hm _ e1).split;by_cases e3:Ai b.splits b.Aa.Ah=0
    .rw[decide_eq_false (by omega)]
     have Tt:=Gt (hm _ e1).right;have eD:Y7 (Yi b b.Aa true (Ai b.m b.Aa.Ah) false) ((b.Aa.An=(Ai b.m b.Aa.Ah).done/\(0<=b.Aa.left/\b.Aa.left<=b.Ad.Au+2)/\(0<=b.Aa.Ap/\b.Aa.Ap<=3))/\(b.Aa.second=true->b.Aa.left=0/\b.Aa.Ap≠0)):=by
      unfold Yi;obtain⟨w,hw1,hw2⟩:=Yrl b.Aa.Ap;rw[Ak (by simp),Xu,Ag,hw1,Ag,Yj (by omega) (by omega)];by_cases f1:b.Aa.An=(Ai b.m b.Aa.Ah).done
      .rw[Aj (by simpa using f1)]
       by_cases f2:0<=b.Aa.left/\b.Aa.left<=b.Ad.Au+2
       .rw[Aj (by simpa using f2)]
        by_cases f3:0<=b.Aa.Ap/\b.Aa.Ap<=3
        .rw[Aj (hw2.2 f3)]
         by_cases f4:b.Aa.second=true
         .rw[Ak (by simp[f4])]
          by_cases f5:b.Aa.Ap=0
          .rw[Ak (by simpa using f5)]
           exact .no λh=>(h.2 f4).2 f5
          .rw[Aj (by simpa using f5)]
           refine .of ⟨λh=>⟨⟨f1,f2,f3⟩,λ_=>⟨by simpa using h,f5⟩⟩,λh=>by simpa using (h.2 f4).1⟩
         .rw[Aj (by simpa using f4)]
          exact .yes ⟨⟨f1,f2,f3⟩,λh=>absurd h f4⟩
        .rw[Ak (λh=>f3 (hw2.1 h))]
         exact .no λh=>f3 h.1.2.2
       .rw[Ak (by rw[decide_eq_false f2];simp)]
        exact .no λh=>f2 h.1.2.1
      .rw[Ak (by simpa using f1)]
       exact .no λh=>f1 h.1.1
     have sR:Yi b b.Aa true (Ai b.m b.Aa.Ah) true=some false:=by unfold Yi;rw[Aj rfl]
     have hS:Y7 (if b.Aa.second=true then Yi b b.Aa true (Ai b.m b.Aa.Ah) b.addr.live else Yi b b.Aa true (Ai b.m b.Aa.Ah) false)
       ((b.Aa.An=(Ai b.m b.Aa.Ah).done/\(0<=b.Aa.left/\b.Aa.left<=b.Ad.Au+2)/\(0<=b.Aa.Ap/\b.Aa.Ap<=3))/\(b.Aa.second=true->b.Aa.left=0/\b.Aa.Ap≠0/\b.addr.live=false)):=by
      by_cases f4:b.Aa.second=true
      .rw[Aj f4]
       by_cases f5:b.addr.live=true
       .rw[f5,sR]
        exact .no λh=>by have:=(h.2 f4).2.2;cases this
       .have f6:b.addr.live=false:=by simpa using f5
        rw[f6];exact eD.iff ⟨λh=>⟨h.1,λh2=>⟨(h.2 h2).1,(h.2 h2).2,rfl⟩⟩,λh=>⟨h.1,λh2=>⟨(h.2 h2).1,(h.2 h2).2.1⟩⟩⟩
      .rw[Ak f4]
       exact eD.iff ⟨λh=>⟨h.1,λh2=>absurd h2 f4⟩,λh=>⟨h.1,λh2=>absurd h2 f4⟩⟩
     have hT:Y7 (if decide (b.Aa.Ap=3)=true then if (Ai b.m b.Aa.Ah).Ax=true then Yi b b.Aa true (Ai b.m b.Aa.Ah) true else if decide (b.Af=b.Aa.Ah)=true then Yi b b.Aa true (Ai b.m b.Aa.Ah) true else if b.Aa.second=true then Yi b b.Aa true (Ai b.m b.Aa.Ah) b.addr.live else Yi b b.Aa true (Ai b.m b.Aa.Ah) false
       else if b.Aa.second=true then Yi b b.Aa true (Ai b.m b.Aa.Ah) b.addr.live else Yi b b.Aa true (Ai b.m b.Aa.Ah) false)
       ((b.Aa.Ap=3->(Ai b.m b.Aa.Ah).Ax=false/\b.Aa.Ah≠b.Af)/\(b.Aa.An=(Ai b.m b.Aa.Ah).done/\(0<=b.Aa.left/\b.Aa.left<=b.Ad.Au+2)/\(0<=b.Aa.Ap/\b.Aa.Ap<=3))/\(b.Aa.second=true->b.Aa.left=0/\b.Aa.Ap≠0/\b.addr.live=false)):=by
      by_cases f3:b.Aa.Ap=3
      .rw[Aj (by simpa using f3)]
       by_cases f4:(Ai b.m b.Aa.Ah).Ax=true
       .rw[Aj f4,sR]
        exact .no λh=>by have:=(h.1 f3).1;rw[f4] at this;cases this
       .rw[Ak f4]
        by_cases f5:b.Af=b.Aa.Ah
        .rw[Aj (by simpa using f5),sR]
         exact .no λh=>(h.1 f3).2 f5.symm
        .rw[Ak (by simpa using f5)]
         exact hS.iff ⟨λh=>⟨λ_=>⟨by simpa using f4,λh2=>f5 h2.symm⟩,h⟩,λh=>h.2⟩
      .rw[Ak (by simpa using f3)]
       exact hS.iff ⟨λh=>⟨λh2=>absurd h2 f3,h⟩,λh=>h.2⟩
     unfold Kv;rw[Ak (by simp),Wv h1 e1,Ag,Ak (by simp)];by_cases f2:b.Aa.Ap=2
     .rw[Aj (by simpa using f2)]
      by_cases f3:(Ai b.m b.Aa.Ah).tries≥b.Ad.Ao
      .rw[Aj (by simpa using f3),sR]
       exact .no λh=>by have:=h.2.2.1 f2;omega
      .rw[Ak (by simpa using f3)]
       exact hT.iff ⟨λh=>⟨λ_=>⟨e1,e2,e3⟩,h.2.1,λ_=>by omega,h.1,h.2.2⟩,λh=>⟨h.2.2.2.1,h.2.1,h.2.2.2.2⟩⟩
     .rw[Ak (by simpa using f2)]
      exact hT.iff ⟨λh=>⟨λ_=>⟨e1,e2,e3⟩,h.2.1,λh2=>absurd h2 f2,h.1,h.2.2⟩,λh=>⟨h.2.2.2.1,h.2.1,h.2.2.2.2⟩⟩
    .rw[decide_eq_true (by omega),Nl]
     exact .no λh=>e3 (h.1 ha).2.2
   .rw[Aj (by rw[decide_eq_false e2];rfl),Nl]
    exact .no λh=>e2 (h.1 ha).2.1
  .rw[Aj (by simpa using e1),Nl]
   exact .no λh=>e1 (h.1 ha).1
 .rw[Aj (by simpa using ha),Ak ha]
  exact (Y7.of (dW _)).iff ⟨λh=>⟨λh2=>absurd h2 ha,h⟩,λh=>h.2⟩
theorem Yma (b:Za) (hc:Ys b.Ad=true) (h1:b.m.length=b.Ad.Ab.length) (h3:b.splits.length=b.Ad.Ab.length) (hm:∀i,Zm b.Ad i=true->HY b.Ad b i):Y7 (ZM b) (Gu b):=by
 have Yo:=Kq hc;have Z7:=Gq hc;unfold ZM Gu;refine (dU (n:=b.m.length) (by omega) (P:=λk=>(Ai b.m (k:Int)).An > 0->Yr (Ai b.m (k:Int))=true->b.Af=(k:Int))
  (Q:=if b.Af=-1 then b.held=0 else Zm b.Ad b.Af=true/\Yr (Ai b.m b.Af)=true/\Ai b.splits b.Af=0/\(0<=b.held/\b.held<=b.Ad.Am))
  (B:=kZ b) (λm i=>rfl) (λk hk=>?_) λ_=>?_).iff ?_
 .have CX:=FT (c:=b.Ad) (k:=k) (by omega)
  have hr:=(hm _ CX).right;unfold kZ;simp only[Aj (show decide ((k:Int) < (b.m.length:Int))=true by simpa using hk),Wv h1 CX,Ag];by_cases e1:(Ai b.m (k:Int)).An > 0
  .have hq:(Ai b.m (k:Int)).queue≠[]:=by
    intro hq;have:=hr.none hq;omega
   have EI:0 < (Ai b.m (k:Int)).queue.length:=Cw.2 hq;rw[Xm (xs:=(Ai b.m (k:Int)).queue) (by omega) (by omega)];simp only[Ag,e1,decide_true,if_true];by_cases e2:(Ai (Ai b.m (k:Int)).queue 0).lock=true
   .by_cases e4:(Ai b.m (k:Int)).broken=true
    .exact .inl ⟨λ_ h=>by simp[Yr,e4] at h,λκ=>by simp[e2,e4]⟩
    .by_cases e3:b.Af=(k:Int)
     .exact .inl ⟨λ_ _=>e3,λκ=>by simp[e2,e3,e4]⟩
     .exact .inr ⟨λh=>e3 (h trivial (by simp[Yr,hq,e2,e4])),λκ=>by simp[e2,e3,e4]⟩
   .exact .inl ⟨λ_ h=>by simp[Yr,e2] at h,λκ=>by simp[e2]⟩
  .exact .inl ⟨λh=>absurd h e1,λκ=>by simp[e1]⟩
 .unfold kZ
  simp only[Int.lt_irrefl,decide_false,Bn,if_false];by_cases e1:b.Af=-1
  .exact⟨decide (b.held=0),λκ=>by simp[e1],by simp[e1]⟩
  .simp only[e1,decide_false,Bn,if_false,eC h1 Z7,Ag,Xu]
   have H2:Rv b true=some false:=by unfold Rv;rw[Aj rfl]
   by_cases e2:Zm b.Ad b.Af=true
   .simp only[e2,Du,Bn,if_false]
    by_cases e5:0<=b.held/\b.held<=b.Ad.Am
    .have hJ:Y7 (Rv b false) (Yr (Ai b.m b.Af)=true/\Ai b.splits b.Af=0):=by
      unfold Rv;rw[Ak (by simp),Wv h1 e2,Ag];by_cases hq:(Ai b.m b.Af).queue=[]
      .rw[Ak (by simp[hq])]
       exact .no λh=>by simp[Yr,hq] at h
      .have EI:0 < (Ai b.m b.Af).queue.length:=Cw.2 hq
       rw[Aj (by simp;omega),Xm (xs:=(Ai b.m b.Af).queue) (by omega) (by omega),Ag,HZ h3 e2,Ag];by_cases e6:(Ai (Ai b.m b.Af).queue 0).lock=true
       .rw[Aj e6]
        by_cases e7:(Ai b.m b.Af).broken=true
        .rw[Ak (by simp[e7])]
         exact .no λh=>by simp[Yr,e7] at h
        .rw[Aj (by simp[e7])]
         exact .of (by simp[Yr,hq,e6,e7])
       .rw[Ak e6]
        exact .no λh=>by simp[Yr,e6] at h
     obtain⟨r,E3,C6⟩:=hJ;refine⟨r,λκ=>by rw[decide_eq_true e5,Du,E3],?_⟩;rw[C6];exact⟨λh=>⟨trivial,h.1,h.2,e5⟩,λh=>⟨h.2.1,h.2.2.1⟩⟩
    .refine⟨false,λκ=>by rw[decide_eq_false e5,FF,H2],by simp[e5]⟩
   .exact⟨false,λκ=>by simp[e2,H2],by simp[e2]⟩
 .rw[h1,<-UI (P:=λi=>(Ai b.m i).An > 0->Yr (Ai b.m i)=true->b.Af=i)]
def OT (c:Zi) (d:Zs):Prop:=Zm c d.Ah=true/\Xv d.addr d.size=true/\d.addr < 512/\Y8 d.value d.size=true/\(d.Ap=0\/d.Ap=1)
theorem Ygb {b:Za} (h1:b.m.length=b.Ad.Ab.length) (Z7:b.Ad.Ab.length < 1048577) (d:Zs):(OT b.Ad d/\∀x:Option Bool,((Z2 d.Ah 0 (Xf (b.m.length:Int) 1)).bind λSr=>if (!Sr)=true then some false else (Lv d.addr d.size).bind λSs=>if (!Ss)=true then some false else (Z2 d.addr 0 511).bind λSu=>if (!Su)=true then some false else (Kf d.size).bind λSv=>(Z2 d.value 0 (Xf Sv 1)).bind λSw=>if (!Sw)=true then some false else (Z2 d.Ap 0 1).bind λSx=>if (!Sx)=true then some false else x)=x)
  \/ (¬OT b.Ad d/\∀x:Option Bool,((Z2 d.Ah 0 (Xf (b.m.length:Int) 1)).bind λSr=>if (!Sr)=true then some false else (Lv d.addr d.size).bind λSs=>if (!Ss)=true then some false else (Z2 d.addr 0 511).bind λSu=>if (!Su)=true then some false else (Kf d.size).bind λSv=>(Z2 d.value 0 (Xf Sv 1)).bind λSw=>if (!Sw)=true then some false else (Z2 d.Ap 0 1).bind λSx=>if (!Sx)=true then some false else x)=some false):=by
 simp only[eC h1 Z7,sH,Ni,Sj,Xu d.addr,Xu d.Ap,Ag];by_cases e3:Zm b.Ad d.Ah=true
 .by_cases e4:Xv d.addr d.size=true
  .have e0:=(Jq e4).2.1
   by_cases e5:d.addr < 512
   .have Ia:0<=d.addr/\d.addr<=511:=by omega
    by_cases e6:Y8 d.value d.size=true
    .by_cases e7:d.Ap=0\/d.Ap=1
     .have e7':0<=d.Ap/\d.Ap<=1:=by omega
      exact .inl ⟨⟨e3,e4,e5,e6,e7⟩,λx=>by simp[e3,e4,Ia,e6,e7']⟩
     .have e7':¬(0<=d.Ap/\d.Ap<=1):=by omega
      exact .inr ⟨λh=>e7 h.2.2.2.2,λx=>by simp only[e3,e4,Ia,e6,decide_eq_false e7',Du,FF,Bn,if_false,if_true,and_self,decide_true]⟩
    .exact .inr ⟨λh=>e6 h.2.2.2.1,λx=>by simp[e3,e4,Ia,e6]⟩
   .have Ia:¬(0<=d.addr/\d.addr<=511):=by omega
    exact .inr ⟨λh=>e5 h.2.2.1,λx=>by simp only[e3,e4,decide_eq_false Ia,Du,FF,Bn,if_false,if_true]⟩
  .exact .inr ⟨λh=>e4 h.2.1,λx=>by simp[e3,e4]⟩
 .exact .inr ⟨λh=>e3 h.1,λx=>by simp[e3]⟩
theorem Yop (b:Za) (hc:Ys b.Ad=true) (h1:b.m.length=b.Ad.Ab.length) (hl:b.log.length < 1048577) (hn:0<=b.now/\b.now<=4000):Y7 (ZN b) (Nk b):=by
 have Z7:=Gq hc;unfold ZN;have:=dU (n:=b.log.length) (by omega) (P:=λk=>So b.Ad b.now (Ai b.log (k:Int))/\(0 < k->GQ b.log k < (Ai b.log (k:Int)).A3)) (Q:=True)
  (B:=lA b) (L:=lB b) (λm i=>rfl) (λk hk=>?_) λ_=>⟨true,λκ=>?_,by simp⟩
 .refine this.iff ?_
  rw[and_true,Yz5];constructor
  .intro h k hk
   refine⟨(h k hk).1,?_⟩;cases k with
   | zero=>have:=(h 0 hk).1.1.1;simp only[GQ];omega
   | succ k=>exact (h (k+1) hk).2 (by omega)
  .intro h k hk
   exact⟨(h k hk).1,λ_=>(h k hk).2⟩
 .unfold lA
  simp only[Aj (show decide ((k:Int) < (b.log.length:Int))=true by simpa using hk),Xm (xs:=b.log) (i:=(k:Int)) (by omega) (by omega),Ag,Xu (Ai b.log (k:Int)).A3,Xc (a:=b.now) (b:=1) (by omega) (by omega)];by_cases e1:0<=(Ai b.log (k:Int)).A3/\(Ai b.log (k:Int)).A3 < b.now
  .have E4:0<=(Ai b.log (k:Int)).A3/\(Ai b.log (k:Int)).A3<=b.now - 1:=by omega
   simp only[E4,and_self,decide_true,Du,Bn,if_false];cases k with
   | zero=>
    simp only[show ¬(((0:Nat):Int) > 0) by omega,decide_false,Bn,if_false];rcases Ygb h1 Z7 (Ai b.log ((0:Nat):Int)) with⟨h2,h3⟩|⟨h2,h3⟩
    .exact .inl ⟨⟨⟨e1,h2⟩,λh=>by omega⟩,λκ=>h3 _⟩
    .exact .inr ⟨λh=>h2 h.1.2,λκ=>h3 _⟩
   | succ k=>
    have ek:((k+1:Nat):Int) - 1=(k:Int):=by omega
    simp only[show ((k+1:Nat):Int) > 0 by omega,decide_true,if_true,Xc (a:=((k+1:Nat):Int)) (b:=1) (by omega) (by omega),ek,Xm (xs:=b.log) (i:=(k:Int)) (by omega) (by omega),Ag];by_cases e2:(Ai b.log (k:Int)).A3 < (Ai b.log ((k+1:Nat):Int)).A3
    .have H0:¬(Ai b.log ((k+1:Nat):Int)).A3<=(Ai b.log (k:Int)).A3:=by omega
     simp only[H0,decide_false,Bn,if_false];rcases Ygb h1 Z7 (Ai b.log ((k+1:Nat):Int)) with⟨h2,h3⟩|⟨h2,h3⟩
     .exact .inl ⟨⟨⟨e1,h2⟩,λh=>e2⟩,λκ=>h3 _⟩
     .exact .inr ⟨λh=>h2 h.1.2,λκ=>h3 _⟩
    .have H0:(Ai b.log ((k+1:Nat):Int)).A3<=(Ai b.log (k:Int)).A3:=by omega
     exact .inr ⟨λh=>e2 (h.2 (by omega)),λκ=>by simp only[H0,decide_true,if_true]⟩
  .have E4:¬(0<=(Ai b.log (k:Int)).A3/\(Ai b.log (k:Int)).A3<=b.now - 1):=by omega
   exact .inr ⟨λh=>e1 h.1.1,λκ=>by simp only[decide_eq_false E4,FF,if_true]⟩
 .unfold lA
  rw[Ak (by simp)]
theorem Yqj (b:Za) (hs:b.sm):Y7 (Lx b) (CP b):=by
 have H2:Qq b true=some false:=by unfold Qq;rw[Aj rfl]
 unfold Lx;rw[Se _ hs.Ad,Ag];by_cases hc:Ys b.Ad=true
 .have Yo:=Kq hc
  rw[hc,Ak (by simp),Xu,Ag];by_cases hn:0<=b.now/\b.now<=4000
  .rw[Ak (by simpa using hn)]
   by_cases h1:b.m.length=b.Ad.Ab.length
   .rw[Ak (by simp;omega)]
    by_cases h2:b.buckets.length=b.Ad.Ab.length
    .rw[Ak (by simp;omega)]
     by_cases h3:b.splits.length=b.Ad.Ab.length
     .rw[Ak (by simp;omega),Z81 _ _ hs.Ad,Ag]
      by_cases h4:CF b.Bq b.Ad=true
      .rw[h4,Ak (by simp),Xu,Ag,Xc (by omega) (by omega)]
       by_cases h5:b.last=-1\/Zm b.Ad b.last=true
       .have h5':-1<=b.last/\b.last<=(b.Ad.Ab.length:Int) - 1:=by
         rcases h5 with h5|h5
         .omega
         .simp only[Zm,Bj] at h5;omega
        rw[Ak (by simpa using h5'),Yd4 _ hs.model,Ag];by_cases h6:Sn b.model=true
        .rw[h6,Ak (by simp)]
         by_cases h7:0<=b.At
         .rw[Ak (by simpa using h7)]
          by_cases h8:b.At<=b.now
          .rw[decide_eq_false (by omega)]
           unfold Qq;rw[Ak (by simp)];have eE:=dU (n:=b.Ad.Ab.length) (by omega) (P:=λk=>HY b.Ad b (k:Int)/\(Ai b.m (k:Int)).An - (Ai b.m (k:Int)).done=Jw b (k:Int))
            (Q:=((b.Aa.live=true->Dv b b.Aa)/\Kz b)/\((b.addr.live=true->Dv b b.addr)/\Jr b)/\Gu b/\Nk b) (B:=lC b) (L:=lD b) (λm i=>rfl) (λk hk=>?_) λhP=>?_
           .refine eE.iff ⟨λh=>?_,λh=>?_⟩
            .obtain⟨h9,JS,Sq,eA,eB⟩:=h
             have hm:=(UI (c:=b.Ad) (P:=λi=>HY b.Ad b i/\(Ai b.m i).An - (Ai b.m i).done=Jw b i)).2 h9;exact⟨hc,hn,h1,h2,h3,λi hi=>(hm i hi).1,h4,h5,dS.1 h6,⟨h7,h8⟩,Sq.1,JS.1,λi hi=>(hm i hi).2,Sq.2,JS.2,eA,eB⟩
            .exact⟨λk hk=>⟨h.Bx _ (FT hk),h.Dq _ (FT hk)⟩,⟨h.B9,h.data⟩,⟨h.alive,h.addr⟩,h.held,h.log⟩
           .have hm:=FT (c:=b.Ad) (k:=k) hk
            have hms:=hs.Bx _ (OR h1 hm);have hme:=Ng (JN hc hm);unfold lC;simp only[Aj (show decide ((k:Int) < (b.Ad.Ab.length:Int))=true by simpa using hk),Wv h1 hm,UJ h2 hm,HZ h3 hm,OQ hm,Ag,sF _ ⟨hme.1,hme.2.1⟩,Xu,Y4u];unfold zU;simp only[Se _ hs.Ad,hc,if_true,Ag,UF _ hms];by_cases e1:OO (Ai b.m (k:Int))=true
            .by_cases e2:(Ai b.m (k:Int)).tries<=b.Ad.Ao
             .by_cases e3:Y1 (Ai b.buckets (k:Int)) (Ai b.Ad.Ab (k:Int))=true
              .by_cases e4:0<=Ai b.splits (k:Int)/\Ai b.splits (k:Int)<=b.Ad.Ar
               .have Tt:=Gt (Gs.1 e1)
                rw[Xc (by omega) (by omega)];by_cases e5:(Ai b.m (k:Int)).An - (Ai b.m (k:Int)).done=Jw b (k:Int)
                .refine .inl ⟨⟨⟨Gs.1 e1,e2,e3,e4⟩,e5⟩,λκ=>?_⟩
                 simp[e1,e2,e3,e4,e5]
                .refine .inr ⟨λh=>e5 h.2,λκ=>?_⟩
                 simp[e1,e2,e3,e4,e5]
               .refine .inr ⟨λh=>e4 h.1.split,λκ=>?_⟩
                simp[e1,e2,e3,e4]
              .refine .inr ⟨λh=>e3 h.1.bucket,λκ=>?_⟩
               simp[e1,e2,e3]
             .refine .inr ⟨λh=>e2 h.1.tries,λκ=>?_⟩
              simp[e1,e2]
            .refine .inr ⟨λh=>e1 (Gs.2 h.1.right),λκ=>?_⟩
             simp[e1]
           .have hm:=(UI (c:=b.Ad) (P:=λi=>HY b.Ad b i/\(Ai b.m i).An - (Ai b.m i).done=Jw b i)).2 hP
            have dJ:∀i,Zm b.Ad i=true->HY b.Ad b i:=λi hi=>(hm i hi).1;have hT:Y7 ((MM b b.Aa true).bind λr903=>if r903=true then (MM b b.addr false).bind λr908=>if r908=true then (ZM b).bind λr912=>if r912=true then (ZN b).bind λr916=>some r916 else some false else some false else some false)
              (((b.Aa.live=true->Dv b b.Aa)/\Kz b)/\((b.addr.live=true->Dv b b.addr)/\Jr b)/\Gu b/\Nk b):=by
             refine Y7.and (Yns b hs hc h1 h3 dJ) λ_=>?_;refine Y7.and (Ynw b hs hc h1 h3 dJ) λ_=>?_;refine Y7.and (Yma b hc h1 h3 dJ) λ_=>?_;obtain⟨r,h9,JS⟩:=Yop b hc h1 hs.log hn;rw[h9];exact .of JS
            obtain⟨r,h9,JS⟩:=hT;refine⟨r,λκ=>?_,JS⟩;unfold lC;rw[Ak (by simp)];exact h9
          .rw[decide_eq_true (by omega),H2]
           exact .no λh=>h8 h.At.2
         .rw[Aj (by simpa using h7),H2]
          exact .no λh=>h7 h.At.1
        .rw[Aj (by simpa using h6),H2]
         exact .no λh=>h6 (dS.2 h.model)
       .have h5':¬(-1<=b.last/\b.last<=(b.Ad.Ab.length:Int) - 1):=by
         intro h6;apply h5;simp only[Zm,Bj];omega
        rw[Aj (by rw[decide_eq_false h5'];rfl),H2];exact .no λh=>h5 h.last
      .rw[Aj (by simpa using h4),H2]
       exact .no λh=>h4 h.Bq
     .rw[Aj (by simp;omega),H2]
      exact .no λh=>h3 h.sl
    .rw[Aj (by simp;omega),H2]
     exact .no λh=>h2 h.bl
   .rw[Aj (by simp;omega),H2]
    exact .no λh=>h1 h.ml
  .rw[Aj (by rw[decide_eq_false hn];rfl),H2]
   exact .no λh=>hn h.now
 .rw[Aj (by simpa using hc),H2]
  exact .no λh=>hc h.Ad
theorem Yi1 (b:Za) (hs:b.sm):∃r,Ur b=some r/\Lx b=some r/\(r=true↔CP b):=(Yq0 b hs).eq (Yqj b hs)
def Gv (l:List Int) (k:Int):Int:=if l=[]\/k < 0 then 0 else Ai l (k % (l.length:Int))
def GR (c:Zi) (s:Zb) (k:Int):Int:=max 0 (min (Gv s.waits k) c.Au)
def EP (s:Zb) (k:Int):Int:=if Gv s.A4 k=2\/Gv s.A4 k=3 then Gv s.A4 k else 0
def GS (c:Zi) (s:Zb) (k:Int):Int:=max 1 (min (max 0 (min (Gv s.waits k) 99)+1) c.Ar)
def F9 (b:Za):Zp:=
 Zp.mk b.now (if b.addr.live then Xb (Ai b.m b.addr.Ah) b.addr.An else -1) (if b.addr.live then (if b.addr.first then 2 else 3) else 0) (if b.addr.live then b.addr.Ah else -1)
  (if b.Aa.live then Xb (Ai b.m b.Aa.Ah) b.Aa.An else -1) (if b.Aa.live then b.Aa.Ah else -1) true 0 (-1)
def DS (s:Zb) (t:Int):List Zo:=s.Al.filter λp=>decide (p.at_=t)
def Q2 (b:Za) (p:Zo):Za:=if Zm b.Ad p.Ah=true then {b with m:=b.m.set p.Ah.toNat (J3 (Ai b.m p.Ah) p.Bm)} else b
def Wa (b:Za) (ps:List Zo):Za:=ps.foldl Q2 b
def Xa (b:Za):Za:={b with splits:=b.splits.map λn=>max (n - 1) 0,buckets:=List.zipWith JO b.buckets b.Ad.Ab}
def Qv (b:Za):Za:=if b.Af=-1 then b else {b with held:=min (b.held+1) b.Ad.Am}
def Y1u (b:Za):Za:={b with Af:=-1,held:=0}
def X4 (b:Za) (x:Zh):Za:=
 if x.B6=1 then {b with m:=b.m.set x.Ah.toNat (Dp (Ai b.m x.Ah)),buckets:=b.buckets.set x.Ah.toNat (Sf (Ai b.buckets x.Ah) (Ai b.Ad.Ab x.Ah))}
 else if x.B6=2 then {b with m:=b.m.set x.Ah.toNat (Dp (Ai b.m x.Ah)),Bq:=Sh b.Bq b.Ad x.Ah}
 else {b with m:=b.m.set x.Ah.toNat (Dp (Ai b.m x.Ah))}
def LJ (m:Zg) (k:Int):Int:=if (Ai m.queue 0).write then Ai (Ai m.queue 0).Aa k else 0
def Em (b:Za) (x:Zh):Zf×Int×Int:=Wj b.model (Ai (Ai b.m x.Ah).queue 0).write (Xb (Ai b.m x.Ah) x.An) (Ai (Ai b.m x.Ah).queue 0).size (LJ (Ai b.m x.Ah) x.An)
def eF (b:Za) (x:Zh):Zs:=Zs.mk b.now x.Ah (Ai (Ai b.m x.Ah).queue 0).write (Xb (Ai b.m x.Ah) x.An) (Ai (Ai b.m x.Ah).queue 0).size (if x.Ap=0 then (Em b x).2.1 else 0) x.Ap
def Nn (b:Za) (x:Zh):Za:=
 {b with model:=if x.Ap=0 then (Em b x).1 else b.model,log:=b.log++[eF b x],m:=b.m.set x.Ah.toNat (Jo (Ai b.m x.Ah)),Af:=if b.Af=x.Ah/\(Ai b.m x.Ah).done+1=Zw (Ai b.m x.Ah) then -1 else b.Af,held:=if b.Af=x.Ah/\(Ai b.m x.Ah).done+1=Zw (Ai b.m x.Ah) then 0 else b.held}
def Z0 (b:Za) (s:Zb):Za×Bool×Int:=
 if b.Aa.live=false then (b,true,0)
 else if b.Aa.left > 0 then ({b with Aa:={b.Aa with left:=b.Aa.left - 1}},false,0)
 else if b.Aa.Ap≠0/\b.Aa.second=false then
  (if b.addr.live then {X4 {b with Aa:={b.Aa with second:=true}} b.addr with addr:=Zh.z0} else {b with Aa:={b.Aa with second:=true}},false,b.Aa.Ap)
 else if b.Aa.Ap=2 then (X4 {b with Aa:=Zh.z0,m:=b.m.set b.Aa.Ah.toNat {Ai b.m b.Aa.Ah with tries:=(Ai b.m b.Aa.Ah).tries+1}} b.Aa,true,b.Aa.Ap)
 else if b.Aa.Ap=3 then (X4 {b with Aa:=Zh.z0,m:=b.m.set b.Aa.Ah.toNat {Ai b.m b.Aa.Ah with Ax:=true},splits:=b.splits.set b.Aa.Ah.toNat (GS b.Ad s b.At)} b.Aa,true,b.Aa.Ap)
 else (Nn {b with Aa:=Zh.z0} b.Aa,true,b.Aa.Ap)
def Ym (b:Za):Za:=if b.Af≠-1/\b.held=b.Ad.Am then Y1u {b with m:=b.m.set b.Af.toNat {Ai b.m b.Af with broken:=true}} else b
def GU (b:Za) (s:Zb) (x:Zh):Int×Int:=
 if (Ai b.m x.Ah).broken=true\/Yl (Xb (Ai b.m x.Ah) x.An)=0 then (1,0) else
 (if EP s b.At=2/\Yl (Xb (Ai b.m x.Ah) x.An)≠3/\(Ai b.m x.Ah).tries < b.Ad.Ao then 2
  else if EP s b.At=3/\Yl (Xb (Ai b.m x.Ah) x.An)=2/\(Ai b.m x.Ah).Ax=false/\x.Ah≠b.Af then 3 else (Em b x).2.2,if Yl (Xb (Ai b.m x.Ah) x.An)=3 then GR b.Ad s b.At+2 else GR b.Ad s b.At)
def Qj (b:Za) (s:Zb):Za:=if b.addr.live then {b with Aa:={b.addr with left:=(GU b s b.addr).2,Ap:=(GU b s b.addr).1},addr:=Zh.z0,At:=b.At+1} else b
def Jk (b:Za) (i:Int):Bool:=LF (Ai b.m i)&&(decide (Ai b.splits i=0)&&(decide (b.Af=-1)||decide (b.Af=i)))
def Kj (b:Za):List Bool:=(List.range b.m.length).map λk:Nat=>Jk b (k:Int)
def Eo (b:Za) (k:Nat):Bool:=Jk b (k:Int)&&(F6 (Ai b.buckets (k:Int)) (Ai b.Ad.Ab (k:Int))).2
def Qg (b:Za):Int×Int×Za:=
 if b.Af≠-1/\Jk b b.Af=true then (b.Af,3,b)
 else match (List.range b.m.length).find? (Eo b) with
  | some k=>((k:Int),1,{b with buckets:=b.buckets.set k (F6 (Ai b.buckets (k:Int)) (Ai b.Ad.Ab (k:Int))).1})
  | none=>if b.Af≠-1 then (-1,0,b) else ((F7 b.Bq b.Ad (Kj b)).2,2,{b with Bq:=(F7 b.Bq b.Ad (Kj b)).1})
def Sy (b:Za) (Ah B6:Int):Za:=
 {b with addr:=Zh.mk true Ah (Ai b.m Ah).An (decide ((Ai b.m Ah).An=0)||decide (b.last≠Ah)) B6 0 0 false,Af:=if Yr (Ai b.m Ah)=true/\b.Af=-1 then Ah else b.Af,held:=if Yr (Ai b.m Ah)=true/\b.Af=-1 then 0 else b.held,m:=b.m.set Ah.toNat (X8 (Ai b.m Ah)),last:=Ah}
def Kk (b:Za):Int×Za:=if (Qg b).1 < 0 then (-1,(Qg b).2.2) else ((Qg b).1,Sy (Qg b).2.2 (Qg b).1 (Qg b).2.1)
def Xw (b:Za) (s:Zb):Int×Za:=Kk (Qj (Ym b) s)
def Xq (b:Za) (s:Zb):Za:=Qv (Xa (Wa b (DS s b.now)))
def J9 (b:Za) (s:Zb):Za×Zp:=
 if (Z0 (Xq b s) s).2.1=true then
  ({(Xw (Z0 (Xq b s) s).1 s).2 with now:=b.now+1},{F9 b with Ap:=(Z0 (Xq b s) s).2.2,C0:=(Xw (Z0 (Xq b s) s).1 s).1})
 else ({(Z0 (Xq b s) s).1 with now:=b.now+1},{F9 b with ready:=false,Ap:=(Z0 (Xq b s) s).2.2})
structure Y0 (n:Int) (b:Za):Prop where
 Ad:Ys b.Ad=true
 ml:b.m.length=b.Ad.Ab.length
 bl:b.buckets.length=b.Ad.Ab.length
 sl:b.splits.length=b.Ad.Ab.length
 Bx:∀i,Zm b.Ad i=true->HY b.Ad b i
 Bq:CF b.Bq b.Ad=true
 last:b.last=-1\/Zm b.Ad b.last=true
 model:Ef b.model
 alive:b.addr.live=true->Dv b b.addr
 B9:b.Aa.live=true->Dv b b.Aa
 Dq:∀i,Zm b.Ad i=true->(Ai b.m i).An - (Ai b.m i).done=Jw b i
 addr:Jr b
 data:Kz b
 held:Gu b
 log:(∀d∈b.log,So b.Ad n d)/\b.log.Pairwise λx y=>x.A3 < y.A3
theorem CP.i {b:Za} (h:CP b):Y0 b.now b:=⟨h.Ad,h.ml,h.bl,h.sl,h.Bx,h.Bq,h.last,h.model,h.alive,h.B9,h.Dq,h.addr,h.data,h.held,h.log⟩
theorem eG {α:Type} [Inhabited α] {xs:List α} {w i:Int} (a:α) (h0:0<=w) (h1:w < (xs.length:Int)) (hi:0<=i):Ai (xs.set w.toNat a) i=if i=w then a else Ai xs i:=by
 split
 .rename_i h;subst h;exact dE a h0 h1
 .rename_i h;exact Ypj a h0 hi (λh2=>h h2.symm)
theorem X5 {c:Zi} {i:Int} (h:Zm c i=true):0<=i/\i < (c.Ab.length:Int):=by simpa [Zm] using h
theorem Y0.Gx {n:Int} {b:Za} (h:Y0 n b) {w:Int} (hw:Zm b.Ad w=true) (x:Zg) {i:Int} (hi:Zm b.Ad i=true):Ai (b.m.set w.toNat x) i=if i=w then x else Ai b.m i:=by
 have h1:=X5 hw;have h2:=X5 hi;exact eG x h1.1 (by have:=h.ml;omega) h2.1
theorem GV {n:Int} {b:Za} (h:Y0 n b) (hl:b.addr.live=true):Zm b.Ad b.addr.Ah=true:=(h.alive hl).1
theorem Ko {n:Int} {b:Za} (h:Y0 n b) (hl:b.Aa.live=true):Zm b.Ad b.Aa.Ah=true:=(h.B9 hl).1
theorem Y4w {m:Zg} {r:Zj} (hq:m.queue≠[]):(J3 m r).queue≠[]/\Ai (J3 m r).queue 0=Ai m.queue 0:=by
 unfold J3;split
 .exact⟨by simp,Yg7 hq⟩
 .exact⟨hq,rfl⟩
theorem Yo7 (m:Zg) (r:Zj):(J3 m r).An=m.An/\(J3 m r).done=m.done/\(J3 m r).tries=m.tries/\(J3 m r).Ax=m.Ax/\(J3 m r).broken=m.broken:=by
 unfold J3;split<;>exact⟨rfl,rfl,rfl,rfl,rfl⟩
theorem Y1o {m:Zg} {r:Zj} (hq:m.queue≠[]):Yr (J3 m r)=Yr m:=by
 have h:=Y4w (r:=r) hq;have h2:=Yo7 m r;unfold Yr;rw[h.2,h2.2.2.2.2];simp[h.1,hq]
theorem Ysr {m:Zg} (h:Yr m=true):m.queue≠[]:=by
 intro hq;simp[Yr,hq] at h
theorem Y2c {n:Int} {b:Za} {p:Zo} (h:Y0 n b):Y0 n (Q2 b p):=by
 unfold Q2;split
 .rename_i hw
  have ha:=λ{i} hi=>h.Gx hw (J3 (Ai b.m p.Ah) p.Bm) (i:=i) hi;have hs:=Yo7 (Ai b.m p.Ah) p.Bm;have UK:∀i,Zm b.Ad i=true->(Ai (b.m.set p.Ah.toNat (J3 (Ai b.m p.Ah) p.Bm)) i).An=(Ai b.m i).An/\(Ai (b.m.set p.Ah.toNat (J3 (Ai b.m p.Ah) p.Bm)) i).done=(Ai b.m i).done/\(Ai (b.m.set p.Ah.toNat (J3 (Ai b.m p.Ah) p.Bm)) i).tries=(Ai b.m i).tries/\(Ai (b.m.set p.Ah.toNat (J3 (Ai b.m p.Ah) p.Bm)) i).Ax=(Ai b.m i).Ax:=by
   intro i hi;rw[ha hi];split
   .rename_i e;subst e;exact⟨hs.1,hs.2.1,hs.2.2.1,hs.2.2.2.1⟩
   .exact⟨rfl,rfl,rfl,rfl⟩
  have Np:∀i,Zm b.Ad i=true->(Ai b.m i).queue≠[]->Yr (Ai (b.m.set p.Ah.toNat (J3 (Ai b.m p.Ah) p.Bm)) i)=Yr (Ai b.m i):=by
   intro i hi hq;rw[ha hi];split
   .rename_i e;subst e;exact Y1o hq
   .rfl
  refine⟨h.Ad,by simp[h.ml],h.bl,h.sl,λi hi=>?_,h.Bq,h.last,h.model,h.alive,h.B9,λi hi=>?_,?_,?_,?_,h.log⟩
  .have hm:=h.Bx i hi
   refine⟨?_,by have:=(UK i hi).2.2.1;simp only at this ⊢;rw[this];exact hm.tries,hm.bucket,hm.split⟩;show Yy (Ai (b.m.set p.Ah.toNat (J3 (Ai b.m p.Ah) p.Bm)) i);rw[ha hi];split
   .exact Y29 (h.Bx _ hw).right
   .exact hm.right
  .show (Ai (b.m.set p.Ah.toNat (J3 (Ai b.m p.Ah) p.Bm)) i).An - (Ai (b.m.set p.Ah.toNat (J3 (Ai b.m p.Ah) p.Bm)) i).done=Jw b i
   rw[(UK i hi).1,(UK i hi).2.1];exact h.Dq i hi
  .have:=h.addr
   unfold Jr at this ⊢;simp only;by_cases hl:b.addr.live=true
   .rw[Aj hl] at this ⊢
    rw[(UK _ (GV h hl)).1];exact this
   .rw[Ak hl] at this ⊢;exact this
  .have:=h.data
   unfold Kz at this ⊢;simp only;by_cases hl:b.Aa.live=true
   .rw[Aj hl] at this ⊢
    have e:=UK _ (Ko h hl);rw[e.2.1,e.2.2.1,e.2.2.2];exact this
   .rw[Ak hl] at this ⊢;exact this
  .obtain⟨h1,h2⟩:=h.held
   refine⟨λi hi hb hk=>?_,?_⟩
   .simp only at hb hk
    have U7:Zm b.Ad i=true:=hi;rw[(UK i U7).1] at hb;have hq:(Ai b.m i).queue≠[]:=by
     intro hq;have:=(h.Bx i U7).right.none hq;omega
    rw[Np i U7 hq] at hk;exact h1 i U7 hb hk
   .simp only
    split
    .rename_i e;rw[Aj e] at h2;exact h2
    .rename_i e
     rw[Ak e] at h2;exact⟨h2.1,by rw[Np _ h2.1 (Ysr h2.2.1)];exact h2.2.1,h2.2.2⟩
 .exact h
theorem eH {n:Int} {b:Za} (h:Y0 n b) (ps:List Zo):Y0 n (Wa b ps):=by
 induction ps generalizing b with
 | nil=>exact h
 | cons p ps ih=>exact ih (Y2c h)
theorem Yuh (b:Za) (p:Zo):(Q2 b p).Ad=b.Ad/\(Q2 b p).now=b.now/\(Q2 b p).At=b.At/\(Q2 b p).log=b.log/\(Q2 b p).model=b.model/\(Q2 b p).Af=b.Af/\(Q2 b p).held=b.held/\(Q2 b p).addr=b.addr/\(Q2 b p).Aa=b.Aa/\(Q2 b p).splits=b.splits/\(Q2 b p).buckets=b.buckets/\(Q2 b p).Bq=b.Bq/\(Q2 b p).last=b.last:=by
 unfold Q2;split<;>exact⟨rfl,rfl,rfl,rfl,rfl,rfl,rfl,rfl,rfl,rfl,rfl,rfl,rfl⟩
theorem eI (b:Za) (ps:List Zo):(Wa b ps).Ad=b.Ad/\(Wa b ps).now=b.now/\(Wa b ps).At=b.At/\(Wa b ps).log=b.log/\(Wa b ps).model=b.model/\(Wa b ps).Af=b.Af/\(Wa b ps).held=b.held/\(Wa b ps).addr=b.addr/\(Wa b ps).Aa=b.Aa/\(Wa b ps).splits=b.splits/\(Wa b ps).buckets=b.buckets/\(Wa b ps).Bq=b.Bq/\(Wa b ps).last=b.last:=by
 induction ps generalizing b with
 | nil=>exact⟨rfl,rfl,rfl,rfl,rfl,rfl,rfl,rfl,rfl,rfl,rfl,rfl,rfl⟩
 | cons p ps ih=>
  have h1:=ih (Q2 b p);have h2:=Yuh b p;simp only[h2] at h1;exact h1
theorem Sz {α β:Type} [Inhabited α] [Inhabited β] (f:α->β) {xs:List α} {i:Int} (h0:0<=i) (h1:i < (xs.length:Int)):Ai (xs.map f) i=f (Ai xs i):=by
 obtain⟨k,rfl⟩:∃k:Nat,i=k:=⟨i.toNat,by omega⟩;have hk:k < xs.length:=by omega
 rw[Qk hk,Qk (by simpa using hk)];simp
theorem S0 {α β γ:Type} [Inhabited α] [Inhabited β] [Inhabited γ] (f:α->β->γ) {xs:List α} {ys:List β} {i:Int} (h0:0<=i) (h1:i < (xs.length:Int)) (h2:i < (ys.length:Int)):Ai (List.zipWith f xs ys) i=f (Ai xs i) (Ai ys i):=by
 obtain⟨k,rfl⟩:∃k:Nat,i=k:=⟨i.toNat,by omega⟩;have hk:k < xs.length:=by omega
 have GP:k < ys.length:=by omega
 rw[Qk hk,Qk GP,Qk (by simp;omega)];simp
theorem Z9t {n:Int} {b:Za} (h:Y0 n b):Y0 n (Xa b):=by
 have JV:∀i,Zm b.Ad i=true->Ai (b.splits.map λn=>max (n - 1) 0) i=max (Ai b.splits i - 1) 0:=λi hi=>by
  have:=X5 hi;exact Sz _ this.1 (by have:=h.sl;omega)
 have hbu:∀i,Zm b.Ad i=true->Ai (List.zipWith JO b.buckets b.Ad.Ab) i=JO (Ai b.buckets i) (Ai b.Ad.Ab i):=λi hi=>by
  have:=X5 hi;exact S0 _ this.1 (by have:=h.bl;omega) this.2
 have h0:∀i,Zm b.Ad i=true->Ai b.splits i=0->Ai (b.splits.map λn=>max (n - 1) 0) i=0:=λi hi e=>by rw[JV i hi,e];rfl
 refine⟨h.Ad,h.ml,by simp[Xa,h.bl],by simp[Xa,h.sl],λi hi=>?_,h.Bq,h.last,h.model,λhl=>?_,λhl=>?_,h.Dq,h.addr,h.data,?_,h.log⟩
 .have hm:=h.Bx i hi
  refine⟨hm.right,hm.tries,?_,?_⟩
  .show Y1 (Ai (List.zipWith JO b.buckets b.Ad.Ab) i) _=true
   rw[hbu i hi];exact Xao hm.bucket (JN h.Ad hi)
  .show 0<=Ai (b.splits.map λn=>max (n - 1) 0) i/\_
   have:=hm.split;have hx:=(W7 h.Ad).2.2.2;show 0<=Ai (b.splits.map λn=>max (n - 1) 0) i/\Ai (b.splits.map λn=>max (n - 1) 0) i<=b.Ad.Ar;rw[JV i hi];omega
 .obtain⟨h1,h2,h3⟩:=h.alive hl
  exact⟨h1,h2,h0 _ h1 h3⟩
 .obtain⟨h1,h2,h3⟩:=h.B9 hl
  exact⟨h1,h2,h0 _ h1 h3⟩
 .obtain⟨h1,h2⟩:=h.held
  refine⟨h1,?_⟩;show if b.Af=-1 then b.held=0 else _
  split
  .rename_i e;rw[Aj e] at h2;exact h2
  .rename_i e
   rw[Ak e] at h2;exact⟨h2.1,h2.2.1,h0 _ h2.1 h2.2.2.1,h2.2.2.2⟩
theorem Y2s {n:Int} {b:Za} (h:Y0 n b):Y0 n (Qv b):=by
 unfold Qv;split
 .exact h
 .rename_i e
  refine⟨h.Ad,h.ml,h.bl,h.sl,λi hi=>?_,h.Bq,h.last,h.model,h.alive,h.B9,h.Dq,h.addr,h.data,?_,h.log⟩
  .have hm:=h.Bx i hi;exact⟨hm.right,hm.tries,hm.bucket,hm.split⟩
  .obtain⟨h1,h2⟩:=h.held
   refine⟨h1,?_⟩;rw[Ak e] at h2;show if b.Af=-1 then _ else _
   rw[Ak e];have hl:=(W7 h.Ad).2.2.1;refine⟨h2.1,h2.2.1,h2.2.2.1,?_⟩;have:=h2.2.2.2;show 0<=min (b.held+1) b.Ad.Am/\min (b.held+1) b.Ad.Am<=b.Ad.Am;omega
theorem Yo6 {b b':Za} (h:Gu b) (hc:b'.Ad=b.Ad) (hh:b'.Af=b.Af) (hd:b'.held=b.held)
  (hm:∀i,Zm b.Ad i=true->Yr (Ai b'.m i)=Yr (Ai b.m i)/\((Ai b'.m i).An > 0->(Ai b.m i).An > 0)) (hs:b.Af≠-1->Ai b.splits b.Af=0->Ai b'.splits b.Af=0):Gu b':=by
 obtain⟨h1,h2⟩:=h;unfold Gu;rw[hc,hh,hd];refine⟨λi hi hb hk=>h1 i hi ((hm i hi).2 hb) (by rw[<-(hm i hi).1];exact hk),?_⟩;split
 .rename_i e;rw[Aj e] at h2;exact h2
 .rename_i e
  rw[Ak e] at h2;exact⟨h2.1,by rw[(hm _ h2.1).1];exact h2.2.1,hs e h2.2.2.1,h2.2.2.2⟩
theorem Yp4 (m:Zg):(Dp m).queue=m.queue/\(Dp m).done=m.done/\(Dp m).tries=m.tries/\(Dp m).Ax=m.Ax/\(Dp m).broken=m.broken:=by
 unfold Dp;split<;>exact⟨rfl,rfl,rfl,rfl,rfl⟩
theorem eJ {m m':Zg} (h1:m'.queue=m.queue) (h2:m'.broken=m.broken):Yr m'=Yr m:=by
 unfold Yr;rw[h1,h2]
structure Xbi (b r:Za) (x:Zh):Prop where
 Ad:r.Ad=b.Ad
 m:r.m=b.m.set x.Ah.toNat (Dp (Ai b.m x.Ah))
 bl:r.buckets.length=b.Ad.Ab.length
 bk:∀i,Zm b.Ad i=true->Y1 (Ai r.buckets i) (Ai b.Ad.Ab i)=true
 Bq:CF r.Bq b.Ad=true
 splits:r.splits=b.splits
 Af:r.Af=b.Af
 held:r.held=b.held
 addr:r.addr=b.addr
 data:r.Aa=b.Aa
 model:r.model=b.model
 log:r.log=b.log
 last:r.last=b.last
 now:r.now=b.now
 At:r.At=b.At
theorem Yd0 {b:Za} {x:Zh} (hc:Ys b.Ad=true) (hw:Zm b.Ad x.Ah=true) (Mk:b.buckets.length=b.Ad.Ab.length) (DN:∀i,Zm b.Ad i=true->Y1 (Ai b.buckets i) (Ai b.Ad.Ab i)=true) (S1:CF b.Bq b.Ad=true):Xbi b (X4 b x) x:=by
 have hb:=X5 hw;unfold X4;split
 .refine⟨rfl,rfl,by simp[Mk],λi hi=>?_,S1,rfl,rfl,rfl,rfl,rfl,rfl,rfl,rfl,rfl,rfl⟩
  show Y1 (Ai (b.buckets.set x.Ah.toNat _) i) _=true;rw[eG _ hb.1 (by omega) (X5 hi).1];split
  .rename_i e;subst e;exact Y9k (DN _ hi) (JN hc hi)
  .exact DN i hi
 .split
  .exact⟨rfl,rfl,Mk,DN,Y8m _ S1,rfl,rfl,rfl,rfl,rfl,rfl,rfl,rfl,rfl,rfl⟩
  .exact⟨rfl,rfl,Mk,DN,S1,rfl,rfl,rfl,rfl,rfl,rfl,rfl,rfl,rfl,rfl⟩
theorem Y0.mono {n:Int} {b:Za} (h:Y0 n b):Y0 (n+1) b:=
 ⟨h.Ad,h.ml,h.bl,h.sl,h.Bx,h.Bq,h.last,h.model,h.alive,h.B9,h.Dq,h.addr,h.data,h.held,λd hd=>by have:=h.log.1 d hd;exact⟨⟨this.1.1,by have:=this.1.2;omega⟩,this.2⟩,h.log.2⟩
theorem Yz1 {n:Int} {b:Za} (h:Y0 n b) (hl:b.addr.live=true):(Ai b.m b.addr.Ah).An - (Ai b.m b.addr.Ah).done≥1:=by
 rw[h.Dq _ (GV h hl)];unfold Jw;rw[Aj ⟨hl,rfl⟩];split<;>omega
theorem UL {n:Int} {b:Za} (h:Y0 n b) (hl:b.Aa.live=true):(Ai b.m b.Aa.Ah).An - (Ai b.m b.Aa.Ah).done≥1:=by
 rw[h.Dq _ (Ko h hl)];unfold Jw;rw[Aj (⟨hl,rfl⟩:b.Aa.live=true/\b.Aa.Ah=b.Aa.Ah)];split<;>omega
theorem Y2h {n:Int} {b:Za} (h:Y0 n b) (hd:b.Aa.live=true) (hl:b.Aa.left > 0):Y0 n {b with Aa:={b.Aa with left:=b.Aa.left - 1}}:=by
 refine⟨h.Ad,h.ml,h.bl,h.sl,λi hi=>?_,h.Bq,h.last,h.model,h.alive,λ_=>h.B9 hd,λi hi=>?_,h.addr,?_,h.held,h.log⟩
 .have hm:=h.Bx i hi;exact⟨hm.right,hm.tries,hm.bucket,hm.split⟩
 .have:=h.Dq i hi
  unfold Jw at this ⊢;exact this
 .have:=h.data
  unfold Kz at this ⊢;rw[Aj hd] at this;simp only;rw[Aj hd];refine⟨⟨this.1.1,by have:=this.1.2.1;omega,this.1.2.2⟩,this.2.1,this.2.2.1,λhs=>?_⟩;have:=(this.2.2.2 hs).1;omega
theorem Y3l {n:Int} {b:Za} (h:Y0 n b) (hd:b.Aa.live=true) (hl:b.Aa.left=0) (hr:b.Aa.Ap≠0):
  Y0 n (if b.addr.live then {X4 {b with Aa:={b.Aa with second:=true}} b.addr with addr:=Zh.z0} else {b with Aa:={b.Aa with second:=true}}):=by
 have CQ:=h.data;unfold Kz at CQ;rw[Aj hd] at CQ;by_cases ha:b.addr.live=true
 .rw[Aj ha]
  have hw:=GV h ha;have hb:=X5 hw;have hf:=Yd0 (b:={b with Aa:={b.Aa with second:=true}}) (x:=b.addr) h.Ad hw h.bl (λi hi=>(h.Bx i hi).bucket) h.Bq;generalize X4 {b with Aa:={b.Aa with second:=true}} b.addr=r at hf;have CO:∀i,Zm b.Ad i=true->Ai r.m i=if i=b.addr.Ah then Dp (Ai b.m b.addr.Ah) else Ai b.m i:=λi hi=>by
   rw[hf.m];exact h.Gx hw _ hi
  have hs:=Yp4 (Ai b.m b.addr.Ah);have Dw:∀i,Zm b.Ad i=true->(Ai r.m i).queue=(Ai b.m i).queue/\(Ai r.m i).done=(Ai b.m i).done/\(Ai r.m i).tries=(Ai b.m i).tries/\(Ai r.m i).Ax=(Ai b.m i).Ax/\(Ai r.m i).broken=(Ai b.m i).broken:=λi hi=>by
   rw[CO i hi];split
   .rename_i e;subst e;exact hs
   .exact⟨rfl,rfl,rfl,rfl,rfl⟩
  have hp:=Yz1 h ha;have Jm:(Dp (Ai b.m b.addr.Ah)).An=(Ai b.m b.addr.Ah).An - 1:=by
   unfold Dp;rw[Ak (by omega)]
  refine⟨by rw[show ({r with addr:=Zh.z0}:Za).Ad=r.Ad from rfl,hf.Ad];exact h.Ad,?_,?_,?_,λi hi=>?_,?_,?_,?_,λhx=>?_,λhx=>?_,λi hi=>?_,?_,?_,?_,?_⟩
  .show r.m.length=r.Ad.Ab.length
   rw[hf.m,hf.Ad];simp[h.ml]
  .show r.buckets.length=r.Ad.Ab.length
   rw[hf.bl,hf.Ad]
  .show r.splits.length=r.Ad.Ab.length
   rw[hf.splits,hf.Ad];exact h.sl
  .have Y3:Zm b.Ad i=true:=by rw[<-show r.Ad=b.Ad from hf.Ad];exact hi
   have hm:=h.Bx i Y3;refine⟨?_,?_,?_,?_⟩
   .show Yy (Ai r.m i)
    rw[CO i Y3];split
    .exact Yj4 (h.Bx _ hw).right
    .exact hm.right
   .show (Ai r.m i).tries<=r.Ad.Ao
    rw[(Dw i Y3).2.2.1,hf.Ad];exact hm.tries
   .show Y1 (Ai r.buckets i) (Ai r.Ad.Ab i)=true
    rw[hf.Ad];exact hf.bk i Y3
   .show 0<=Ai r.splits i/\Ai r.splits i<=r.Ad.Ar
    rw[hf.splits,hf.Ad];exact hm.split
  .show CF r.Bq r.Ad=true
   rw[hf.Ad];exact hf.Bq
  .show r.last=-1\/Zm r.Ad r.last=true
   rw[hf.last,hf.Ad];exact h.last
  .show Ef r.model
   rw[hf.model];exact h.model
  .cases hx
  .have E0:r.Aa.live=true:=hx
   obtain⟨h1,h2,h3⟩:=h.B9 hd;refine⟨?_,?_,?_⟩
   .show Zm r.Ad r.Aa.Ah=true
    rw[hf.Ad,hf.data];exact h1
   .show 1<=r.Aa.B6/\r.Aa.B6<=3
    rw[hf.data];exact h2
   .show Ai r.splits r.Aa.Ah=0
    rw[hf.splits,hf.data];exact h3
  .have Y3:Zm b.Ad i=true:=by rw[<-show r.Ad=b.Ad from hf.Ad];exact hi
   show (Ai r.m i).An - (Ai r.m i).done=Jw {r with addr:=Zh.z0} i;have BM:=h.Dq i Y3;unfold Jw at BM ⊢;simp only[hf.data];rw[(Dw i Y3).2.1,CO i Y3];by_cases e:i=b.addr.Ah
   .subst e
    rw[Aj rfl,Jm];rw[Aj ⟨ha,rfl⟩] at BM;simp only[Bn,false_and,if_false];omega
   .rw[Ak e]
    rw[Ak (λhx=>e hx.2.symm)] at BM;simp only[Bn,false_and,if_false];exact BM
  .unfold Jr
   simp
  .unfold Kz
   show if r.Aa.live=true then _ else _
   simp only[hf.data,hf.Ad,hf.Af];rw[Aj hd];have e:=Dw _ (Ko h hd);rw[e.2.1,e.2.2.1,e.2.2.2.1];exact⟨CQ.1,CQ.2.1,CQ.2.2.1,λ_=>⟨hl,hr,trivial⟩⟩
  .refine Yo6 (b:=b) h.held hf.Ad hf.Af hf.held (λi hi=>⟨eJ (Dw i hi).1 (Dw i hi).2.2.2.2,λhx=>?_⟩) (λ_ hx=>by show Ai r.splits b.Af=0;rw[hf.splits];exact hx)
   show (Ai b.m i).An > 0;have E0:(Ai r.m i).An > 0:=hx;rw[CO i hi] at E0;split at E0
   .rename_i e;subst e;rw[Jm] at E0;omega
   .exact E0
  .show (∀d∈r.log,So r.Ad n d)/\r.log.Pairwise _
   rw[hf.log,hf.Ad];exact h.log
 .rw[Ak ha]
  refine⟨h.Ad,h.ml,h.bl,h.sl,λi hi=>?_,h.Bq,h.last,h.model,h.alive,λ_=>h.B9 hd,λi hi=>?_,h.addr,?_,h.held,h.log⟩
  .have hm:=h.Bx i hi;exact⟨hm.right,hm.tries,hm.bucket,hm.split⟩
  .have:=h.Dq i hi
   unfold Jw at this ⊢;exact this
  .unfold Kz
   simp only;rw[Aj hd];exact⟨CQ.1,CQ.2.1,CQ.2.2.1,λ_=>⟨hl,hr,by simpa using ha⟩⟩
theorem Yj8 {n:Int} {b:Za} (h:Y0 n b) (hd:b.Aa.live=true) (ha:b.addr.live=false) (x:Zg) (sp:List Int) (hq:x.queue=(Ai b.m b.Aa.Ah).queue) (hbe:x.An=(Ai b.m b.Aa.Ah).An) (UM:x.done=(Ai b.m b.Aa.Ah).done) (hbr:x.broken=(Ai b.m b.Aa.Ah).broken)
  (ht:0<=x.tries/\x.tries<=b.Ad.Ao) (Hm:sp.length=b.splits.length) (JV:∀i,Zm b.Ad i=true->0<=Ai sp i/\Ai sp i<=b.Ad.Ar) (PM:b.Af≠-1->Ai b.splits b.Af=0->Ai sp b.Af=0):
  Y0 n (X4 {b with Aa:=Zh.z0,m:=b.m.set b.Aa.Ah.toNat x,splits:=sp} b.Aa):=by
 have hw:=Ko h hd;have hb:=X5 hw;have hf:=Yd0 (b:={b with Aa:=Zh.z0,m:=b.m.set b.Aa.Ah.toNat x,splits:=sp}) (x:=b.Aa) h.Ad hw h.bl (λi hi=>(h.Bx i hi).bucket) h.Bq;generalize X4 {b with Aa:=Zh.z0,m:=b.m.set b.Aa.Ah.toNat x,splits:=sp} b.Aa=r at hf;have Ck:=(h.Bx _ hw).right;have hp:=UL h hd;have Yg:(Ai b.m b.Aa.Ah).queue≠[]:=LG Ck (by omega);have hxr:Yy x:=by
  have h2:=Ck.some Yg;refine⟨by rw[hq];exact Ck.len,ht.1,by rw[hq];exact Ck.reqs,λhx=>absurd (by rw[<-hq];exact hx) Yg,λ_=>?_⟩;have:Zw x=Zw (Ai b.m b.Aa.Ah):=by unfold Zw;rw[hq]
  rw[this,hbe,UM];exact h2
 have xZ:Ai (b.m.set b.Aa.Ah.toNat x) b.Aa.Ah=x:=dE x hb.1 (by have:=h.ml;omega);have CO:∀i,Zm b.Ad i=true->Ai r.m i=if i=b.Aa.Ah then Dp x else Ai b.m i:=λi hi=>by
  have Y3:=X5 hi;rw[hf.m];show Ai ((b.m.set b.Aa.Ah.toNat x).set b.Aa.Ah.toNat (Dp (Ai (b.m.set b.Aa.Ah.toNat x) b.Aa.Ah))) i=_;rw[xZ,List.set_set];exact h.Gx hw _ hi
 have hs:=Yp4 x;have Jm:(Dp x).An=(Ai b.m b.Aa.Ah).An - 1:=by
  unfold Dp;rw[Ak (by rw[hbe,UM];omega)];simp only[hbe]
 have hbz:Zh.z0.live=false:=rfl;refine⟨by rw[hf.Ad];exact h.Ad,?_,?_,?_,λi hi=>?_,?_,?_,?_,λhx=>?_,λhx=>?_,λi hi=>?_,?_,?_,?_,?_⟩
 .rw[hf.m,hf.Ad];simp[h.ml]
 .rw[hf.bl,hf.Ad]
 .rw[hf.splits,hf.Ad];show sp.length=_;rw[Hm];exact h.sl
 .have Y3:Zm b.Ad i=true:=by rw[<-show r.Ad=b.Ad from hf.Ad];exact hi
  have hm:=h.Bx i Y3;refine⟨?_,?_,?_,?_⟩
  .rw[CO i Y3]
   split
   .exact Yj4 hxr
   .exact hm.right
  .rw[CO i Y3,hf.Ad]
   split
   .rw[hs.2.2.1];exact ht.2
   .exact hm.tries
  .rw[hf.Ad];exact hf.bk i Y3
  .rw[hf.splits,hf.Ad];exact JV i Y3
 .rw[hf.Ad];exact hf.Bq
 .rw[hf.last,hf.Ad];exact h.last
 .rw[hf.model];exact h.model
 .rw[hf.addr] at hx;rw[show ({b with Aa:=Zh.z0,m:=b.m.set b.Aa.Ah.toNat x,splits:=sp}:Za).addr=b.addr from rfl,ha] at hx;cases hx
 .rw[hf.data] at hx;cases hx
 .have Y3:Zm b.Ad i=true:=by rw[<-show r.Ad=b.Ad from hf.Ad];exact hi
  have BM:=h.Dq i Y3;unfold Jw at BM ⊢;rw[hf.data,hf.addr,CO i Y3];show _=(if b.addr.live=true/\b.addr.Ah=i then (1:Int) else 0)+(if Zh.z0.live=true/\Zh.z0.Ah=i then 1 else 0);rw[ha] at BM ⊢;simp only[Bn,false_and,if_false] at BM ⊢;by_cases e:i=b.Aa.Ah
  .subst e
   rw[Aj rfl,Jm,hs.2.1,UM];rw[Aj (⟨hd,rfl⟩:b.Aa.live=true/\b.Aa.Ah=b.Aa.Ah)] at BM;omega
  .rw[Ak e]
   rw[Ak (λhx=>e hx.2.symm)] at BM;exact BM
 .have:=h.addr
  unfold Jr at this ⊢;rw[hf.addr];show if b.addr.live=true then _ else _
  rw[ha] at this ⊢;exact this
 .unfold Kz
  rw[hf.data];show if Zh.z0.live=true then _ else _
  rw[Ak (by simp)]
 .refine Yo6 (b:=b) h.held hf.Ad hf.Af hf.held (λi hi=>?_) (λh1 h2=>by rw[hf.splits];exact PM h1 h2)
  rw[CO i hi];split
  .rename_i e;subst e
   refine⟨eJ (by rw[hs.1,hq]) (by rw[hs.2.2.2.2,hbr]),λhx=>?_⟩;rw[Jm] at hx;omega
  .exact⟨rfl,id⟩
 .rw[hf.log,hf.Ad];exact h.log
theorem Yc3 {m:Zg} (h:Yy m) (hp:m.An - m.done≥1):(m.done+1=Zw m->m.An - m.done=1/\(Jo m).queue=m.queue.tail/\(Jo m).An=0/\(Jo m).done=0/\(Jo m).tries=0)/\
  (m.done+1≠Zw m->(Jo m).queue=m.queue/\(Jo m).An=m.An/\(Jo m).done=m.done+1/\(Jo m).tries=0/\(Jo m).broken=m.broken/\(Jo m).Ax=false):=by
 have h1:=h.some (LG h (by omega));unfold Jo;constructor
 .intro e
  rw[Ak (by omega),Aj e];exact⟨by omega,rfl,rfl,rfl,rfl⟩
 .intro e
  rw[Ak (by omega),Ak e];exact⟨rfl,rfl,rfl,rfl,rfl,rfl⟩
theorem Ykg {m:Zg} {k:Int} (h:Yy m) (h0:0<=k) (h1:k < Zw m) (hw:(Ai m.queue 0).write=true):0<=k/\k < ((Ai m.queue 0).Aa.length:Int):=by
 have hq:m.queue≠[]:=by
  intro hq;unfold Zw at h1;rw[Aj hq] at h1;omega
 obtain⟨h2,h3,h4⟩:=sN h hq;have h5:=(JQ h2).2.1;rw[Aj hw] at h5;omega
theorem Yb3 {n:Int} {b:Za} (h:Y0 n b) (hd:b.Aa.live=true):0<=b.Aa.An/\b.Aa.An < Zw (Ai b.m b.Aa.Ah):=by
 have hw:=Ko h hd;have hp:=UL h hd;have hr:=(h.Bx _ hw).right;have h1:=hr.some (LG hr (by omega));have h2:=h.data;unfold Kz at h2;rw[Aj hd] at h2;rw[h2.1.1];omega
theorem Ybo {n:Int} {b:Za} (h:Y0 n b) (hl:b.addr.live=true):0<=b.addr.An/\b.addr.An < Zw (Ai b.m b.addr.Ah):=by
 have hw:=GV h hl;have hp:=Yz1 h hl;have hr:=(h.Bx _ hw).right;have h1:=hr.some (LG hr (by omega));have h2:=h.addr;unfold Jr at h2;rw[Aj hl] at h2;rw[h2.1];omega
theorem Yyz {b:Za} (hn:0<=b.now) (h:Y0 b.now b) (hd:b.Aa.live=true) (hr:b.Aa.Ap=0\/b.Aa.Ap=1) (LK:b.Aa.Ap≠0->b.addr.live=false):Y0 (b.now+1) (Nn {b with Aa:=Zh.z0} b.Aa):=by
 have hw:=Ko h hd;have hb:=X5 hw;have Ck:=(h.Bx _ hw).right;have hp:=UL h hd;have Yg:(Ai b.m b.Aa.Ah).queue≠[]:=LG Ck (by omega);have Jm:=Yb3 h hd;have UN:=Ytl Ck Jm.1 Jm.2;have CQ:=h.data;unfold Kz at CQ;rw[Aj hd] at CQ;have sS:=Z9u (w:=(Ai (Ai b.m b.Aa.Ah).queue 0).write) (v:=LJ (Ai b.m b.Aa.Ah) b.Aa.An) h.model UN.2.1;have Ib:=Yc3 Ck hp;have CO:∀i,Zm b.Ad i=true->Ai (b.m.set b.Aa.Ah.toNat (Jo (Ai b.m b.Aa.Ah))) i=if i=b.Aa.Ah then Jo (Ai b.m b.Aa.Ah) else Ai b.m i:=λi hi=>h.Gx hw _ hi
 have UO:(Ai b.m b.Aa.Ah).done+1=Zw (Ai b.m b.Aa.Ah)->b.addr.live=true->b.addr.Ah≠b.Aa.Ah:=by
  intro e hl e2;have h1:=(Ib.1 e).1;have h2:=h.Dq _ hw;unfold Jw at h2;rw[Aj (⟨hl,e2⟩:b.addr.live=true/\b.addr.Ah=b.Aa.Ah),Aj (⟨hd,rfl⟩:b.Aa.live=true/\b.Aa.Ah=b.Aa.Ah)] at h2;omega
 have hz:Y8 0 (Ai (Ai b.m b.Aa.Ah).queue 0).size=true:=by
  have h1:=(UD _).1 (Jq UN.2.1).1;generalize (Ai (Ai b.m b.Aa.Ah).queue 0).size=s at h1;have:s=0\/s=1\/s=2:=by omega
  rcases this with rfl|rfl|rfl<;>decide
 refine⟨h.Ad,?_,h.bl,h.sl,λi hi=>?_,h.Bq,h.last,?_,h.alive,(λhx=>by cases hx),λi hi=>?_,?_,?_,?_,?_⟩
 .show (b.m.set b.Aa.Ah.toNat (Jo (Ai b.m b.Aa.Ah))).length=_
  rw[KI];exact h.ml
 .have Y3:Zm b.Ad i=true:=hi
  have hm:=h.Bx i Y3;refine⟨?_,?_,hm.bucket,hm.split⟩
  .show Yy (Ai (b.m.set b.Aa.Ah.toNat (Jo (Ai b.m b.Aa.Ah))) i)
   rw[CO i Y3];split
   .exact Y5t Ck
   .exact hm.right
  .show (Ai (b.m.set b.Aa.Ah.toNat (Jo (Ai b.m b.Aa.Ah))) i).tries<=b.Ad.Ao
   rw[CO i Y3];split
   .have hl:=(W7 h.Ad).1
    by_cases e:(Ai b.m b.Aa.Ah).done+1=Zw (Ai b.m b.Aa.Ah)
    .rw[(Ib.1 e).2.2.2.2];omega
    .rw[(Ib.2 e).2.2.2.1];omega
   .exact hm.tries
 .show Ef (if b.Aa.Ap=0 then (Em {b with Aa:=Zh.z0} b.Aa).1 else b.model)
  split
  .exact sS.1
  .exact h.model
 .have Y3:Zm b.Ad i=true:=hi
  have BM:=h.Dq i Y3;show (Ai (b.m.set b.Aa.Ah.toNat (Jo (Ai b.m b.Aa.Ah))) i).An - (Ai (b.m.set b.Aa.Ah.toNat (Jo (Ai b.m b.Aa.Ah))) i).done=Jw (Nn {b with Aa:=Zh.z0} b.Aa) i;unfold Jw at BM ⊢;show _=(if b.addr.live=true/\b.addr.Ah=i then (1:Int) else 0)+(if Zh.z0.live=true/\Zh.z0.Ah=i then 1 else 0);rw[CO i Y3];simp only[Bn,false_and,if_false];by_cases e:i=b.Aa.Ah
  .subst e
   rw[Aj rfl];rw[Aj (⟨hd,rfl⟩:b.Aa.live=true/\b.Aa.Ah=b.Aa.Ah)] at BM;by_cases e2:(Ai b.m b.Aa.Ah).done+1=Zw (Ai b.m b.Aa.Ah)
   .rw[(Ib.1 e2).2.2.1,(Ib.1 e2).2.2.2.1,Ak (λhx=>UO e2 hx.1 hx.2)]
    rfl
   .rw[(Ib.2 e2).2.1,(Ib.2 e2).2.2.1]
    omega
  .rw[Ak e]
   rw[Ak (λhx:b.Aa.live=true/\b.Aa.Ah=i=>e hx.2.symm)] at BM;omega
 .have hA:=h.addr
  unfold Jr at hA ⊢;show if b.addr.live=true then _ else _
  by_cases hl:b.addr.live=true
  .rw[Aj hl] at hA ⊢
   show b.addr.An=(Ai (b.m.set b.Aa.Ah.toNat (Jo (Ai b.m b.Aa.Ah))) b.addr.Ah).An - 1/\_;rw[CO _ (GV h hl)];split
   .rename_i e
    have e2:¬(Ai b.m b.Aa.Ah).done+1=Zw (Ai b.m b.Aa.Ah):=λe2=>UO e2 hl e;rw[(Ib.2 e2).2.1,<-e];exact hA
   .exact hA
  .rw[Ak hl] at hA ⊢;exact hA
 .unfold Kz
  show if Zh.z0.live=true then _ else _
  rw[Ak (by simp)];rfl
 .obtain⟨h1,h2⟩:=h.held
  show Gu (Nn {b with Aa:=Zh.z0} b.Aa);unfold Gu;show (∀i,Zm b.Ad i=true->(Ai (b.m.set b.Aa.Ah.toNat (Jo (Ai b.m b.Aa.Ah))) i).An > 0->Yr (Ai (b.m.set b.Aa.Ah.toNat (Jo (Ai b.m b.Aa.Ah))) i)=true->(if b.Af=b.Aa.Ah/\(Ai b.m b.Aa.Ah).done+1=Zw (Ai b.m b.Aa.Ah) then -1 else b.Af)=i)/\
   (if (if b.Af=b.Aa.Ah/\(Ai b.m b.Aa.Ah).done+1=Zw (Ai b.m b.Aa.Ah) then -1 else b.Af)=-1 then (if b.Af=b.Aa.Ah/\(Ai b.m b.Aa.Ah).done+1=Zw (Ai b.m b.Aa.Ah) then 0 else b.held)=0 else Zm b.Ad (if b.Af=b.Aa.Ah/\(Ai b.m b.Aa.Ah).done+1=Zw (Ai b.m b.Aa.Ah) then -1 else b.Af)=true/\Yr (Ai (b.m.set b.Aa.Ah.toNat (Jo (Ai b.m b.Aa.Ah))) (if b.Af=b.Aa.Ah/\(Ai b.m b.Aa.Ah).done+1=Zw (Ai b.m b.Aa.Ah) then -1 else b.Af))=true/\Ai b.splits (if b.Af=b.Aa.Ah/\(Ai b.m b.Aa.Ah).done+1=Zw (Ai b.m b.Aa.Ah) then -1 else b.Af)=0/\(0<=(if b.Af=b.Aa.Ah/\(Ai b.m b.Aa.Ah).done+1=Zw (Ai b.m b.Aa.Ah) then 0 else b.held)/\(if b.Af=b.Aa.Ah/\(Ai b.m b.Aa.Ah).done+1=Zw (Ai b.m b.Aa.Ah) then 0 else b.held)<=b.Ad.Am))
  have NP:∀i,Zm b.Ad i=true->(Ai (b.m.set b.Aa.Ah.toNat (Jo (Ai b.m b.Aa.Ah))) i).An > 0->Yr (Ai (b.m.set b.Aa.Ah.toNat (Jo (Ai b.m b.Aa.Ah))) i)=true->b.Af=i/\¬(i=b.Aa.Ah/\(Ai b.m b.Aa.Ah).done+1=Zw (Ai b.m b.Aa.Ah)):=by
   intro i hi hx hk;rw[CO i hi] at hx hk;by_cases e:i=b.Aa.Ah
   .rw[Aj e] at hx hk
    by_cases e2:(Ai b.m b.Aa.Ah).done+1=Zw (Ai b.m b.Aa.Ah)
    .rw[(Ib.1 e2).2.2.1] at hx;omega
    .have e3:=Ib.2 e2
     rw[e3.2.1] at hx;rw[eJ e3.1 e3.2.2.2.2.1] at hk;subst e;exact⟨h1 _ hi hx hk,λhy=>e2 hy.2⟩
   .rw[Ak e] at hx hk
    exact⟨h1 i hi hx hk,λhy=>e hy.1⟩
  by_cases e:b.Af=b.Aa.Ah/\(Ai b.m b.Aa.Ah).done+1=Zw (Ai b.m b.Aa.Ah)
  .simp only[Aj e,if_true]
   refine⟨λi hi hx hk=>?_,trivial⟩;have:=NP i hi hx hk;exact absurd ⟨by rw[<-this.1];exact e.1,e.2⟩ this.2
  .simp only[Ak e]
   refine⟨λi hi hx hk=>(NP i hi hx hk).1,?_⟩;split
   .rename_i e2;rw[Aj e2] at h2;exact h2
   .rename_i e2
    rw[Ak e2] at h2;refine⟨h2.1,?_,h2.2.2.1,h2.2.2.2⟩;rw[CO _ h2.1];split
    .rename_i e3
     have e4:¬(Ai b.m b.Aa.Ah).done+1=Zw (Ai b.m b.Aa.Ah):=λe4=>e ⟨e3,e4⟩;rw[eJ (Ib.2 e4).1 (Ib.2 e4).2.2.2.2.1,<-e3];exact h2.2.1
    .exact h2.2.1
 .show (∀d∈b.log++[eF {b with Aa:=Zh.z0} b.Aa],So b.Ad (b.now+1) d)/\(b.log++[eF {b with Aa:=Zh.z0} b.Aa]).Pairwise _
  refine⟨λd hx=>?_,?_⟩
  .rcases BU.1 hx with hx|hx
   .have:=h.log.1 d hx
    exact⟨⟨this.1.1,by have:=this.1.2;omega⟩,this.2⟩
   .rw[List.mem_singleton.1 hx]
    refine⟨⟨hn,by show b.now < b.now+1;omega⟩,hw,UN.2.1,UN.2.2.2,?_,hr⟩;show Y8 (if b.Aa.Ap=0 then (Em {b with Aa:=Zh.z0} b.Aa).2.1 else 0) (Ai (Ai b.m b.Aa.Ah).queue 0).size=true;split
    .exact sS.2.1
    .exact hz
  .rw[List.pairwise_append]
   refine⟨h.log.2,List.pairwise_singleton _ _,λx hx y hy=>?_⟩;rw[List.mem_singleton.1 hy];exact (h.log.1 x hx).1.2
theorem Y7j {c:Zi} (h:Ys c=true) (s:Zb) (k:Int):1<=GS c s k/\GS c s k<=c.Ar:=by
 have:=(W7 h).2.2.2;unfold GS;omega
end Go.Proofs.YthdljdelfgofdaaGreatDoor.Ev
