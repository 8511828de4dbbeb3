/- A part of the proof of FnDesk: see the text YthdljdelfgofdaaGreatDoorLawFnDesk for what is proved and its conditions. Conditions here: those in each line. -/
import Derived.Test.YthdljdelfgofdaaGreatDoorA7
import Derived.Lib.AtoiAllCases
import Derived.Lib.IndexBytes
import Derived.Lib.IndexLaws
import Derived.Lib.SplitLaws
set_option linter.unusedSimpArgs false
set_option linter.unusedVariables false
set_option linter.unusedSectionVars false
namespace Go.Proofs.YthdljdelfgofdaaGreatDoor.Ev
open Go Go.Proofs
theorem OY {n:Int} (h1:-9223372036854775808<=n) (h2:n < 9223372036854775808):IntKind.i64.wrap n=n:=Xai h1 h2
theorem Ye {a b:Int} (h1:-9223372036854775808<=a+b) (h2:a+b < 9223372036854775808):Zl a b=a+b:=OY h1 h2
theorem Xd {a b:Int} (h1:-9223372036854775808<=a - b) (h2:a - b < 9223372036854775808):Y8 a b=a - b:=OY h1 h2
theorem Jj {a b:Int} (h1:-9223372036854775808<=a*b) (h2:a*b < 9223372036854775808):X5 a b=a*b:=OY h1 h2
theorem Z8 {k:Nat} (h:k < 4611686018427387904):Zl (k:Int) 1=((k+1:Nat):Int):=by rw[Ye (by omega) (by omega)];rfl
section
variable {α β σ U:Type}
theorem Zx {xs:List α} {k:Nat} (h:k < xs.length):idx xs (k:Int)=some xs[k]:=by
 simp[idx,h]
theorem Yx:4611686018427387904 < FU:=by decide
def Nj (step:α->σ->Option (σ ⊕ U)) (fin:σ->Option U):List α->σ->Option U
 | [],s=>fin s
 | a::l,s=>(step a s).bind λr=>match r with|.inl s'=>Nj step fin l s'|.inr x=>some x
def eG (k:σ->Option U):σ ⊕ U->Option U
 | .inl s=>k s
 | .inr x=>some x
theorem Y8q (xs:List α) (hl:xs.length < 4611686018427387904) (step:α->σ->Option (σ ⊕ U)) (fin:σ->Option U) (L:Nat->σ->Int->Option U)
  (hL:∀m s i,L (m+1) s i=if decide (i < (xs.length:Int))=true then (idx xs i).bind λa=>(step a s).bind (eG λs'=>L m s' (Zl i 1)) else fin s):
  ∀(m k:Nat) (s:σ),k<=xs.length->xs.length - k < m->L m s k=Nj step fin (xs.drop k) s:=by
 intro m
 induction m with
 | zero=>intro k s _ h;omega
 | succ m ih=>
  intro k s hk hm;rw[hL];by_cases hc:k < xs.length
  .have h1:decide ((k:Int) < (xs.length:Int))=true:=by simpa using hc
   rw[Ah h1,Zx hc,Ag,DG hc];simp only[Nj]
   congr 1
   funext r
   cases r with
   | inl s'=>
    simp only[eG];rw[Z8 (by omega)];exact ih (k+1) s' (by omega) (by omega)
   | inr x=>rfl
  .have h1:¬decide ((k:Int) < (xs.length:Int))=true:=by simpa using hc
   rw[Ai h1,Fu (by omega)];rfl
theorem tJ (xs:List α) (hl:xs.length < 4611686018427387904) (step:α->σ->Option (σ ⊕ U)) (fin:σ->Option U) (L:Nat->σ->Int->Option U)
  (hL:∀m s i,L (m+1) s i=if decide (i < (xs.length:Int))=true then (idx xs i).bind λa=>(step a s).bind (eG λs'=>L m s' (Zl i 1)) else fin s) (s:σ):
  L FU s 0=Nj step fin xs s:=by
 have:=Y8q xs hl step fin L hL FU 0 s (BM _) (by have:=Yx;omega);simpa using this
theorem Ysd (step:α->σ->Option (σ ⊕ U)) (fin:σ->Option U) (f:σ->α->σ) (I:List α->σ->Prop) (h:∀a l s,I (a::l) s->step a s=some (.inl (f s a))/\I l (f s a)):∀(xs:List α) (s:σ),I xs s->Nj step fin xs s=fin (xs.foldl f s):=by
 intro xs
 induction xs with
 | nil=>intro s _;rfl
 | cons a l ih=>
  intro s hi;obtain⟨h1,h2⟩:=h a l s hi;simp only[Nj,h1,Ag,HO];exact ih _ h2
theorem Yv2 {sz n:Nat} {z:α} (h1:n*sz<=70368744177664) (h2:n<=9223372036854775807):H5 sz (n:Int) z=some (List.replicate n z):=by
 simp[H5,h1,h2]
theorem Yr {sz:Nat} {xs ys:List α} (h1:(xs.length+ys.length)*sz<=140737488355328) (h2:xs.length+ys.length<=9223372036854775807):Y4 sz xs ys=some (xs++ys):=by
 unfold Y4;rw[Ah ⟨h1,h2⟩]
end
section
variable {α:Type}
theorem Wy (xs:List α) (i:Int) (a:α):Jb xs i a=some (xs.set i.toNat a):=rfl
def Ak [Inhabited α] (xs:List α) (i:Int):α:=xs.getD i.toNat default
theorem Qp [Inhabited α] {xs:List α} {k:Nat} (h:k < xs.length):Ak xs (k:Int)=xs[k]:=by
 simp[Ak,h]
theorem Xu [Inhabited α] {xs:List α} {i:Int} (h0:0<=i) (h1:i < (xs.length:Int)):idx xs i=some (Ak xs i):=by
 obtain⟨k,rfl⟩:∃k:Nat,i=k:=⟨i.toNat,by omega⟩;have hk:k < xs.length:=by omega
 rw[Zx hk,Qp hk]
theorem G9 [Inhabited α] {xs:List α} {i:Int} (h0:0<=i) (h1:i < (xs.length:Int)):Ak xs i∈xs:=by
 obtain⟨k,rfl⟩:∃k:Nat,i=k:=⟨i.toNat,by omega⟩;have hk:k < xs.length:=by omega
 rw[Qp hk];exact B6 hk
theorem eH [Inhabited α] {xs:List α} {i:Int} (a:α) (h0:0<=i) (h1:i < (xs.length:Int)):Ak (xs.set i.toNat a) i=a:=by
 obtain⟨k,rfl⟩:∃k:Nat,i=k:=⟨i.toNat,by omega⟩;have hk:k < xs.length:=by omega
 rw[Qp (by simpa using hk)];simp
theorem Yrw [Inhabited α] {xs:List α} {i j:Int} (a:α) (h0:0<=i) (h1:0<=j) (hn:i≠j):Ak (xs.set i.toNat a) j=Ak xs j:=by
 unfold Ak;rw[Py,Py,List.getElem?_set_ne (by omega)]
theorem JU {n:Int} (h:n≠0):FG n=some ():=by unfold FG;rw[Ai h]
theorem Y8l {n:Int} (h:0<=n):Lv n=some ():=by unfold Lv;rw[Ah h]
theorem HA {a n:Int} (h0:0<=a):C4 a n=a % n:=by unfold C4;rw[Vd2 h0]
theorem tK {a n:Int} (h0:0<=a) (h1:a < 9223372036854775808) (hn:1<=n):E2 a n=a / n:=by
 unfold E2;rw[Int.tdiv_eq_ediv_of_nonneg h0];have h2:0<=a / n:=Int.ediv_nonneg h0 (by omega);have h3:a / n<=a:=Int.ediv_le_self n h0;exact OY (by omega) (by omega)
theorem Yat (xs:List α) (hl:xs.length < 4611686018427387904) (f:α->Option Bool) (q:α->Bool) (hf:∀a∈xs,f a=some (!q a)) (L:Nat->Int->Option Int)
  (hL:∀m i,L (m+1) i=if decide (i < (xs.length:Int))=true then (idx xs i).bind λa=>(f a).bind λr=>if r=true then some i else L m (Zl i 1) else some (-1)):
  (xs.all q=true/\L FU 0=some (-1))\/∃k:Nat,∃h:k < xs.length,L FU 0=some (k:Int)/\q xs[k]=false/\(xs.take k).all q=true:=by
 have key:∀(m k:Nat),k<=xs.length->xs.length - k < m->(xs.take k).all q=true->(xs.all q=true/\L m k=some (-1))\/∃j:Nat,∃h:j < xs.length,L m k=some (j:Int)/\q xs[j]=false/\(xs.take j).all q=true:=by
  intro m
  induction m with
  | zero=>intro k _ h;omega
  | succ m ih=>
   intro k hk hm ht;rw[hL];by_cases hc:k < xs.length
   .have h1:decide ((k:Int) < (xs.length:Int))=true:=by simpa using hc
    rw[Ah h1,Zx hc,Ag,hf _ (B6 hc),Ag];by_cases hq:q xs[k]=true
    .have h2:¬(!q xs[k])=true:=by simp[hq]
     rw[Ai h2,Z8 (by omega)];refine ih (k+1) (by omega) (by omega) ?_;rw[List.take_succ_eq_append_getElem hc,List.all_append,ht];simp[hq]
    .have h2:(!q xs[k])=true:=by simpa using hq
     rw[Ah h2];exact .inr ⟨k,hc,rfl,by simpa using hq,ht⟩
   .have h1:¬decide ((k:Int) < (xs.length:Int))=true:=by simpa using hc
    rw[Ai h1];rw[DH (by omega)] at ht;exact .inl ⟨ht,rfl⟩
 exact key FU 0 (BM _) (by have:=Yx;omega) (by simp)
theorem tL (xs:List α) (hl:xs.length < 4611686018427387904) (f:α->Option Bool) (q:α->Bool) (hf:∀a∈xs,f a=some (!q a)) (L:Nat->Int->Option Int)
  (hL:∀m i,L (m+1) i=if decide (i < (xs.length:Int))=true then (idx xs i).bind λa=>(f a).bind λr=>if r=true then some i else L m (Zl i 1) else some (-1)):
  ((L FU 0).bind λr=>some (decide (r≥0)))=some (!xs.all q):=by
 rcases Yat xs hl f q hf L hL with⟨h1,h2⟩|⟨k,hk,h1,h2,h3⟩
 .rw[h2,h1];rfl
 .rw[h1,Ag]
  have:xs.all q=false:=by
   rw[List.all_eq_false];exact⟨xs[k],B6 hk,by simp[h2]⟩
  rw[this];have h4:((k:Nat):Int)≥0:=by omega
  simp[h4]
theorem Y0k (xs:List α) (z:α) (hl:xs.length < 4611686018427387904) (f:α->Option Bool) (q:α->Bool) (hf:∀a∈xs,f a=some (!q a)) (I:Nat->Int->Option Int)
  (hI:∀m i,I (m+1) i=if decide (i < (xs.length:Int))=true then (idx xs i).bind λa=>(f a).bind λr=>if r=true then some i else I m (Zl i 1) else some (-1))
  (L:Nat->List α->Int->Int->Option (List α))
  (hL:∀m v i j,L (m+1) v i j=if decide (j < (v.length:Int))=true then (idx v j).bind λa=>(f a).bind λr=>if (!r)=true then (idx v i).bind λ_=>(Jb v i a).bind λy=>L m y (Zl i 1) (Zl j 1) else L m v i (Zl j 1)
   else (Yv v i (v.length:Int)).bind λ_=>(Lt z v i (v.length:Int)).bind λy=>(Yv y 0 i).bind λs=>some s):
  ((I FU 0).bind λr=>if decide (r=(-1))=true then some xs else L FU xs r (Zl r 1))=some (xs.filter q):=by
 have key:∀(m i j:Nat) (v:List α),i<=j->j<=xs.length->xs.length - j < m->v.length=xs.length->v.take i=(xs.take j).filter q->v.drop j=xs.drop j->L m v i j=some (xs.filter q):=by
  intro m
  induction m with
  | zero=>intro i j v _ _ h;omega
  | succ m ih=>
   intro i j v hij hj hm hv ht hd;rw[hL];by_cases hc:j < v.length
   .have FA:j < xs.length:=by omega
    have h1:decide ((j:Int) < (v.length:Int))=true:=by simpa using hc
    have e:v[j]=xs[j]:=by
     have:=congrArg List.head? hd;simpa [List.head?_drop,hc,FA] using this
    have Hg:v.drop (j+1)=xs.drop (j+1):=by
     have:=congrArg (List.drop 1) hd;simpa [List.drop_drop] using this
    rw[Ah h1,Zx hc,Ag,e,hf _ (B6 FA),Ag,wB];by_cases hq:q xs[j]=true
    .rw[Ah hq,Zx (by omega:i < v.length),Ag]
     simp only[Jb,Ag];rw[Z8 (by omega),Z8 (by omega)];refine ih (i+1) (j+1) _ (by omega) (by omega) (by omega) (by simp[hv]) ?_ ?_
     .rw[Iy,List.take_succ_eq_append_getElem (by simpa using (by omega:i < v.length)),List.take_set_of_le (B2 _),ht,List.take_succ_eq_append_getElem FA,V3]
      simp[hq]
     .rw[Iy,List.drop_set_of_lt (by omega),Hg]
    .rw[Ai hq,Z8 (by omega)]
     refine ih i (j+1) v (by omega) (by omega) (by omega) hv ?_ Hg;rw[ht,List.take_succ_eq_append_getElem FA,V3];simp[hq]
   .have h1:¬decide ((j:Int) < (v.length:Int))=true:=by simpa using hc
    have hjx:j=xs.length:=by omega
    rw[Ai h1];have h2:Yv v (i:Int) (v.length:Int)=some ((v.drop i).take (v.length - i)):=by
     unfold Yv;rw[Ah ⟨by omega,by omega,by omega⟩];simp
    have h3:Lt z v (i:Int) (v.length:Int)=some (v.take i++List.replicate (v.length - i) z++v.drop v.length):=by
     unfold Lt;have:(i:Int).toNat+((v.length:Int).toNat - (i:Int).toNat)=v.length:=by omega
     rw[Ah (by omega),this];simp
    rw[h2,Ag,h3,Ag];have h4:Yv (v.take i++List.replicate (v.length - i) z++v.drop v.length) 0 (i:Int)=some (v.take i):=by
     unfold Yv;rw[Ah ⟨by omega,by omega,by simp;omega⟩];have:(v.take i).length=i:=by rw[Ey];omega
     simp[List.append_assoc,List.take_append,this]
    rw[h4,Ag,ht,hjx,E9]
 rcases Yat xs hl f q hf I hI with⟨h1,h2⟩|⟨k,hk,h1,h2,h3⟩
 .rw[h2,Ag,Ah (by decide)]
  congr 1
  exact (List.filter_eq_self.2 (λa ha=>Cf.1 h1 a ha)).symm
 .rw[h1,Ag,Ai (by simp),Z8 (by omega)]
  refine key FU k (k+1) xs (by omega) (by omega) (by have:=Yx;omega) rfl ?_ rfl;rw[List.take_succ_eq_append_getElem hk,V3,List.filter_eq_self.2 (λa ha=>Cf.1 h3 a ha)];simp[h2]
theorem Yrv (sz:Nat) (hz:sz<=1024) (xs:List α) (hl:xs.length < 1048577) (f:α->Option α) (hf:∀a∈xs,f a=some a) {U:Type} (fin:List α->Option U) (L:Nat->List α->Int->Option U)
  (hL:∀m v i,L (m+1) v i=if decide (i < (xs.length:Int))=true then (idx xs i).bind λa=>(f a).bind λb=>(Y4 sz v [b]).bind λz=>L m z (Zl i 1) else fin v):L FU [] 0=fin xs:=by
 have key:∀(m k:Nat),k<=xs.length->xs.length - k < m->L m (xs.take k) k=fin xs:=by
  intro m
  induction m with
  | zero=>intro k _ h;omega
  | succ m ih=>
   intro k hk hm;rw[hL];by_cases hc:k < xs.length
   .have h1:decide ((k:Int) < (xs.length:Int))=true:=by simpa using hc
    have Yp:(xs.take k).length=k:=by rw[Ey];omega
    have hb:(k+1)*sz<=140737488355328:=I1 (Nat.mul_le_mul (by omega:k+1<=1048577) hz) (by decide);rw[Ah h1,Zx hc,Ag,hf _ (B6 hc),Ag,Yr (by simpa [Yp] using hb) (by simp[Yp];omega),Ag,Z8 (by omega),<-List.take_succ_eq_append_getElem hc];exact ih (k+1) (by omega) (by omega)
   .have h1:¬decide ((k:Int) < (xs.length:Int))=true:=by simpa using hc
    rw[Ai h1,DH (by omega)]
 have:=key FU 0 (BM _) (by have:=Yx;omega);simpa using this
end
theorem Xff (bs:ByteArray):∀(n i:Nat) (r:List UInt8),bs.size - i=n->ByteArray.toList.loop bs i r=r.reverse++bs.data.toList.drop i:=by
 intro n
 induction n with
 | zero=>
  intro i r h;unfold ByteArray.toList.loop;have hs:bs.data.toList.length=bs.size:=rfl;rw[Ai (by omega),Fu (by omega)];simp
 | succ n ih=>
  intro i r h;unfold ByteArray.toList.loop;have hs:bs.data.toList.length=bs.size:=rfl;have hi:i < bs.data.toList.length:=by omega
  rw[Ah (by omega),ih (i+1) _ (by omega),DG hi];have:bs.get! i=bs.data.toList[i]:=by
   have US:i < bs.data.size:=hi;simp[ByteArray.get!,getElem!_def,Var US]
  rw[this];simp
theorem Ysn (bs:ByteArray):bs.toList=bs.data.toList:=by
 unfold ByteArray.toList;rw[Xff bs _ 0 [] rfl];simp
theorem Ykb {β:Type} {c:Prop} [Decidable c] {x:β}:(if c then x else x)=x:=by split<;>rfl
theorem Jh {σ U:Type} {n:Nat} (hn:n < 4611686018427387904) (st:Nat->σ) {B:(σ->Int->U)->σ->Int->U} {L:Nat->σ->Int->U} (hL:∀m s i,L (m+1) s i=B (L m) s i)
  (hs:∀k,k < n->∀κ,B κ (st k) (k:Int)=κ (st (k+1)) (Zl (k:Int) 1)) {r:U} (hf:∀κ,B κ (st n) (n:Int)=r):L FU (st 0) 0=r:=by
 have key:∀(m k:Nat),k<=n->n - k < m->L m (st k) (k:Int)=r:=by
  intro m
  induction m with
  | zero=>intro k _ h;omega
  | succ m ih=>
   intro k hk hm;rw[hL];by_cases hc:k < n
   .rw[hs k hc,Z8 (by omega)]
    exact ih (k+1) (by omega) (by omega)
   .have:k=n:=by omega
    subst this;exact hf _
 have:=key FU 0 (BM _) (by have:=Yx;omega);simpa using this
theorem Ywt {U:Type} {n:Nat} (hn:n < 4611686018427387904) {B:(Int->U)->Int->U} {L:Nat->Int->U} (hL:∀m i,L (m+1) i=B (L m) i)
  (hs:∀k,k < n->∀κ,B κ (k:Int)=κ (Zl (k:Int) 1)) {r:U} (hf:∀κ,B κ (n:Int)=r):L FU 0=r:=
 Jh (σ:=Unit) hn (λ_=>()) (B:=λκ _ i=>B (κ ()) i) (L:=λm _ i=>L m i) (λm _ i=>hL m i) (λk hk κ=>hs k hk _) λκ=>hf _
def L8 (b:ByteArray):List UInt8:=b.data.toList
theorem Wl (a b:ByteArray):L8 (a++b)=L8 a++L8 b:=by simp[L8]
theorem Jg {a b:ByteArray} (h:L8 a=L8 b):a=b:=by
 cases a;cases b;simp only[L8] at h;rw[Array.toList_inj.1 h]
theorem Z6 (a:ByteArray):a.size=(L8 a).length:=by show a.data.size=a.data.toList.length;rw[Array.length_toList]
theorem Xr (l:List UInt8):L8 ⟨l.toArray⟩=l:=rfl
theorem Z7 (l:List UInt8):L8 (Ze l)=l:=rfl
theorem Gh:L8 ByteArray.empty=[]:=rfl
theorem Xg {a b:ByteArray} (h:a.size+b.size < 9223372036854775808):Z9 a b=some ():=by
 unfold Z9;rw[Ai (by simp[IntKind.max,IntKind.signed,IntKind.bits];omega)]
theorem Yf (a b:ByteArray):(a++b).size=a.size+b.size:=by rw[Z6,Wl,BW,Z6,Z6]
theorem Zw (l:List UInt8):(Ze l).size=l.length:=by rw[Z6,Z7]
theorem Z4k:∀(k u:Nat),u < 10^(k+1)->(Lib.decDigits u).length<=k+1:=by
 intro k
 induction k with
 | zero=>
  intro u hu;rw[Lib.decDigits,dif_pos (by omega)];simp
 | succ k ih=>
  intro u hu;rw[Lib.decDigits];split
  .simp
  .rw[BW]
   have:=ih (u / 10) (by rw[Tw] at hu;omega);simp;omega
def Sz (u:Nat):List UInt8:=if u=0 then [] else Lib.decDigits u
theorem Xa0 {u:Nat} (h:u≠0):Sz u=Sz (u / 10)++[UInt8.ofNat (48+u % 10)]:=by
 unfold Sz;rw[Ai h,Lib.decDigits];split
 .rename_i h1
  rw[Ah (by omega),V5 h1];rfl
 .rw[Ai (by omega)]
def B0 (x:Int):Prop:=-9223372036854775808<=x/\x<=9223372036854775807
def Z1 (x:Int):ByteArray:=⟨(Lib.itoa x).toArray⟩
theorem Y0 (x:Int):L8 (Z1 x)=Lib.itoa x:=rfl
theorem Ji {x:Int} (h:B0 x):(Lib.itoa x).length<=20:=by
 obtain⟨h1,h2⟩:=h;unfold Lib.itoa;split
 .have:=Z4k 18 x.natAbs (by omega)
  simp;omega
 .have:=Z4k 18 x.toNat (by omega)
  omega
theorem Xk {x:Int} (h:B0 x):(Z1 x).size<=20:=by rw[Z6,Y0];exact Ji h
theorem Xev {x:Int} (h:x≠0):Lib.itoa x=(if x < 0 then [45] else [])++Sz x.natAbs:=by
 unfold Lib.itoa Sz;have hn:¬x.natAbs=0:=by omega
 by_cases hx:x < 0
 .rw[Ah hx,Ah hx,Ai hn];rfl
 .have:x.toNat=x.natAbs:=by omega
  rw[Ai hx,Ai hx,Ai hn,this];rfl
theorem Y9u:Lib.itoa 0=[48]:=by
 unfold Lib.itoa;rw[Ai (by omega),show (0:Int).toNat=0 from rfl,Lib.decDigits,dif_pos (by omega)];rfl
theorem digB {d:Int} (h0:0<=d) (h1:d < 10):JM [w8 (Zl 48 d)]=Ze [UInt8.ofNat (48+d.toNat)]:=by
 have:w8 (Zl 48 d)=((48+d.toNat:Nat):Int):=by
  simp[w8,Zl,IntKind.wrap,IntKind.bits,IntKind.signed];omega
 rw[this];rfl
theorem Y5m (x0:Int):∀(m:Nat) (v0:Int) (v1:ByteArray),v0.natAbs < m->B0 v0->(v1.size+v0.natAbs < 9223372036854775807\/v1.size=0)->
  ∃r,TO x0 m v0 v1=some r/\L8 r=(if x0 < 0 then [45] else [])++Sz v0.natAbs++L8 v1:=by
 intro m
 induction m with
 | zero=>intro v0 v1 h;omega
 | succ m ih=>
  intro v0 v1 hm hr hs;show ∃r,Z29 x0 (TO x0 m) v0 v1=some r/\_;unfold Z29;obtain⟨EE,Cw⟩:=hr;by_cases h0:v0=0
  .subst h0
   rw[Ai (by simp)];by_cases hx:x0 < 0
   .rw[Ah (by simpa using hx),Xg (by
     have hz:(0:Int).natAbs=0:=rfl;rw[hz] at hs;rw[Zw];show 1+v1.size < _;omega),Ag]
    exact⟨_,rfl,by rw[Ah hx,Wl];rfl⟩
   .rw[Ai (by simpa using hx)]
    exact⟨_,rfl,by rw[Ai hx];rfl⟩
  .rw[Ah (by simpa using h0)]
   have hq:E2 v0 10=v0.tdiv 10:=by
    unfold E2;have:(v0.tdiv 10).natAbs=v0.natAbs / 10:=by rw[Int.natAbs_tdiv];rfl
    simp[IntKind.wrap,IntKind.bits,IntKind.signed];omega
   have hqa:(v0.tdiv 10).natAbs=v0.natAbs / 10:=by rw[Int.natAbs_tdiv];rfl
   have hra:(v0.tmod 10).natAbs=v0.natAbs % 10:=by rw[Int.natAbs_tmod];rfl
   have step:∀d:Int,0<=d->d.toNat=v0.natAbs % 10->∃r,ZS x0 (TO x0 m) v0 v1 d=some r/\L8 r=(if x0 < 0 then [45] else [])++Sz v0.natAbs++L8 v1:=λd hd0 hd=>by
    unfold ZS;rw[digB hd0 (by omega),Xg (by rw[Zw];simp;omega),Ag,hq];obtain⟨r,h1,h2⟩:=ih (v0.tdiv 10) (Ze [UInt8.ofNat (48+d.toNat)]++v1) (by omega) (by constructor<;>omega) (.inl (by rw[Yf,Zw,hqa];simp;omega));refine⟨r,h1,?_⟩;rw[h2,hqa,Wl,Z7,Xa0 (u:=v0.natAbs) (by omega),hd];simp
   unfold C4 at*;by_cases hn:v0.tmod 10 < 0
   .rw[Ah (by simpa using hn)]
    have hneg:TL (v0.tmod 10)=-(v0.tmod 10):=by
     simp[TL,IntKind.wrap,IntKind.bits,IntKind.signed];omega
    rw[hneg];exact step _ (by omega) (by omega)
   .rw[Ai (by simpa using hn)]
    exact step _ (by omega) (by omega)
theorem Qc {x:Int} (h:B0 x):Qs x=some (Z1 x):=by
 unfold Qs;by_cases h0:x=0
 .subst h0
  rw[Ah (by simp)];exact congrArg some (Jg (by rw[Y0,Y9u,Z7]))
 .rw[Ai (by simpa using h0)]
  obtain⟨r,h1,h2⟩:=Y5m x FU x ByteArray.empty (by obtain⟨h1,h2⟩:=h;unfold FU;omega) h (.inr rfl);rw[h1];exact congrArg some (Jg (by rw[h2,Y0,Xev h0,Gh,FZ]))
theorem HB {x:Int} (h:B0 x):Gg x=some (Z1 x):=by
 unfold Gg oZ;rw[Ah (show _/\_ from h)];rfl
theorem Nk {ws:List ByteArray} {sep:ByteArray} (h1:ws.length<=1000000000) (h2:(Lib.join (ws.map L8) (L8 sep)).length<=140737488355328):Qt ws sep=some ⟨(Lib.join (ws.map L8) (L8 sep)).toArray⟩:=by
 unfold Qt;rw[Ah ⟨by omega,h2⟩];rfl
theorem Ws (x a b:Int):Ys x a b=some (decide (a<=x/\x<=b)):=by
 unfold Ys;by_cases h:a<=x<;>simp[h]
theorem Xx (x a b:Int):Z4 x a b=some (decide (a<=x/\x<=b)):=by
 unfold Z4;by_cases h:a<=x<;>simp[h]
def EO (c:Zg):Int:=if (0<=c.An/\c.An<=3)/\(0<=c.As/\c.As<=3) then (c.An+2)*(c.As+6) else 0
def K0 (c:Zg):Int:=if EO c=0 then 0 else if 1<=c.Al/\c.Al<=40 then 2*EO c+c.Al else 0
def Q5 (c:Zg):Nat:=c.Ab.countP (·.prio)
def Qe (c:Zg) (m:Zd):Bool:=decide (1<=m.weight/\m.weight<=4)&&if m.prio then decide (2*K0 c*Q5 c<=m.every/\m.every<=1000)&&decide (1<=m.cap/\m.cap<=8) else decide (m.every=0)&&decide (m.cap=0)
def Yq (c:Zg):Bool:=decide (1<=(c.Ab.length:Int)/\(c.Ab.length:Int)<=4)&&decide (1<=c.Av/\c.Av<=4)&&decide (1<=c.Ap/\c.Ap<=12)&&decide (K0 c≠0)&&c.Ab.all (Qe c)
theorem tM (c:Zg):0<=EO c/\EO c<=45:=by
 unfold EO;split
 .rename_i h
  obtain⟨⟨h1,h2⟩,h3,h4⟩:=h;generalize c.An=a at*;generalize c.As=b at*;have:a=0\/a=1\/a=2\/a=3:=by omega
  rcases this with rfl|rfl|rfl|rfl<;>omega
 .omega
theorem eI (c:Zg):0<=K0 c/\K0 c<=130:=by
 have:=tM c;unfold K0;split
 .omega
 .split<;>omega
theorem tN (c:Zg):R2 c=some (EO c):=by
 unfold R2;rw[Xx,Ag,Xx,Ag];unfold lE EO;by_cases h1:0<=c.An/\c.An<=3
 .by_cases h2:0<=c.As/\c.As<=3
  .have:=tM c
   unfold EO at this;rw[Ah ⟨h1,h2⟩] at this;simp only[h1,h2,decide_true,D6,Bp,if_false,and_self,if_true];rw[Ye (by omega) (by omega),Ye (by omega) (by omega),Jj (by omega) (by omega)]
  .simp[h1,h2]
 .simp[h1]
theorem Y1k (c:Zg):bN c=some (EO c):=by
 rw[<-tN];unfold bN R2;simp only[Xx,Ws];rfl
theorem Z76 (c:Zg):MM c=some (K0 c):=by
 have:=tM c;unfold MM K0;rw[tN,Ag,Xx,Ag,Ag];by_cases h0:EO c=0
 .simp[h0]
 .by_cases h1:1<=c.Al/\c.Al<=40
  .simp only[h0,h1,decide_true,decide_false,D6,Bp,if_false,and_self,if_true]
   rw[Jj (by omega) (by omega),Ye (by omega) (by omega)]
  .simp[h0,h1]
theorem Yh4 (c:Zg):bO c=some (K0 c):=by
 rw[<-Z76];unfold bO MM;simp only[Xx,Ws,tN,Y1k]
theorem Yug (c:Zg):lF c=some (decide (1<=c.Av/\c.Av<=4)&&decide (1<=c.Ap/\c.Ap<=12)&&decide (K0 c≠0)):=by
 have:=tM c;unfold lF K0;simp only[Xx,tN,Ag];by_cases h1:1<=c.Av/\c.Av<=4
 .by_cases h2:EO c=0
  .simp[h2]
  .have h3:EO c > 0:=by omega
   by_cases h4:1<=c.Ap/\c.Ap<=12
   .by_cases h5:1<=c.Al/\c.Al<=40
    .have:¬(2*EO c+c.Al=0):=by omega
     simp[h1,h2,h3,h4,h5,this]
    .simp[h1,h2,h3,h4,h5]
   .simp[h1,h2,h3,h4]
 .simp[h1]
theorem Yot (xs:List Zd):∀(n:Int),0<=n->n+xs.length < 4611686018427387904->∀{U:Type} (fin:Int->Option U),Nj (λ(a:Zd) n=>some (.inl (if a.prio=true then Zl n 1 else n))) fin xs n=fin (n+(xs.countP (·.prio):Nat)):=by
 induction xs with
 | nil=>intro n _ _ U fin;simp[Nj]
 | cons a l ih=>
  intro n h0 hl U fin;simp only[AP] at hl;simp only[Nj,Ag,iK];by_cases h:a.prio=true
  .rw[Ah h,Ye (by omega) (by omega),ih _ (by omega) (by omega),Ah h]
   congr 1;omega
  .rw[Ai h,ih _ (by omega) (by omega),Ai h]
   congr 1
theorem Y4u (c:Zg) (hl:c.Ab.length < 1048577):oW c=some (Q5 c:Int):=by
 unfold oW;rw[tJ c.Ab (by omega) (λ(a:Zd) n=>some (.inl (if a.prio=true then Zl n 1 else n))) some (oU c) (λm s i=>?_) 0,Yot _ _ (by omega) (by omega)]
 .simp[Q5]
 .show Zym c _ s i=_
  unfold Zym
  congr 1;congr 1;funext a
  by_cases h:a.prio=true<;>simp[h,eG]
theorem Yr5 (c:Zg):Q5 c<=c.Ab.length:=Vel
theorem Ywe (c:Zg) (hl:c.Ab.length < 1048577):0<=K0 c*(Q5 c:Int)/\K0 c*(Q5 c:Int)<=136314880:=by
 have h1:=eI c;have h2:=Yr5 c;constructor
 .exact vZ h1.1 (by omega)
 .have h3:K0 c*(Q5 c:Int)<=130*(Q5 c:Int):=Int.mul_le_mul_of_nonneg_right h1.2 (by omega)
  omega
theorem Yoe (c:Zg) (hl:c.Ab.length < 1048577):oX c=some (2*K0 c*Q5 c):=by
 have h1:=eI c;have h2:=Ywe c hl;unfold oX;rw[Yh4,Ag,Y4u c hl,Ag];rw[Jj (a:=2) (by omega) (by omega),Jj (by rw[Int.mul_assoc];omega) (by rw[Int.mul_assoc];omega)]
theorem Yt0 (c:Zg) (m:Zd) (hl:c.Ab.length < 1048577):oY m c=some (!Qe c m):=by
 unfold oY Qe;simp only[Ws,Ag,Yoe c hl];by_cases h1:1<=m.weight/\m.weight<=4
 .by_cases h2:m.prio=true
  .by_cases h3:2*K0 c*Q5 c<=m.every/\m.every<=1000
   .simp[h1,h2,h3]
   .simp[h1,h2,h3]
  .by_cases h3:m.every=0
   .simp[h1,h2,h3]
   .simp[h1,h2,h3]
 .simp[h1]
theorem Y1i (c:Zg) (xs:List Zd) (hl:c.Ab.length < 1048577) (hx:xs.length < 4611686018427387904):Wq xs c=some (!xs.all (Qe c)):=by
 unfold Wq K4;have key:∀(m k:Nat),k<=xs.length->xs.length - k < m->∃r,Xb xs c m k=some r/\decide (r≥0)=!(xs.drop k).all (Qe c):=by
  intro m
  induction m with
  | zero=>intro k _ h;omega
  | succ m ih=>
   intro k hk hm;have e:Xb xs c (m+1) k=Q1 xs c (Xb xs c m) k:=rfl;rw[e];unfold Q1;by_cases hc:k < xs.length
   .have h1:decide ((k:Int) < (xs.length:Int))=true:=by simpa using hc
    rw[Ah h1,Zx hc,Ag,Yt0 c _ hl,Ag,DG hc,Ef];by_cases hq:Qe c xs[k]=true
    .have h2:¬(!Qe c xs[k])=true:=by simp[hq]
     rw[Ai h2,Z8 (by omega),hq,Hs];exact ih (k+1) (by omega) (by omega)
    .have h2:(!Qe c xs[k])=true:=by simpa using hq
     rw[Ah h2];refine⟨_,rfl,?_⟩;simp[hq]
   .have h1:¬decide ((k:Int) < (xs.length:Int))=true:=by simpa using hc
    rw[Ai h1,Fu (by omega)];exact⟨_,rfl,by simp⟩
 obtain⟨r,hr,hq⟩:=key FU 0 (BM _) (by have:=Yx;omega);rw[show ((0:Nat):Int)=0 from rfl] at hr;rw[hr,Ag,hq,I0]
theorem UT (c:Zg) (hl:c.Ab.length < 1048577):L3 c=some (Yq c):=by
 unfold L3 Yq;simp only[Ws,Ag,Yh4,Y1i c c.Ab hl (by omega),wB];by_cases h1:1<=(c.Ab.length:Int)/\(c.Ab.length:Int)<=4
 .by_cases h2:1<=c.Av/\c.Av<=4
  .by_cases h3:1<=c.Ap/\c.Ap<=12
   .by_cases h4:K0 c=0<;>simp[h1,h2,h3,h4]
   .simp[h1,h2,h3]
  .simp[h1,h2]
 .simp[h1]
theorem Xb0 (c:Zg) (m:Zd) (hl:c.Ab.length < 1048577) (k:Option Bool):
  ((Z4 m.weight 1 4).bind λeJ=>
  if (!eJ)=true then some false
  else if (!m.prio)=true then
    if decide (m.every≠0)=true then some false
    else if decide (m.cap≠0)=true then some false
     else if m.prio=true then
       (MM c).bind λJV=>
       (Z4 m.every (X5 (X5 2 (Q5 c:Int)) JV) 1000).bind λJW=>
       if (!JW)=true then some false
       else (Z4 m.cap 1 8).bind λJX=>if (!JX)=true then some false else k
      else k
   else if m.prio=true then
     (MM c).bind λJV=>
     (Z4 m.every (X5 (X5 2 (Q5 c:Int)) JV) 1000).bind λJW=>
     if (!JW)=true then some false
     else (Z4 m.cap 1 8).bind λJX=>if (!JX)=true then some false else k
    else k)=if Qe c m=true then k else some false:=by
 have h1:=eI c;have h2:=Ywe c hl;have h3:=Yr5 c;have e:X5 (X5 2 (Q5 c:Int)) (K0 c)=2*K0 c*Q5 c:=by
  have e2:2*(Q5 c:Int)*K0 c=2*(K0 c*(Q5 c:Int)):=by rw[Int.mul_assoc,Tx (Q5 c:Int)]
  rw[Jj (a:=2) (by omega) (by omega),Jj (by rw[e2];omega) (by rw[e2];omega),e2,Int.mul_assoc]
 unfold Qe;simp only[Xx,Ag,Z76,e];by_cases h1:1<=m.weight/\m.weight<=4
 .by_cases h2:m.prio=true
  .by_cases h3:2*K0 c*Q5 c<=m.every/\m.every<=1000
   .by_cases h4:1<=m.cap/\m.cap<=8<;>simp[h1,h2,h3,h4]
   .simp[h1,h2,h3]
  .by_cases h3:m.every=0
   .by_cases h4:m.cap=0<;>simp[h1,h2,h3,h4]
   .simp[h1,h2,h3]
 .simp[h1]
theorem Yoq (c:Zg) (hl:c.Ab.length < 1048577):Oz c FU (Q5 c:Int) 0=some (Yq c):=by
 have key:∀(m k:Nat),k<=c.Ab.length->c.Ab.length - k < m->Oz c m (Q5 c:Int) k=some (decide (1<=(c.Ab.length:Int)/\(c.Ab.length:Int)<=4)&&decide (1<=c.Av/\c.Av<=4)&&decide (1<=c.Ap/\c.Ap<=12)&&decide (K0 c≠0)&&(c.Ab.drop k).all (Qe c)):=by
  intro m
  induction m with
  | zero=>intro k _ h;omega
  | succ m ih=>
   intro k hk hm;have e:Oz c (m+1) (Q5 c:Int) k=Zwr c (Oz c m) (Q5 c:Int) k:=rfl;rw[e];unfold Zwr;by_cases hc:k < c.Ab.length
   .have h1:decide ((k:Int) < (c.Ab.length:Int))=true:=by simpa using hc
    rw[Ah h1,Zx hc,Ag,Xb0 c _ hl,DG hc,Ef,Z8 (by omega),ih (k+1) (by omega) (by omega)];by_cases hq:Qe c c.Ab[k]=true
    .simp[hq]
    .simp[hq]
   .have h1:¬decide ((k:Int) < (c.Ab.length:Int))=true:=by simpa using hc
    rw[Ai h1,Fu (by omega),Xx,Ag,Yug];by_cases h2:1<=(c.Ab.length:Int)/\(c.Ab.length:Int)<=4
    .simp[h2]
    .simp[h2]
 have:=key FU 0 (BM _) (by have:=Yx;omega);simpa [Yq] using this
theorem S0 (c:Zg) (hl:c.Ab.length < 1048577):MN c=some (Yq c):=by
 unfold MN;rw[tJ c.Ab (by omega) (λ(a:Zd) n=>some (.inl (if a.prio=true then Zl n 1 else n))) (λn=>Oz c FU n 0) (lG c) (λm s i=>?_) 0,Yot _ _ (by omega) (by omega)]
 .rw[show (0:Int)+(c.Ab.countP (·.prio):Nat)=(Q5 c:Int) by simp[Q5]]
  exact Yoq c hl
 .show Zvy c _ s i=_
  unfold Zvy
  congr 1;congr 1;funext a
  by_cases h:a.prio=true<;>simp[h,eG]
def eK (c:Zg) (i:Int):Int:=((c.Ab[i.toNat]?).map (·.weight)).getD 0
def Zo (c:Zg) (i:Int):Bool:=decide (0<=i/\i < (c.Ab.length:Int))
def Gi (c:Zg) (i:Int):Int:=if Yq c=true/\Zo c i=true then eK c i*c.Av else 0
theorem Ym4 {c:Zg} {i:Int} (h:Zo c i=true):∃m,idx c.Ab i=some m/\m∈c.Ab/\m.weight=eK c i:=by
 simp only[Zo,Bl] at h;obtain⟨k,rfl⟩:∃k:Nat,i=k:=⟨i.toNat,by omega⟩;have hk:k < c.Ab.length:=by omega
 refine⟨c.Ab[k],Zx hk,B6 hk,?_⟩;simp[eK,hk]
theorem Z7v {c:Zg} {m:Zd} (h:Yq c=true) (hm:m∈c.Ab):1<=m.weight/\m.weight<=4:=by
 simp only[Yq,Bh,Cf] at h;have:=h.2 m hm;simp only[Qe,Bh,Bl] at this;exact this.1
theorem Yfw {c:Zg} (h:Yq c=true):1<=c.Av/\c.Av<=4:=by
 simp only[Yq,Bh,Bl] at h;exact h.1.1.1.2
theorem Yvt {c:Zg} {i:Int} (h:Yq c=true) (hm:Zo c i=true):1<=eK c i/\eK c i<=4:=by
 obtain⟨m,_,h1,h2⟩:=Ym4 hm;rw[<-h2];exact Z7v h h1
theorem Ywc {a b:Int} (h1:1<=a) (h2:a<=4) (h3:1<=b) (h4:b<=4):1<=a*b/\a*b<=16:=by
 have:a=1\/a=2\/a=3\/a=4:=by omega
 rcases this with rfl|rfl|rfl|rfl<;>omega
theorem tO {c:Zg} {i:Int} (h:Yq c=true) (hm:Zo c i=true):1<=Gi c i/\Gi c i<=16:=by
 unfold Gi;rw[Ah ⟨h,hm⟩];have h1:=Yvt h hm;have h2:=Yfw h;exact Ywc h1.1 h1.2 h2.1 h2.2
theorem Y4x {c:Zg} {i:Int}:Gi c i=0↔¬(Yq c=true/\Zo c i=true):=by
 constructor
 .intro h hc
  have:=tO hc.1 hc.2;omega
 .intro h;unfold Gi;rw[Ai h]
theorem UU (c:Zg) (i:Int):0<=Gi c i/\Gi c i<=16:=by
 by_cases h:Yq c=true/\Zo c i=true
 .have:=tO h.1 h.2;omega
 .rw[Y4x.2 h];omega
theorem eM {c:Zg} (i:Int) (hl:c.Ab.length < 1048577):decide (0<=i/\i<=Y8 (c.Ab.length:Int) 1)=Zo c i:=by
 rw[Xd (by omega) (by omega)];unfold Zo
 congr 1
 apply propext;omega
theorem tP (c:Zg) (i:Int) (hl:c.Ab.length < 1048577):R4 c i=some (Gi c i):=by
 unfold R4;rw[S0 c hl,Ag,Xx,Ag,eM i hl];unfold lL;by_cases h1:Yq c=true
 .by_cases h2:Zo c i=true
  .obtain⟨m,UW,Le,hm3⟩:=Ym4 h2
   have hw:=Z7v h1 Le;have hq:=Yfw h1;have:=Ywc hw.1 hw.2 hq.1 hq.2;simp only[h1,h2,UW,D6,Bp,if_false,Ag];rw[Jj (by omega) (by omega)];simp[Gi,h1,h2,hm3]
  .simp[Gi,h1,h2]
 .simp[Gi,h1]
theorem LG (c:Zg) (i:Int) (hl:c.Ab.length < 1048577):JQ c i=some (Zo c i):=by
 unfold JQ;rw[Ws,Ag,eM i hl]
theorem Z8d (c:Zg) (i:Int) (hl:c.Ab.length < 1048577):Ur c i=some (Gi c i):=by
 rw[<-tP c i hl];unfold Ur R4;rw[S0 c hl,UT c hl,LG c i hl,Xx,eM i hl];rfl
theorem GA (a b:Int):Dp a b=min a b:=by unfold Dp;omega
theorem Nl (a b:Int):Fi a b=max a b:=by unfold Fi;omega
theorem Km {c:Zg} (h:Yq c=true):1<=(c.Ab.length:Int)/\(c.Ab.length:Int)<=4:=by
 simp only[Yq,Bh,Bl] at h;exact h.1.1.1.1
theorem GB {c:Zg} (h:Yq c=true):c.Ab.length < 1048577:=by have:=Km h;omega
instance:Inhabited Zd:=⟨Zd.z0⟩
instance:Inhabited Zk:=⟨Zk.z0⟩
theorem JY {c:Zg} {i:Int} (h:Yq c=true) (hm:Zo c i=true):Qe c (Ak c.Ab i)=true:=by
 simp only[Zo,Bl] at hm;have:=G9 hm.1 hm.2;simp only[Yq,Bh,Cf] at h;exact h.2 _ this
theorem Nn {c:Zg} {m:Zd} (h:Qe c m=true):-1<=m.every/\m.every<=1000/\0<=m.cap/\m.cap<=8:=by
 have h1:=eI c;have h2:0<=2*K0 c*(Q5 c:Int):=vZ (by omega) (by omega);simp only[Qe,Bh,Bl] at h;obtain⟨h3,h4⟩:=h;split at h4
 .simp only[Bh,Bl] at h4;omega
 .simp only[Bh,Bl] at h4;omega
def Y5 (b:Zk) (m:Zd):Bool:=if m.prio then decide (0<=b.tokens/\b.tokens<=m.cap)&&decide (0<=b.count/\b.count < m.every) else decide (b.tokens=0)&&decide (b.count=0)
def JZ (b:Zk) (m:Zd):Zk:=if (m.prio&&Y5 b m)=true then (if b.count+1=m.every then ⟨min (b.tokens+1) m.cap,0⟩ else ⟨b.tokens,b.count+1⟩) else b
def FO (b:Zk) (m:Zd):Zk×Bool:=if (m.prio&&Y5 b m&&decide (b.tokens≠0))=true then (⟨b.tokens - 1,b.count⟩,true) else (b,false)
def S1 (b:Zk) (m:Zd):Zk:=if (m.prio&&Y5 b m)=true then ⟨min (b.tokens+1) m.cap,b.count⟩ else b
def LH (m:Zd):Zk:=if m.prio then ⟨max m.cap 0,0⟩ else ⟨0,0⟩
theorem tQ (b:Zk) {m:Zd} (h:-1<=m.every/\m.every<=1000):R6 b m=some (Y5 b m):=by
 unfold R6 Y5;rw[Xx,Ag,Xx,Ag,Xd (by omega) (by omega)];by_cases h1:m.prio=true
 .have e:(0<=b.count/\b.count<=m.every - 1)↔(0<=b.count/\b.count < m.every):=by omega
  by_cases h2:0<=b.tokens/\b.tokens<=m.cap
  .simp[h1,h2,e]
  .simp[h1,h2]
 .simp[h1]
theorem Yc0 (b:Zk) (m:Zd):b8 b m=some (Y5 b m):=by
 unfold b8 Y5;rw[Ws,Ag];by_cases h1:m.prio=true
 .by_cases h2:0<=b.tokens/\b.tokens<=m.cap
  .by_cases h3:0<=b.count<;>simp[h1,h2,h3]
  .simp[h1,h2]
 .simp[h1]
theorem S3 {b:Zk} {c:Zg} {m:Zd} (h:Y5 b m=true) (hm:Qe c m=true):0<=b.tokens/\b.tokens<=8/\0<=b.count/\b.count<=1000:=by
 have:=Nn hm;unfold Y5 at h;split at h<;>simp only[Bh,Bl] at h<;>omega
theorem Ym5 (b:Zk) {c:Zg} {m:Zd} (h:Qe c m=true):mF b m=some (JZ b m):=by
 have hm:=Nn h;unfold mF mE JZ;rw[tQ b ⟨hm.1,hm.2.1⟩,Ag];by_cases h1:m.prio=true
 .by_cases h2:Y5 b m=true
  .have:=S3 h2 h
   simp only[h1,h2,D6,Bp,if_false,Mb,if_true];rw[Ye (by omega) (by omega),Ye (by omega) (by omega),GA,VE];by_cases h3:b.count+1=m.every<;>simp[h3]
  .simp[h1,h2]
 .simp[h1]
theorem Z7r (b:Zk) (m:Zd):Uq b m=some (m.prio&&Y5 b m):=by
 unfold Uq;rw[Yc0,Ag];by_cases h1:m.prio=true<;>simp[h1]
theorem Yn1 (b:Zk) {c:Zg} {m:Zd} (h:Qe c m=true):pU b m=some (JZ b m):=by
 unfold pU JZ;rw[Z7r,Ag];by_cases h1:(m.prio&&Y5 b m)=true
 .have h2:Y5 b m=true:=by simp only[Bh] at h1;exact h1.2
  have:=S3 h2 h;rw[Ai (by simp[h1]),Ah h1,Ye (by omega) (by omega),Ye (by omega) (by omega),GA];by_cases h3:b.count+1=m.every<;>simp[h3]
 .rw[Ah (by cases hq:(m.prio&&Y5 b m)<;>simp_all),Ai h1]
theorem Yml (b:Zk) {c:Zg} {m:Zd} (h:Qe c m=true):nF b m=some (FO b m):=by
 have hm:=Nn h;unfold nF aV FO;rw[tQ b ⟨hm.1,hm.2.1⟩,Ag];by_cases h1:m.prio=true
 .by_cases h2:Y5 b m=true
  .have:=S3 h2 h
   rw[Xd (by omega) (by omega)];by_cases h3:b.tokens=0<;>simp[h1,h2,h3]
  .simp[h1,h2]
 .simp[h1]
theorem Yn2 (b:Zk) {c:Zg} {m:Zd} (h:Qe c m=true):qV b m=some (FO b m):=by
 unfold qV qU FO;rw[Z7r,Ag];by_cases h1:(m.prio&&Y5 b m)=true
 .have h2:Y5 b m=true:=by simp only[Bh] at h1;exact h1.2
  have:=S3 h2 h;rw[Xd (by omega) (by omega)];by_cases h3:b.tokens=0<;>simp[h1,h3]
 .simp[h1]
theorem Ymc (b:Zk) {c:Zg} {m:Zd} (h:Qe c m=true):mJ b m=some (S1 b m):=by
 have hm:=Nn h;unfold mJ mI S1;rw[tQ b ⟨hm.1,hm.2.1⟩,Ag];by_cases h1:m.prio=true
 .by_cases h2:Y5 b m=true
  .have:=S3 h2 h
   simp only[h1,h2,if_true,Mb];rw[Ye (by omega) (by omega),GA,VE]
  .simp[h1,h2]
 .simp[h1]
theorem Yoc (b:Zk) {c:Zg} {m:Zd} (h:Qe c m=true):pX b m=some (S1 b m):=by
 unfold pX S1;rw[Z7r,Ag];by_cases h1:(m.prio&&Y5 b m)=true
 .have h2:Y5 b m=true:=by simp only[Bh] at h1;exact h1.2
  have h4:m.prio=true:=by simp only[Bh] at h1;exact h1.1
  have:=S3 h2 h;have h5:b.tokens<=m.cap:=by
   unfold Y5 at h2;rw[Ah h4] at h2;simp only[Bh,Bl] at h2;exact h2.1.2
  rw[Ah h1,Ah h1,Ye (by omega) (by omega)];by_cases h3:b.tokens < m.cap
  .rw[Ah (by simpa using h3),Int.min_eq_left (by omega)]
  .rw[Ai (by simpa using h3),Int.min_eq_right (by omega)]
   have:b.tokens=m.cap:=by omega
   rw[<-this]
 .rw[Ai h1,Ai h1]
theorem Yq9 (m:Zd):lH m=some (LH m):=by
 unfold lH LH;rw[Nl,Int.max_comm];by_cases h1:m.prio=true<;>simp[h1]
theorem Ypq (m:Zd):pI m=some (LH m):=by
 unfold pI LH;rw[Nl];by_cases h1:m.prio=true<;>simp[h1]
theorem Xd3 {c:Zg} {m:Zd} (h:Qe c m=true) (hs:0 < K0 c/\(m.prio=true->0 < Q5 c)):Y5 (LH m) m=true:=by
 have hm:=Nn h;unfold Y5 LH;by_cases h1:m.prio=true
 .simp only[h1,if_true,Bh,Bl]
  simp only[Qe,h1,if_true,Bh,Bl] at h;have h2:0 < K0 c*(Q5 c:Int):=Int.mul_pos hs.1 (by have:=hs.2 h1;omega);have h3:2*K0 c*(Q5 c:Int)=2*(K0 c*(Q5 c:Int)):=Int.mul_assoc ..;omega
 .simp[h1]
theorem Xd4 {b:Zk} {c:Zg} {m:Zd} (h:Y5 b m=true) (hm:Qe c m=true):Y5 (JZ b m) m=true:=by
 have hb:=Nn hm;have hn:=S3 h hm;unfold JZ;split
 .rename_i h1
  simp only[Bh] at h1;unfold Y5 at h;rw[Ah h1.1] at h;simp only[Bh,Bl] at h;split
  .unfold Y5
   rw[Ah h1.1];simp only[Bh,Bl];omega
  .unfold Y5
   rw[Ah h1.1];simp only[Bh,Bl];omega
 .exact h
theorem Xfl {b:Zk} {c:Zg} {m:Zd} (h:Y5 b m=true) (hm:Qe c m=true):Y5 (FO b m).1 m=true:=by
 unfold FO;split
 .rename_i h1
  simp only[Bh,Bl] at h1;unfold Y5 at h ⊢;rw[Ah h1.1.1] at h ⊢;simp only[Bh,Bl] at h ⊢;omega
 .exact h
theorem Xbf {b:Zk} {c:Zg} {m:Zd} (h:Y5 b m=true) (hm:Qe c m=true):Y5 (S1 b m) m=true:=by
 have hb:=Nn hm;unfold S1;split
 .rename_i h1
  simp only[Bh] at h1;unfold Y5 at h ⊢;rw[Ah h1.1] at h ⊢;simp only[Bh,Bl] at h ⊢;omega
 .exact h
def CN (w:Yg) (c:Zg):Bool:=Yq c&&(Zo c w.at_&&decide (0<=w.Bd/\w.Bd<=Gi c w.at_))
theorem Yaf (w:Yg) (c:Zg) (hl:c.Ab.length < 1048577):TP w c=some (CN w c):=by
 unfold TP CN;rw[S0 c hl,Ag,Xx,Ag,eM _ hl,tP c _ hl,Ag,Xx,Ag];by_cases h1:Yq c=true<;>by_cases h2:Zo c w.at_=true<;>simp[h1,h2]
theorem Yas (w:Yg) (c:Zg) (hl:c.Ab.length < 1048577):Sd w c=some (CN w c):=by
 unfold Sd CN;rw[UT c hl,Ag,LG c _ hl,Ag,Z8d c _ hl,Ag,Ws,Ag];by_cases h1:Yq c=true<;>by_cases h2:Zo c w.at_=true<;>simp[h1,h2]
def KA (w:Yg) (c:Zg) (wants:List Bool):Nat->Int->Yg×Int
 | 0,_=>(⟨w.at_,0⟩,-1)
 | r+1,k=>if Ak wants ((w.at_+k) % (wants.length:Int))=true then (⟨(w.at_+k) % (wants.length:Int),Gi c ((w.at_+k) % (wants.length:Int)) - 1⟩,(w.at_+k) % (wants.length:Int)) else KA w c wants r (k+1)
def FP (w:Yg) (c:Zg) (wants:List Bool):Yg×Int:=if (decide (0 < w.Bd)&&Ak wants w.at_)=true then (⟨w.at_,w.Bd - 1⟩,w.at_) else KA w c wants wants.length 1
def S4 (w:Yg) (c:Zg) (Aj:Int):Yg:=if w.at_=Aj then ⟨w.at_,min (w.Bd+1) (Gi c Aj)⟩ else w
theorem OZ {w:Yg} {c:Zg} (h:CN w c=true):Yq c=true/\Zo c w.at_=true/\0<=w.Bd/\w.Bd<=Gi c w.at_:=by
 simp only[CN,Bh,Bl] at h;exact⟨h.1,h.2.1,h.2.2.1,h.2.2.2⟩
theorem Y27 (w:Yg) (c:Zg) (wants:List Bool) (h:CN w c=true) (hn:wants.length=c.Ab.length):∀(m r:Nat) (k:Int),r < m->k+r=wants.length+1->1<=k->qW w c wants m k=some (KA w c wants r k)/\nI w c wants m k=some (KA w c wants r k):=by
 obtain⟨hc,hm,h1,h2⟩:=OZ h;have hl:=Km hc;have CK:=GB hc;simp only[Zo,Bl] at hm;intro m
 induction m with
 | zero=>intro r k hr;omega
 | succ m ih=>
  intro r k hr hk h1k;show Zu2 w c wants _ k=_/\Zuw w c wants _ k=_;unfold Zu2 Zuw;rw[<-hn];cases r with
  | zero=>
   rw[Ai (by simp;omega),Ai (by simp;omega)];exact⟨rfl,rfl⟩
  | succ r=>
   have h0:0<=(w.at_+k) % (wants.length:Int):=Tv _ (by omega);have kC:(w.at_+k) % (wants.length:Int) < (wants.length:Int):=Ts _ (by omega);have eN:Zo c ((w.at_+k) % (wants.length:Int))=true:=by
    simp only[Zo,Bl];omega
   have ht:=tO hc eN;rw[Ah (by simp;omega),Ah (by simp;omega),JU (by omega),Ag,Ag,Ye (a:=w.at_) (by omega) (by omega),HA (by omega),Xu h0 kC,Ag,Ag,Z8d c _ CK,tP c _ CK,Ag,Xd (by omega) (by omega),Ye (a:=k) (by omega) (by omega)];have:=ih r (k+1) (by omega) (by omega) (by omega);simp only[KA];by_cases hq:Ak wants ((w.at_+k) % (wants.length:Int))=true
   .simp[hq]
   .simp only[hq,if_false,Bp]
    exact this
theorem Yv5 (w:Yg) (c:Zg) (wants:List Bool) (h:CN w c=true) (hn:wants.length=c.Ab.length):qZ w c wants=some (FP w c wants):=by
 obtain⟨hc,hm,h1,h2⟩:=OZ h;have hl:=Km hc;have CK:=GB hc;simp only[Zo,Bl] at hm;have hs:=(Y27 w c wants h hn FU wants.length 1 (by have:=Yx;omega) (by omega) (by omega)).1;have ht:=UU c w.at_;unfold qZ qY qX FP;rw[Yas w c CK,Ag,h,Xu hm.1 (by omega),Ag,hs,Xd (by omega) (by omega)];have h3:¬((wants.length:Int)≠(c.Ab.length:Int)):=by omega
 by_cases h4:0 < w.Bd<;>by_cases h5:Ak wants w.at_=true<;>simp[h3,h4,h5]
theorem Yvn (w:Yg) (c:Zg) (wants:List Bool) (h:CN w c=true) (hn:wants.length=c.Ab.length):nL w c wants=some (FP w c wants):=by
 obtain⟨hc,hm,h1,h2⟩:=OZ h;have hl:=Km hc;have CK:=GB hc;simp only[Zo,Bl] at hm;have hs:=(Y27 w c wants h hn FU wants.length 1 (by have:=Yx;omega) (by omega) (by omega)).2;have ht:=UU c w.at_;unfold nL nK nJ FP;rw[Yaf w c CK,Ag,h,Xu hm.1 (by omega),Ag,hs,Xd (by omega) (by omega)];have h3:¬((wants.length:Int)≠(c.Ab.length:Int)):=by omega
 by_cases h4:0 < w.Bd<;>by_cases h5:Ak wants w.at_=true<;>simp[h3,h4,h5]
theorem Yv0 (w:Yg) (c:Zg) (Aj:Int) (h:CN w c=true):mL w c Aj=some (S4 w c Aj):=by
 obtain⟨hc,hm,h1,h2⟩:=OZ h;have CK:=GB hc;have ht:=UU c w.at_;unfold mL mK S4;rw[Yaf w c CK,Ag,h,tP c _ CK,Ag,Ye (by omega) (by omega),GA,VE];by_cases h4:w.at_=Aj<;>simp[h4]
theorem Yw4 (w:Yg) (c:Zg) (Aj:Int) (h:CN w c=true):pZ w c Aj=some (S4 w c Aj):=by
 obtain⟨hc,hm,h1,h2⟩:=OZ h;have CK:=GB hc;have ht:=UU c w.at_;unfold pZ pY S4;rw[Yas w c CK,Ag,h,Z8d c _ CK,Ag,Ye (by omega) (by omega),GA];by_cases h4:w.at_=Aj
 .simp[h4]
 .have:¬Aj=w.at_:=λh=>h4 h.symm
  simp[h4,this]
theorem Xb2 {w:Yg} {c:Zg} (Aj:Int) (h:CN w c=true):CN (S4 w c Aj) c=true:=by
 obtain⟨hc,hm,h1,h2⟩:=OZ h;unfold S4;split
 .rename_i h4
  subst h4;have ht:=UU c w.at_;simp only[CN,Bh,Bl];exact⟨hc,hm,by omega,by omega⟩
 .exact h
theorem Xce {w:Yg} {c:Zg} {wants:List Bool} (h:CN w c=true) (hn:wants.length=c.Ab.length):∀(r:Nat) (k:Int),1<=k->CN (KA w c wants r k).1 c=true/\((KA w c wants r k).2=-1\/(Zo c (KA w c wants r k).2=true/\Ak wants (KA w c wants r k).2=true)):=by
 obtain⟨hc,hm,h1,h2⟩:=OZ h;have hl:=Km hc;intro r
 induction r with
 | zero=>
  intro k _;refine⟨?_,.inl rfl⟩;simp only[KA];simp only[CN,Bh,Bl];exact⟨hc,hm,by omega,by omega⟩
 | succ r ih=>
  intro k hk;simp only[KA];split
  .rename_i hq
   have h0:0<=(w.at_+k) % (wants.length:Int):=Tv _ (by omega);have kC:(w.at_+k) % (wants.length:Int) < (wants.length:Int):=Ts _ (by omega);have eN:Zo c ((w.at_+k) % (wants.length:Int))=true:=by
    simp only[Zo,Bl];omega
   have ht:=tO hc eN;refine⟨?_,.inr ⟨eN,hq⟩⟩;simp only[CN,Bh,Bl];exact⟨hc,eN,by omega,by omega⟩
  .exact ih (k+1) (by omega)
theorem Xbu {w:Yg} {c:Zg} {wants:List Bool} (h:CN w c=true) (hn:wants.length=c.Ab.length):CN (FP w c wants).1 c=true/\((FP w c wants).2=-1\/(Zo c (FP w c wants).2=true/\Ak wants (FP w c wants).2=true)):=by
 obtain⟨hc,hm,h1,h2⟩:=OZ h;unfold FP;split
 .rename_i h3
  simp only[Bh,Bl] at h3;refine⟨?_,.inr ⟨hm,h3.2⟩⟩;simp only[CN,Bh,Bl];exact⟨hc,hm,by omega,by omega⟩
 .exact Xce h hn _ _ (by omega)
def Y3 (s:Int):Int:=if s=0 then 1 else if s=1 then 2 else if s=2 then 4 else 0
def Hh (s:Int):Int:=if s=0 then 256 else if s=1 then 65536 else if s=2 then 4294967296 else 0
def X1 (b:Int):Int:=if b=0 then 1 else if b=1 then 4 else if b=2 then 4 else if b=3 then 8 else 0
theorem Pa (s:Int):0<=Y3 s/\Y3 s<=4:=by unfold Y3;repeat' split<;>omega
theorem S5 (s:Int):0<=Hh s/\Hh s<=4294967296:=by unfold Hh;repeat' split<;>omega
theorem Np (b:Int):0<=X1 b/\X1 b<=8:=by unfold X1;repeat' split<;>omega
theorem LI (s:Int):H8 s=some (Y3 s):=by
 unfold H8;rw[Xx,Ag];by_cases h:0<=s/\s<=2
 .have:s=0\/s=1\/s=2:=by omega
  rcases this with rfl|rfl|rfl<;>rfl
 .have:Y3 s=0:=by unfold Y3;repeat' split<;>omega
  simp[h,this]
theorem UX (s:Int):JP s=some (Y3 s):=by
 rw[<-LI];unfold JP H8;rw[Ws,Xx]
theorem S6 (b:Int):JO b=some (X1 b):=by
 unfold JO;rw[Xx,Ag];by_cases h:0<=b/\b<=3
 .have:b=0\/b=1\/b=2\/b=3:=by omega
  rcases this with rfl|rfl|rfl|rfl<;>rfl
 .have:X1 b=0:=by unfold X1;repeat' split<;>omega
  simp[h,this]
theorem tR (b:Int):RV b=some (X1 b):=by
 rw[<-S6];unfold RV JO;rw[Ws,Xx]
theorem LJ (s:Int):Qn s=some (Hh s):=by
 unfold Qn;rw[LI,Ag,Ag];by_cases h:s=0\/s=1\/s=2
 .rcases h with rfl|rfl|rfl<;>rfl
 .have h1:Y3 s=0:=by unfold Y3;repeat' split<;>omega
  have h2:Hh s=0:=by unfold Hh;repeat' split<;>omega
  simp[h1,h2]
theorem Yea (s:Int):bS s=some (Hh s):=by
 rw[<-LJ];unfold bS Qn;simp only[UX,LI]
def X3 (v s:Int):Bool:=decide (0<=v/\v < Hh s)
theorem S7 (v s:Int):L6 v s=some (X3 v s):=by
 have:=S5 s;unfold L6 X3;rw[Yea,Ag,Ws,Ag,Xd (by omega) (by omega)]
 congr 2
 apply propext;omega
theorem S8 (v s:Int):Z4 v 0 (Y8 (Hh s) 1)=some (X3 v s):=by
 have:=S5 s;unfold X3;rw[Xx,Xd (by omega) (by omega)]
 congr 2
 apply propext;omega
def Wb (a s:Int):Bool:=decide (0 < Y3 s)&&(decide (0<=a)&&decide (a % Y3 s=0))
theorem tS (a s:Int):Lz a s=some (Wb a s):=by
 unfold Lz Wb;rw[LI,Ag,Ag];by_cases h1:0 < Y3 s
 .by_cases h2:0<=a
  .rw[JU (by omega),HA h2];simp[h1,h2]
  .simp[h1,h2]
 .simp[h1]
theorem S9 (s:Int):0 < Y3 s↔(0<=s/\s<=2):=by
 unfold Y3
 repeat' split<;>omega
theorem tT (a s:Int):RW a s=some (Wb a s):=by
 unfold RW Wb;rw[Ws,Ag,UX,Ag];by_cases h1:0 < Y3 s
 .have h3:=(S9 s).1 h1
  by_cases h2:0<=a
  .rw[JU (by omega),HA h2];simp[h1,h2,h3]
  .simp[h1,h2,h3]
 .have h3:¬(0<=s/\s<=2):=λh=>h1 ((S9 s).2 h)
  simp[h1,h3]
def Gj (a s b:Int):Int:=if (Wb a s=true/\a < 512)/\X1 b≠0 then (if b=2/\(a+Y3 s) % (4*Y3 s)=0 then a+Y3 s - 4*Y3 s else a+Y3 s) else -1
theorem Jz {a s:Int} (h:Wb a s=true):0 < Y3 s/\0<=a/\a % Y3 s=0:=by
 simpa [Wb,Bh,Bl] using h
theorem Ytr (a s b:Int):ZZ a s b=some (Gj a s b):=by
 have hb:=Pa s;unfold ZZ ZY lO Gj;rw[LI,Ag,tS,Ag,Xx,Ag,S6,Ag];by_cases h1:Wb a s=true
 .obtain⟨h2,h3,h4⟩:=Jz h1
  by_cases h5:a < 512
  .have h6:0<=a/\a<=511:=by omega
   rw[Jj (by omega) (by omega),Ye (by omega) (by omega),Xd (by omega) (by omega),JU (by omega),HA (by omega)];by_cases h7:X1 b=0
   .simp[h1,h5,h6,h7]
   .by_cases h8:b=2
    .subst h8
     by_cases h9:(a+Y3 s) % (4*Y3 s)=0<;>simp[h1,h5,h6,h7,h9]
    .simp[h1,h5,h6,h7,h8]
  .have h6:¬(0<=a/\a<=511):=by omega
   simp[h1,h5,h6]
 .simp[h1]
theorem Ytm (a s b:Int):o8 a s b=some (Gj a s b):=by
 have hb:=Pa s;unfold o8 bP Gj;rw[tT,Ag,UX,Ag,Ag,tR,Ag];by_cases h1:Wb a s=true
 .obtain⟨h2,h3,h4⟩:=Jz h1
  by_cases h5:a < 512
  .have h6:¬a≥512:=by omega
   rw[Jj (by omega) (by omega),Ye (by omega) (by omega),Xd (by omega) (by omega),JU (by omega),HA (by omega)];by_cases h7:X1 b=0
   .simp[h1,h5,h6,h7]
   .by_cases h8:b=2
    .subst h8
     by_cases h9:(a+Y3 s) % (4*Y3 s)=0<;>simp[h1,h5,h6,h7,h9]
    .simp[h1,h5,h6,h7,h8]
  .have h6:a≥512:=by omega
   simp[h1,h5,h6]
 .simp[h1]
theorem Y18 {a s b:Int} (h:0<=Gj a s b):Wb a s=true/\a < 512:=by
 unfold Gj at h;split at h
 .rename_i h1;exact h1.1
 .omega
def EP (s b:Int):Nat->Int->Option (List Int)
 | 0,_=>some []
 | n+1,a=>if Gj a s b < 0 then none else (EP s b n (Gj a s b)).map (a::·)
def Ku (a s b:Int):List Int:=(EP s b (X1 b).toNat a).getD []
theorem Z6k (a s b:Int):bR a s b=some (Ku a s b):=by
 have hb:=Np b;unfold bR;rw[tR,Ag];have key:∀(n m:Nat) (x:Int) (out:List Int) (k:Nat),n < m->(k:Int)+n=X1 b->out.length=k->o9 a s b m x out (X1 b) k=some (match EP s b n x with|some l=>out++l|none=>[]):=by
  intro n
  induction n with
  | zero=>
   intro m x out k hm hk ho;obtain⟨m,rfl⟩:∃m',m=m'+1:=⟨m - 1,by omega⟩;show bQ a s b _ x out (X1 b) k=_;unfold bQ;rw[Ai (by simp;omega)];simp[EP]
  | succ n ih=>
   intro m x out k hm hk ho;obtain⟨m,rfl⟩:∃m',m=m'+1:=⟨m - 1,by omega⟩;show bQ a s b _ x out (X1 b) k=_;unfold bQ;rw[Ah (by simp;omega),Ytm,Ag];simp only[EP];by_cases h1:Gj x s b < 0
   .rw[Ah (by simpa using h1),Ah h1]
   .rw[Ai (by simpa using h1),Ai h1,Yr (by simp;omega) (by simp;omega),Ag,Z8 (by omega),ih m _ _ (k+1) (by omega) (by omega) (by simp[ho])]
    cases EP s b n (Gj x s b)<;>simp
 have:=key (X1 b).toNat FU a [] 0 (by have:=Yx;omega) (by omega) rfl;rw[show ((0:Nat):Int)=0 from rfl] at this;rw[this];unfold Ku;cases EP s b (X1 b).toNat a<;>simp
theorem Z56 (a s b:Int):aC a s b=some (Ku a s b):=by
 have hb:=Np b;unfold aC;have key:∀(n m:Nat) (x:Int) (out:List Int),n < m->(out.length:Int)+n=X1 b->lP a s b m x out=some (match EP s b n x with|some l=>out++l|none=>[]):=by
  intro n
  induction n with
  | zero=>
   intro m x out hm hk;obtain⟨m,rfl⟩:∃m',m=m'+1:=⟨m - 1,by omega⟩;show aB a s b _ x out=_;unfold aB aA;have h1:¬((out.length:Int) < X1 b):=by omega
   simp[S6,h1,EP]
  | succ n ih=>
   intro m x out hm hk;obtain⟨m,rfl⟩:∃m',m=m'+1:=⟨m - 1,by omega⟩;show aB a s b _ x out=_;unfold aB aA;have h1:(out.length:Int) < X1 b:=by omega
   simp only[S6,Ytr,Ag,h1,decide_true,if_true,EP,Bl];by_cases h2:Gj x s b < 0
   .have h3:¬(Gj x s b≥0):=by omega
    rw[Ai h3,Ah h2]
   .have h3:Gj x s b≥0:=by omega
    rw[Ah h3,Ai h2,Yr (by simp;omega) (by simp;omega),Ag,ih m _ _ (by omega) (by simp;omega)];cases EP s b n (Gj x s b)<;>simp
 have:=key (X1 b).toNat FU a [] (by have:=Yx;omega) (by simp;omega);rw[this];unfold Ku;cases EP s b (X1 b).toNat a<;>simp
theorem Yd7 {s b:Int}:∀{n:Nat} {a:Int} {l:List Int},EP s b n a=some l->l.length=n/\(∀x∈l,Wb x s=true/\x < 512)/\(0 < n->l.head?=some a):=by
 intro n
 induction n with
 | zero=>intro a l h;simp only[EP,AF] at h;subst h;simp
 | succ n ih=>
  intro a l h;simp only[EP] at h;split at h
  .cases h
  .rename_i h1
   obtain⟨l',h2,rfl⟩:=AM.1 h;obtain⟨h3,h4,_⟩:=ih h2;refine⟨by simp[h3],λx hx=>?_,λ_=>rfl⟩;rcases BX.1 hx with rfl|hx
   .exact Y18 (s:=s) (b:=b) (by omega)
   .exact h4 x hx
theorem Ynx (a s b:Int):Ku a s b=[]\/((Ku a s b).length:Int)=X1 b:=by
 unfold Ku;have hb:=Np b;cases h:EP s b (X1 b).toNat a with
 | none=>exact .inl rfl
 | some l=>
  have:=(Yd7 h).1;exact .inr (by simp only[Gr];omega)
theorem eP {a s b x:Int} (h:x∈Ku a s b):Wb x s=true/\0<=x/\x < 512:=by
 unfold Ku at h;cases h2:EP s b (X1 b).toNat a with
 | none=>rw[h2] at h;simp at h
 | some l=>
  rw[h2] at h;have:=(Yd7 h2).2.1 x h;exact⟨this.1,(Jz this.1).2.1,this.2⟩
theorem Yrn (a s b:Int):(Ku a s b).length<=8:=by
 have:=Np b;rcases Ynx a s b with h|h
 .rw[h];simp
 .omega
def LK (a s b:Int):Bool:=(Ku a s b).all (λx=>decide (x / 64=Ak (Ku a s b) 0 / 64))&&decide (Ku a s b≠[])
theorem tU {x:Int} (h0:0<=x) (h1:x < 512):E2 x 64=x / 64:=tK h0 (by omega) (by omega)
theorem Yvm (a s b:Int):pB a s b=some (LK a s b):=by
 unfold pB LK;rw[Z6k,Ag];generalize hA:Ku a s b=l;have hm:∀x∈l,0<=x/\x < 512:=λx hx=>by rw[<-hA] at hx;exact (eP hx).2
 have hl:l.length<=8:=by rw[<-hA];exact Yrn a s b
 have key:∀(m k:Nat),k<=l.length->l.length - k < m->pA a s b m l (l.length:Int) k=some ((l.drop k).all (λx=>decide (x / 64=Ak l 0 / 64))&&decide (l≠[])):=by
  intro m
  induction m with
  | zero=>intro k _ h;omega
  | succ m ih=>
   intro k hk Le;show Zu1 a s b _ l (l.length:Int) k=_;unfold Zu1;by_cases hc:k < l.length
   .have h0:=hm _ (B6 hc)
    have h1:=hm _ (B6 (by omega:0 < l.length));rw[Ah (by simpa using hc),Zx hc,Ag,show (0:Int)=((0:Nat):Int) from rfl,Zx (by omega:0 < l.length),Ag,tU h0.1 h0.2,tU h1.1 h1.2,Qp (by omega:0 < l.length),DG hc,Ef];by_cases hq:(l[k]:Int) / (64:Int)=(l[0]:Int) / (64:Int)
    .rw[Ai (by simpa using hq),Z8 (by omega),ih (k+1) (by omega) (by omega),show (0:Int)=((0:Nat):Int) from rfl,Qp (by omega:0 < l.length),decide_eq_true hq,Hs]
    .rw[Ah (by simpa using hq),decide_eq_false hq,Iz,Iz]
   .rw[Ai (by simpa using hc),Fu (by omega)]
    simp[Cq]
 have:=key FU 0 (BM _) (by have:=Yx;omega);simpa using this
theorem Ygh (a s b:Int):aD a s b=some (LK a s b):=by
 unfold aD LK;rw[Z56,Ag];generalize hA:Ku a s b=l;have hm:∀x∈l,0<=x/\x < 512:=λx hx=>by rw[<-hA] at hx;exact (eP hx).2
 have hl:l.length<=8:=by rw[<-hA];exact Yrn a s b
 have key:∀(m k:Nat),k<=l.length->l.length - k < m->lQ a s b m l k=some ((l.drop k).all (λx=>decide (x / 64=Ak l 0 / 64))&&decide (l≠[])):=by
  intro m
  induction m with
  | zero=>intro k _ h;omega
  | succ m ih=>
   intro k hk Le;show Zuz a s b _ l k=_;unfold Zuz;by_cases hc:k < l.length
   .have h0:=hm _ (B6 hc)
    have h1:=hm _ (B6 (by omega:0 < l.length));rw[Ah (by simpa using hc),Zx hc,Ag,show (0:Int)=((0:Nat):Int) from rfl,Zx (by omega:0 < l.length),Ag,tU h0.1 h0.2,tU h1.1 h1.2,Qp (by omega:0 < l.length),DG hc,Ef];by_cases hq:(l[k]:Int) / (64:Int)=(l[0]:Int) / (64:Int)
    .rw[Ai (by simpa using hq),Z8 (by omega),ih (k+1) (by omega) (by omega),show (0:Int)=((0:Nat):Int) from rfl,Qp (by omega:0 < l.length),decide_eq_true hq,Hs]
    .rw[Ah (by simpa using hq),decide_eq_false hq,Iz,Iz]
   .rw[Ai (by simpa using hc),Fu (by omega)]
    simp[Cq]
 have:=key FU 0 (BM _) (by have:=Yx;omega);simpa using this
instance:Inhabited Zj:=⟨Zj.z0⟩
def Qk (r:Zj):Bool:=LK r.addr r.size r.Az&&(decide ((r.Aa.length:Int)=if r.write then X1 r.Az else 0)&&r.Aa.all λv=>X3 v r.size)
def Zj.sm (r:Zj):Prop:=r.Aa.length < 1048577
theorem tV (r:Zj) (hs:r.sm):OF r=some (Qk r):=by
 unfold Zj.sm at hs;have hf:Ql r.Aa r=some (!r.Aa.all λv=>X3 v r.size):=by
  unfold Ql Zan;refine tL r.Aa (by omega) (λv=>pC v r) (λv=>X3 v r.size) (λv _=>?_) _ (λm i=>rfl);unfold pC;rw[S7];rfl
 unfold OF pD Qk;rw[tR,Ag,Yvm,Ag,hf,Ag,wB];by_cases h1:LK r.addr r.size r.Az=true
 .by_cases h2:r.write=true
  .by_cases h3:(r.Aa.length:Int)=X1 r.Az<;>simp[h1,h2,h3]
  .by_cases h3:r.Aa=[]<;>simp[h1,h2,h3]
 .by_cases h2:r.write=true<;>simp[h1,h2]
theorem Ya1 (r:Zj) (hs:r.sm):TQ r=some (Qk r):=by
 unfold Zj.sm at hs;unfold TQ;rw[Ygh,Ag];have hb:=Np r.Az;have key:∀(m k:Nat),k<=r.Aa.length->r.Aa.length - k < m->lR r m k=some (decide ((r.Aa.length:Int)=if r.write then X1 r.Az else 0)&&(r.Aa.drop k).all λv=>X3 v r.size):=by
  intro m
  induction m with
  | zero=>intro k _ h;omega
  | succ m ih=>
   intro k hk hm;show Zyp r _ k=_;unfold Zyp;by_cases hc:k < r.Aa.length
   .rw[Ah (by simpa using hc),Zx hc,Ag,LJ,Ag,S8,Ag,DG hc,Ef]
    by_cases hq:X3 r.Aa[k] r.size=true
    .rw[Ai (by simp[hq]),Z8 (by omega),ih (k+1) (by omega) (by omega)]
     simp[hq]
    .rw[Ah (by simp[hq])]
     simp[hq]
   .rw[Ai (by simpa using hc),Fu (by omega),S6]
    cases h2:r.write<;>simp only[if_true,if_false,Bp,Ag,VD,Ma]<;>generalize decide ((r.Aa.length:Int)=0)=x<;>generalize decide ((r.Aa.length:Int)=X1 r.Az)=y<;>cases x<;>cases y<;>rfl
 have:=key FU 0 (BM _) (by have:=Yx;omega);unfold Qk;by_cases h1:LK r.addr r.size r.Az=true
 .rw[Ai (by simp[h1]),show (0:Int)=((0:Nat):Int) from rfl,this]
  simp[h1]
 .rw[Ah (by simp[h1])]
  simp[h1]
theorem KB {r:Zj} (h:Qk r=true):LK r.addr r.size r.Az=true/\(r.Aa.length:Int)=(if r.write then X1 r.Az else 0)/\∀v∈r.Aa,X3 v r.size=true:=by
 simp only[Qk,Bh,Bl,Cf] at h;exact⟨h.1,h.2.1,h.2.2⟩
theorem Pb {a s b:Int} (h:LK a s b=true):((Ku a s b).length:Int)=X1 b/\1<=X1 b:=by
 simp only[LK,Bh,Bl] at h;rcases Ynx a s b with h1|h1
 .exact absurd h1 h.2
 .have:0 < (Ku a s b).length:=Cq.2 h.2
  omega
theorem eQ {r:Zj} (h:Qk r=true):r.sm:=by
 have:=(KB h).2.1;have hb:=Np r.Az;unfold Zj.sm;split at this<;>omega
theorem Ygr (r:Zj) (hs:r.sm):Sc r=some r:=by
 unfold Zj.sm at hs;unfold Sc Xl;rw[Yr (by simp;omega) (by simp;omega)];rfl
theorem Yfi (r:Zj) (hs:r.sm):R8 r=some r:=by
 unfold Zj.sm at hs;unfold R8;rw[Yr (by simp;omega) (by simp;omega)];rfl
instance:Inhabited Zh:=⟨Zh.z0⟩
def Zy (m:Zh):Int:=if m.queue=[] then 0 else X1 (Ak m.queue 0).Az
theorem eR (m:Zh):0<=Zy m/\Zy m<=8:=by
 unfold Zy;have:=Np (Ak m.queue 0).Az;split<;>omega
def Pc (m:Zh):Bool:=decide (m.queue.length<=4)&&(decide (0<=m.tries)&&(m.queue.all Qk&&
 (if m.queue=[] then decide (m.Ao=0)&&(decide (m.done=0)&&(decide (m.tries=0)&&(!m.Ay&&!m.broken))) else decide (0<=m.done/\m.done<=Zy m - 1)&&decide (m.done<=m.Ao/\m.Ao<=min (m.done+2) (Zy m)))))
def Zh.sm (m:Zh):Prop:=m.queue.length < 1048577/\∀r∈m.queue,r.sm
structure Y2 (m:Zh):Prop where
 len:m.queue.length<=4
 tries:0<=m.tries
 reqs:∀r∈m.queue,Qk r=true
 none:m.queue=[]->m.Ao=0/\m.done=0/\m.tries=0/\m.Ay=false/\m.broken=false
 some:m.queue≠[]->0<=m.done/\m.done < Zy m/\m.done<=m.Ao/\m.Ao<=m.done+2/\m.Ao<=Zy m
theorem GC {m:Zh}:Pc m=true↔Y2 m:=by
 unfold Pc;by_cases h:m.queue=[]
 .constructor
  .intro h1
   simp only[h,if_true,Bh,Bl,NA] at h1;exact⟨by simp[h],h1.2.1,by simp[h],λ_=>⟨h1.2.2.2.1,h1.2.2.2.2.1,h1.2.2.2.2.2.1,h1.2.2.2.2.2.2.1,h1.2.2.2.2.2.2.2⟩,λh2=>absurd h h2⟩
  .intro h1
   obtain⟨h2,h3,h4,h5,h6⟩:=h1.none h;simp[h,h2,h3,h4,h5,h6]
 .constructor
  .intro h1
   rw[Ai h] at h1;simp only[Bh,Bl,Cf] at h1;exact⟨h1.1,h1.2.1,h1.2.2.1,λh2=>absurd h2 h,λ_=>by omega⟩
  .intro h1
   have h2:=h1.some h;rw[Ai h];simp only[Bh,Bl,Cf];exact⟨h1.len,h1.tries,h1.reqs,by omega,by omega⟩
theorem Y2.sm {m:Zh} (h:Y2 m):m.sm:=⟨by have:=h.len;omega,λr hr=>eQ (h.reqs r hr)⟩
theorem tW (m:Zh):OH m=some (Zy m):=by
 unfold OH Zy;by_cases h:m.queue=[]
 .simp[h]
 .have h1:0 < m.queue.length:=Cq.2 h
  rw[Ai (by simpa using h),Ai h,Xu (by omega) (by omega),Ag,tR];rfl
theorem tX (m:Zh):O2 m=some (Zy m):=by
 unfold O2 Zy;by_cases h:m.queue=[]
 .simp[h]
 .have h1:0 < m.queue.length:=Cq.2 h
  rw[Ai (by simpa using h),Ai h,Xu (by omega) (by omega),Ag,S6];rfl
theorem UY (m:Zh) (hs:m.sm):Jr m=some (Pc m):=by
 have hf:Wk m.queue=some (!m.queue.all Qk):=by
  unfold Wk Kp;refine tL m.queue (by have:=hs.1;omega) pN Qk (λr hr=>?_) _ (λm i=>rfl);unfold pN;rw[tV r (hs.2 r hr)];rfl
 have hb:=eR m;have hJ:Qi m false=some (if m.queue=[] then decide (m.Ao=0)&&(decide (m.done=0)&&(decide (m.tries=0)&&(!m.Ay&&!m.broken))) else decide (0<=m.done/\m.done<=Zy m - 1)&&decide (m.done<=m.Ao/\m.Ao<=min (m.done+2) (Zy m))):=by
  unfold Qi;rw[tW,Ag,Ag,Ws,Ag,Ws,Ag,Xd (by omega) (by omega)];by_cases h:m.queue=[]
  .rw[Ai (by simp),Ah (by simpa using h),Ah h]
   by_cases h1:m.Ao=0<;>by_cases h2:m.done=0<;>by_cases h3:m.tries=0<;>by_cases h4:m.Ay=true<;>simp[h1,h2,h3,h4]
  .rw[Ai (by simp),Ai (by simpa using h),Ai h]
   by_cases h1:0<=m.done/\m.done<=Zy m - 1
   .rw[Ye (by omega) (by omega),GA]
    simp[h1]
   .simp[h1]
 unfold Jr Pc;rw[hf,Ag];by_cases h1:(m.queue.length:Int) > 4
 .have h2:¬m.queue.length<=4:=by omega
  simp[h1,h2,Qi]
 .have h2:m.queue.length<=4:=by omega
  by_cases h3:m.tries < 0
  .have h4:¬0<=m.tries:=by omega
   simp[h1,h2,h3,h4,Qi]
  .have h4:0<=m.tries:=by omega
   rw[Ai (by simpa using h1),Ai (by simpa using h3)];by_cases h5:m.queue.all Qk=true
   .rw[h5,D6,hJ]
    simp only[h2,h4,decide_true,Hs]
   .have h6:m.queue.all Qk=false:=by simpa using h5
    rw[h6,Ga];simp[Qi]
theorem UZ (m:Zh) (hs:m.sm):MO m=some (Pc m):=by
 have hb:=eR m;have hJ:R5 m false=some (if m.queue=[] then decide (m.Ao=0)&&(decide (m.done=0)&&(decide (m.tries=0)&&(!m.Ay&&!m.broken))) else decide (0<=m.done/\m.done<=Zy m - 1)&&decide (m.done<=m.Ao/\m.Ao<=min (m.done+2) (Zy m))):=by
  unfold R5;rw[tX,Ag,Ag,Xx,Ag,Xx,Ag,Xd (by omega) (by omega)];by_cases h:m.queue=[]
  .rw[Ai (by simp),Ah (by simpa using h),Ah h]
   by_cases h1:m.Ao=0<;>by_cases h2:m.done=0<;>by_cases h3:m.tries=0<;>by_cases h4:m.Ay=true<;>simp[h1,h2,h3,h4]
  .rw[Ai (by simp),Ai (by simpa using h),Ai h]
   by_cases h1:0<=m.done/\m.done<=Zy m - 1
   .rw[Ye (by omega) (by omega),GA]
    simp[h1]
   .simp[h1]
 unfold MO;have hl:=hs.1;have key:∀(n k:Nat),k<=m.queue.length->m.queue.length - k < n->lS m n k=some (decide (m.queue.length<=4)&&(decide (0<=m.tries)&&((m.queue.drop k).all Qk&&
 (if m.queue=[] then decide (m.Ao=0)&&(decide (m.done=0)&&(decide (m.tries=0)&&(!m.Ay&&!m.broken))) else decide (0<=m.done/\m.done<=Zy m - 1)&&decide (m.done<=m.Ao/\m.Ao<=min (m.done+2) (Zy m)))))):=by
  intro n
  induction n with
  | zero=>intro k _ h;omega
  | succ n ih=>
   intro k hk hm;show Zs5 m _ k=_;unfold Zs5;by_cases hc:k < m.queue.length
   .rw[Ah (by simpa using hc),Zx hc,Ag,Ya1 _ (hs.2 _ (B6 hc)),Ag,DG hc,Ef]
    by_cases hq:Qk m.queue[k]=true
    .rw[Ai (by simp[hq]),Z8 (by omega),ih (k+1) (by omega) (by omega)]
     simp[hq]
    .rw[Ah (by simp[hq])]
     simp[hq]
   .rw[Ai (by simpa using hc),Fu (by omega)]
    by_cases h1:(m.queue.length:Int) > 4
    .have h2:¬m.queue.length<=4:=by omega
     simp[h1,h2,R5]
    .have h2:m.queue.length<=4:=by omega
     by_cases h3:m.tries < 0
     .have h4:¬0<=m.tries:=by omega
      simp[h1,h2,h3,h4,R5]
     .have h4:0<=m.tries:=by omega
      rw[Ai (by simpa using h1),decide_eq_false h3,hJ];simp only[h2,h4,decide_true,Hs,VD]
 have:=key FU 0 (BM _) (by have:=Yx;omega);simpa [Pc] using this
theorem eS (m:Zh) (hs:m.sm):OJ m=some m:=by
 unfold OJ;refine (Yrv 64 (by decide) m.queue hs.1 Sc (λr hr=>Ygr r (hs.2 r hr)) (λv=>some {m with queue:=v}) (pS m) (λn v i=>rfl)).trans ?_;rfl
theorem eT (m:Zh) (hs:m.sm):O3 m=some m:=by
 unfold O3;refine (Yrv 64 (by decide) m.queue hs.1 R8 (λr hr=>Yfi r (hs.2 r hr)) (λv=>some {m with queue:=v}) (l6 m) (λn v i=>rfl)).trans ?_;rfl
def Dz (m:Zh) (r:Zj):Zh:=if Qk r=true/\m.queue.length≠4 then {m with queue:=m.queue++[r]} else m
def LL (m:Zh):Bool:=decide (m.Ao < Zy m)
def Xt (m:Zh) (b:Int):Int:=if 0<=b/\b<=Zy m - 1 then Ak (Ku (Ak m.queue 0).addr (Ak m.queue 0).size (Ak m.queue 0).Az) b else -1
def Wp (m:Zh):Zh:=if m.Ao < Zy m/\m.Ao≠m.done+2 then {m with Ao:=m.Ao+1} else m
def DR (m:Zh):Zh:=if m.Ao=m.done then m else {m with Ao:=m.Ao - 1}
def CA (m:Zh):Zh:=if m.Ao=m.done then m else if m.done+1=Zy m then Zh.mk m.queue.tail 0 0 0 false false else Zh.mk m.queue m.Ao (m.done+1) 0 false m.broken
theorem GD {m:Zh} (h:Y2 m):0<=m.done/\m.done<=8/\0<=m.Ao/\m.Ao<=8:=by
 have hb:=eR m;by_cases hq:m.queue=[]
 .have:=h.none hq;omega
 .have:=h.some hq;omega
theorem tY {m:Zh} (h:Y2 m) (hq:m.queue≠[]):Qk (Ak m.queue 0)=true/\Zy m=X1 (Ak m.queue 0).Az/\1<=Zy m:=by
 have h1:0 < m.queue.length:=Cq.2 hq;have h2:Qk (Ak m.queue 0)=true:=h.reqs _ (G9 (by omega) (by omega));have h3:Zy m=X1 (Ak m.queue 0).Az:=by unfold Zy;rw[Ai hq]
 exact⟨h2,h3,by rw[h3];exact (Pb (KB h2).1).2⟩
theorem Yxf {m:Zh} {b:Int} (h:Y2 m) (h0:0<=b) (h1:b < Zy m):Xt m b∈Ku (Ak m.queue 0).addr (Ak m.queue 0).size (Ak m.queue 0).Az/\Wb (Xt m b) (Ak m.queue 0).size=true/\0<=Xt m b/\Xt m b < 512:=by
 have hq:m.queue≠[]:=by
  intro hq;unfold Zy at h1;rw[Ah hq] at h1;omega
 obtain⟨h2,h3,h4⟩:=tY h hq;have h5:=(Pb (KB h2).1).1;have h6:Xt m b=Ak (Ku (Ak m.queue 0).addr (Ak m.queue 0).size (Ak m.queue 0).Az) b:=by
  unfold Xt;rw[Ah (by omega)]
 have h7:=G9 (xs:=Ku (Ak m.queue 0).addr (Ak m.queue 0).size (Ak m.queue 0).Az) h0 (by omega);rw[h6];have h8:=eP h7;exact⟨h7,h8.1,h8.2.1,h8.2.2⟩
theorem SA {m:Zh} (b:Int) (h:Y2 m):OI m b=some (Xt m b):=by
 have hb:=eR m;unfold OI pO;rw[UY m h.sm,Ag,GC.2 h,tW,Ag,Ws,Ag,Xd (by omega) (by omega)];by_cases h1:0<=b/\b<=Zy m - 1
 .have hq:m.queue≠[]:=by
   intro hq;unfold Zy at h1;rw[Ah hq] at h1;omega
  obtain⟨h2,h3,h4⟩:=tY h hq;have h5:=(Pb (KB h2).1).1;have h6:0 < m.queue.length:=Cq.2 hq;rw[Xu (by omega) (by omega),Ag,Z6k,Ag,Xu h1.1 (by omega)];simp[h1,Xt]
 .simp[h1,Xt]
theorem Va {m:Zh} (b:Int) (h:Y2 m):R9 m b=some (Xt m b):=by
 have hb:=eR m;unfold R9 l8;rw[UZ m h.sm,Ag,GC.2 h,tX,Ag,Xx,Ag,Xd (by omega) (by omega)];by_cases h1:0<=b/\b<=Zy m - 1
 .have hq:m.queue≠[]:=by
   intro hq;unfold Zy at h1;rw[Ah hq] at h1;omega
  obtain⟨h2,h3,h4⟩:=tY h hq;have h5:=(Pb (KB h2).1).1;have h6:0 < m.queue.length:=Cq.2 hq;rw[Xu (by omega) (by omega),Ag,Z56,Ag,Xu h1.1 (by omega)];simp[h1,Xt]
 .simp[h1,Xt]
theorem Ycx {m:Zh} (h:Y2 m):cO m=some (LL m):=by
 unfold cO LL;rw[UY m h.sm,Ag,GC.2 h,tW];rfl
theorem Ycp {m:Zh} (h:Y2 m):aU m=some (LL m):=by
 unfold aU LL;rw[UZ m h.sm,Ag,GC.2 h,tX];rfl
theorem Yyi {m:Zh} {r:Zj} (h:Y2 m) (hr:r.sm):∃b,pT m r=some (Dz m r,b):=by
 have hl:=h.len;unfold pT b7 Dz;rw[eS m h.sm,Ag,UY m h.sm,Ag,GC.2 h,tV r hr,Ag,Ygr r hr,Ag,Yr (by simp;omega) (by simp;omega),Ag];by_cases h1:Qk r=true
 .by_cases h2:m.queue.length=4
  .simp[h1,h2]
  .have h3:¬((m.queue.length:Int)=4):=by omega
   simp[h1,h2,h3]
 .simp[h1]
theorem Yyy {m:Zh} {r:Zj} (h:Y2 m) (hr:r.sm):∃b,mD m r=some (Dz m r,b):=by
 have hl:=h.len;unfold mD aK Dz;rw[eT m h.sm,Ag,UZ m h.sm,Ag,GC.2 h,Ya1 r hr,Ag,Yfi r hr,Ag,Yr (by simp;omega) (by simp;omega),Ag];by_cases h1:Qk r=true
 .by_cases h2:m.queue.length=4
  .simp[h1,h2]
  .have h3:¬((m.queue.length:Int)=4):=by omega
   simp[h1,h2,h3]
 .simp[h1]
theorem Yun {m:Zh} (h:Y2 m):∃b,rC m=some (Wp m,b):=by
 have hb:=GD h;unfold rC rB Wp;rw[eS m h.sm,Ag,Ycx h,Ag,Ye (a:=m.done) (by omega) (by omega),Ye (by omega) (by omega)];unfold LL;by_cases h1:m.Ao < Zy m
 .by_cases h2:m.Ao=m.done+2<;>simp[h1,h2]
 .simp[h1]
theorem Yub {m:Zh} (h:Y2 m):∃b,nH m=some (Wp m,b):=by
 have hb:=GD h;unfold nH nG Wp;rw[eT m h.sm,Ag,Ycp h,Ag,Ye (a:=m.done) (by omega) (by omega),Ye (by omega) (by omega)];unfold LL;by_cases h1:m.Ao < Zy m
 .by_cases h2:m.Ao=m.done+2<;>simp[h1,h2]
 .simp[h1]
theorem Yu4 {m:Zh} (h:Y2 m):∃b,pW m=some (DR m,b):=by
 have hb:=GD h;unfold pW pV DR;rw[eS m h.sm,Ag,UY m h.sm,Ag,GC.2 h,Xd (by omega) (by omega)];by_cases h1:m.Ao=m.done<;>simp[h1]
theorem Yxz {m:Zh} (h:Y2 m):∃b,mH m=some (DR m,b):=by
 have hb:=GD h;unfold mH mG DR;rw[eT m h.sm,Ag,UZ m h.sm,Ag,GC.2 h,Xd (by omega) (by omega)];by_cases h1:m.Ao=m.done<;>simp[h1]
theorem tZ {α:Type} (xs:List α) (h:xs≠[]) (hl:xs.length < 1048577):Yv xs 1 (xs.length:Int)=some xs.tail:=by
 have h1:0 < xs.length:=Cq.2 h;unfold Yv;rw[Ah ⟨by omega,by omega,by omega⟩]
 congr 1
 rw[DH (by simp),<-List.drop_one];rfl
theorem LM {m:Zh} (h:Y2 m) (hb:m.Ao≠m.done):m.queue≠[]:=by
 intro hq;have:=h.none hq;omega
theorem Y2g {m:Zh} (h:Y2 m):∃b,qL m=some (CA m,b):=by
 have hb:=GD h;have hl:=h.len;unfold qL qK CA;rw[eS m h.sm,Ag,UY m h.sm,Ag,GC.2 h,Ye (by omega) (by omega),tW,Ag];have e:Zy {m with done:=m.done+1}=Zy m:=rfl;rw[e];by_cases h1:m.Ao=m.done
 .simp[h1]
 .rw[tZ _ (LM h h1) (by omega),Ag]
  by_cases h2:m.done+1=Zy m<;>simp[h1,h2]
theorem Y2i {m:Zh} (h:Y2 m):∃b,nA m=some (CA m,b):=by
 have hb:=GD h;have hl:=h.len;unfold nA mZ CA;rw[eT m h.sm,Ag,UZ m h.sm,Ag,GC.2 h,Ye (by omega) (by omega),tX,Ag];by_cases h1:m.Ao=m.done
 .simp[h1]
 .rw[tZ _ (LM h h1) (by omega),Ag]
  by_cases h2:m.done+1=Zy m<;>simp[h1,h2]
theorem Yiv {m:Zh} {r:Zj} (h:m.queue≠[]):Ak (m.queue++[r]) 0=Ak m.queue 0:=by
 cases hq:m.queue with
 | nil=>exact absurd hq h
 | cons a l=>rfl
theorem Y5y {m:Zh} {r:Zj} (h:Y2 m):Y2 (Dz m r):=by
 unfold Dz;split
 .rename_i h1
  have hl:=h.len;have Yj:m.queue++[r]≠[]:=by simp
  refine⟨by simp;omega,h.tries,λx hx=>?_,λhx=>absurd hx Yj,λ_=>?_⟩
  .rcases BP.1 hx with hx|hx
   .exact h.reqs x hx
   .rw[List.mem_singleton.1 hx];exact h1.1
  .by_cases hq:m.queue=[]
   .obtain⟨h2,h3,h4,h5,h6⟩:=h.none hq
    have hm:Zy {m with queue:=m.queue++[r]}=X1 r.Az:=by
     unfold Zy;rw[Ai Yj];simp[hq,Ak]
    have:=(Pb (KB h1.1).1).2;rw[hm];simp only[h2,h3];omega
   .have h2:=h.some hq
    have hm:Zy {m with queue:=m.queue++[r]}=Zy m:=by
     unfold Zy;rw[Ai Yj,Ai hq];simp only[Yiv hq]
    rw[hm];exact h2
 .exact h
theorem Y1b {m:Zh} (h:Y2 m):Y2 (Wp m):=by
 unfold Wp;split
 .rename_i h1
  have hq:m.queue≠[]:=by
   intro hq;unfold Zy at h1;rw[Ah hq] at h1;have:=GD h;omega
  have h2:=h.some hq;refine⟨h.len,h.tries,h.reqs,λhx=>absurd hx hq,λ_=>?_⟩;have hm:Zy {m with Ao:=m.Ao+1}=Zy m:=rfl;rw[hm];simp only;omega
 .exact h
theorem Yne {m:Zh} (h:Y2 m):Y2 (DR m):=by
 unfold DR;split
 .exact h
 .rename_i h1
  have hq:=LM h h1;have h2:=h.some hq;refine⟨h.len,h.tries,h.reqs,λhx=>absurd hx hq,λ_=>?_⟩;have hm:Zy {m with Ao:=m.Ao - 1}=Zy m:=rfl;rw[hm];simp only;omega
theorem Y8c {m:Zh} (h:Y2 m):Y2 (CA m):=by
 unfold CA;split
 .exact h
 .rename_i h1
  have hq:=LM h h1;have h2:=h.some hq;split
  .have hr:∀r∈m.queue.tail,Qk r=true:=λr hr=>h.reqs r (List.mem_of_mem_tail hr)
   refine⟨by have:=h.len;simp;omega,by simp,hr,λ_=>by simp,λhx=>?_⟩;have h3:Y2 (Zh.mk m.queue.tail 0 0 0 false false)->True:=λ_=>trivial;have h4:0 < m.queue.tail.length:=Cq.2 hx;have h5:Qk (Ak m.queue.tail 0)=true:=hr _ (G9 (by omega) (by omega));have h6:=(Pb (KB h5).1).2;have hm:Zy (Zh.mk m.queue.tail 0 0 0 false false)=X1 (Ak m.queue.tail 0).Az:=by
    unfold Zy;rw[Ai hx]
   rw[hm];simp only;omega
  .rename_i h3
   refine⟨h.len,by simp,h.reqs,λhx=>absurd hx hq,λ_=>?_⟩;have hm:Zy (Zh.mk m.queue m.Ao (m.done+1) 0 false m.broken)=Zy m:=rfl;rw[hm];simp only;omega
theorem Xea {a b:Int} {k:Nat} (h0:0<=a) (h1:a < 2^k) (hb:0<=b) (hk:b*2^k+a < 9223372036854775808):orW a (b*2^k)=a+b*2^k:=by
 obtain⟨a,rfl⟩:=vI h0;obtain⟨b,rfl⟩:=vI hb;have e1:(b:Int)*2^k=((b*2^k:Nat):Int):=by simp
 rw[e1] at hk ⊢;have Lk:a < 2^k:=by
  have:((a:Nat):Int) < ((2^k:Nat):Int):=by simpa using h1
  exact Int.ofNat_lt.1 this
 have h2:a+b*2^k < 18446744073709551616:=by omega
 unfold orW;show IntKind.i64.wrap (((BitVec.ofInt 64 ((a:Nat):Int) ||| BitVec.ofInt 64 ((b*2^k:Nat):Int)).toNat:Nat):Int)=_;rw[iF,iF,BitVec.toNat_or,iG,iG,V5 (by omega),V5 (by omega)];have h3:a ||| b*2^k=a+b*2^k:=by
  rw[Nat.or_comm,<-Nat.shiftLeft_eq,<-Nat.shiftLeft_add_eq_or_of_lt Lk,iO]
 rw[h3,OY (by omega) (by omega)];simp
theorem Xby {a:Int} (h0:0<=a) (h1:a < 9223372036854775808):Lu a 255=a % 256:=by
 obtain⟨a,rfl⟩:=vI h0;unfold Lu;show IntKind.i64.wrap (((BitVec.ofInt 64 ((a:Nat):Int) &&& BitVec.ofInt 64 ((255:Nat):Int)).toNat:Nat):Int)=_;rw[iF,iF,BitVec.toNat_and,iG,iG,V5 (by omega),V5 (by omega)];have h3:a &&& 255=a % 256:=Nat.and_two_pow_sub_one_eq_mod a 8;rw[h3,OY (by omega) (by omega)];omega
theorem Xel {a:Int} {k:Nat} (hk:k<=64) (h0:0<=a) (h1:a*2^k < 9223372036854775808):Rz a (k:Int)=a*2^k:=by
 unfold Rz;have:min ((k:Int).toNat) IntKind.i64.bits=k:=by
  show min ((k:Int).toNat) 64=k;omega
 rw[this];have:0<=a*2^k:=vZ h0 (Int.pow_nonneg (by omega));exact OY (by omega) h1
theorem Xe1 {a:Int} {k:Nat} (hk:k<=64) (h0:0<=a):R0 a (k:Int)=a / 2^k:=by
 unfold R0;have:min ((k:Int).toNat) IntKind.i64.bits=k:=by
  show min ((k:Int).toNat) 64=k;omega
 rw[this,Int.fdiv_eq_ediv_of_nonneg _ (Int.pow_nonneg (by omega))]
def DY (n:Int):Bool:=decide (0<=n/\n<=255)
def LN (mem:List Int):Bool:=decide (mem.length<=512)&&mem.all DY
def Hi (mem:List Int) (a s:Int):Bool:=LN mem&&(Wb a s&&decide (a<=(mem.length:Int) - Y3 s))
theorem Yfs (mem:List Int) (a s:Int) (hl:mem.length < 1048577):Uv mem a s=some (Hi mem a s):=by
 have hb:=Pa s;have hf:Qw mem=some (!mem.all DY):=by
  unfold Qw Zau;refine tL mem (by omega) p8 DY (λr hr=>?_) _ (λm i=>rfl);unfold p8;rw[Ws];rfl
 unfold Uv Hi LN;rw[hf,Ag,tT,Ag,UX,Ag,Xd (by omega) (by omega)];by_cases h1:mem.length<=512
 .have h2:(mem.length:Int)<=512:=by omega
  by_cases h3:mem.all DY=true
  .by_cases h4:Wb a s=true<;>simp only[h1,h2,h3,h4,decide_true,if_true,D6,Ga,Hs,Mb,Iz,Bp,if_false]
  .simp[h1,h2,h3]
 .have h2:¬(mem.length:Int)<=512:=by omega
  simp[h1,h2]
theorem Ye8 (mem:List Int) (hl:mem.length < 1048577):ZU mem=some (LN mem):=by
 unfold ZU LN;have key:∀(n k:Nat),k<=mem.length->mem.length - k < n->lM mem n k=some (decide (mem.length<=512)&&(mem.drop k).all DY):=by
  intro n
  induction n with
  | zero=>intro k _ h;omega
  | succ n ih=>
   intro k hk hm;show Zus mem _ k=_;unfold Zus;by_cases hc:k < mem.length
   .rw[Ah (by simpa using hc),Zx hc,Ag,Xx,Ag,DG hc,Ef]
    by_cases hq:0<=mem[k]/\mem[k]<=255
    .rw[Ai (by simp[hq]),Z8 (by omega),ih (k+1) (by omega) (by omega)]
     simp[hq,DY]
    .rw[Ah (by simp[hq])]
     simp[hq,DY]
   .rw[Ai (by simpa using hc),Fu (by omega)]
    by_cases h1:mem.length<=512
    .have h2:(mem.length:Int)<=512:=by omega
     simp[h1,h2]
    .have h2:¬(mem.length:Int)<=512:=by omega
     simp[h1,h2]
 have:=key FU 0 (BM _) (by have:=Yx;omega);simpa using this
theorem Yjf (mem:List Int) (a s:Int) (hl:mem.length < 1048577):aN mem a s=some (Hi mem a s):=by
 have hb:=Pa s;unfold aN Hi;rw[Ye8 mem hl,Ag,tS,Ag,LI,Ag,Xd (by omega) (by omega)];by_cases h3:LN mem=true
 .by_cases h4:Wb a s=true<;>simp only[h3,h4,if_true,Hs,Iz,Bp,if_false]
 .simp[h3]
def E3 (mem:List Int):Nat->Int->Int
 | 0,_=>0
 | n+1,a=>Ak mem a+256*E3 mem n (a+1)
def Nq:Nat->List Int->Int->Int->List Int
 | 0,l,_,_=>l
 | n+1,l,a,v=>Nq n (l.set a.toNat (v % 256)) (a+1) (v / 256)
theorem Xaz:∀(n:Nat) (l:List Int) (a v:Int),(Nq n l a v).length=l.length:=by
 intro n
 induction n with
 | zero=>intro l a v;rfl
 | succ n ih=>intro l a v;simp only[Nq,ih,KQ]
theorem Y5q:∀(n:Nat) (l:List Int) (a v:Int),l.all DY=true->(Nq n l a v).all DY=true:=by
 intro n
 induction n with
 | zero=>intro l a v h;exact h
 | succ n ih=>
  intro l a v h;refine ih _ _ _ ?_;rw[Cf] at h ⊢;intro x hx;rcases Vx hx with hx|rfl
  .exact h x hx
  .have h1:0<=v % 256:=Tv _ (by omega)
   have h2:v % 256 < 256:=Ts _ (by omega);simp[DY];omega
theorem Yrr (mem:List Int):∀(n:Nat) (a:Int),E3 mem (n+1) a=E3 mem n a+256^n*Ak mem (a+n):=by
 intro n
 induction n with
 | zero=>intro a;simp[E3]
 | succ n ih=>
  intro a;rw[E3,ih (a+1),E3];rw[Int.mul_add,<-Int.mul_assoc,show (256:Int)*256^n=256^(n+1) by rw[Int.pow_succ,Tx],show a+1+(n:Int)=a+((n+1:Nat):Int) by omega];omega
theorem Y3i {mem:List Int} (h:mem.all DY=true):∀(n:Nat) (a:Int),0<=a->a+n<=(mem.length:Int)->0<=E3 mem n a/\E3 mem n a < 256^n:=by
 intro n
 induction n with
 | zero=>intro a _ _;simp[E3]
 | succ n ih=>
  intro a h0 h1;have h2:=ih (a+1) (by omega) (by omega);have h3:=Cf.1 h _ (G9 h0 (by omega:a < (mem.length:Int)));simp only[DY,Bl] at h3;simp only[E3];have e:(256:Int)^(n+1)=256*256^n:=by rw[Int.pow_succ,Tx]
  rw[e];omega
def Pd (mem:List Int) (a s:Int):Int:=E3 mem (Y3 s).toNat a
def Pe (mem:List Int) (a s v:Int):List Int:=Nq (Y3 s).toNat mem a v
theorem eU {mem:List Int} {a s:Int} (h:Hi mem a s=true):mem.length<=512/\mem.all DY=true/\0 < Y3 s/\0<=a/\a+Y3 s<=(mem.length:Int):=by
 simp only[Hi,LN,Bh,Bl] at h;have:=Jz h.2.1;exact⟨h.1.1,h.1.2,this.1,this.2.1,by omega⟩
theorem Yxv (k:Nat) (h:k<=4):(256:Int)^k=2^(8*k)/\(256:Int)^k<=4294967296:=by
 have:k=0\/k=1\/k=2\/k=3\/k=4:=by omega
 rcases this with rfl|rfl|rfl|rfl|rfl<;>decide
theorem Y1o {mem:List Int} {a s:Int} (h:Hi mem a s=true):qH mem a s=some (Pd mem a s,true):=by
 obtain⟨h1,h2,h3,h4,h5⟩:=eU h;have hb:=Pa s;unfold qH Pd;rw[Yfs mem a s (by omega),Ag,h,Ai (by simp),UX,Ag];have key:∀(r n k:Nat),r < n->(k:Int)+r=Y3 s->qG mem a s n (E3 mem k a) (Y3 s) k=some (E3 mem (k+r) a,true):=by
  intro r
  induction r with
  | zero=>
   intro n k hn hk;obtain⟨n,rfl⟩:∃m',n=m'+1:=⟨n - 1,by omega⟩;show cI mem a s _ (E3 mem k a) (Y3 s) k=_;unfold cI;rw[Ai (by simp;omega)];rfl
  | succ r ih=>
   intro n k hn hk;obtain⟨n,rfl⟩:∃m',n=m'+1:=⟨n - 1,by omega⟩;show cI mem a s _ (E3 mem k a) (Y3 s) k=_;unfold cI;have h6:0<=a+(k:Int):=by omega
   have h7:a+(k:Int) < (mem.length:Int):=by omega
   have h8:=Cf.1 h2 _ (G9 h6 h7);simp only[DY,Bl] at h8;have h9:=Y3i h2 k a h4 (by omega);have hp:=Yxv k (by omega);have XK:(0:Int) < 2^(8*k):=Int.pow_pos (by omega);have Eo:Ak mem (a+k)*2^(8*k)<=255*4294967296:=by
    rw[<-hp.1];exact Int.mul_le_mul h8.2 hp.2 (by rw[hp.1];omega) (by omega)
   rw[Ah (by simp;omega),Ye (by omega) (by omega),Xu h6 h7,Ag,Jj (by omega) (by omega),Y8l (by omega),Ag,show (8:Int)*(k:Int)=((8*k:Nat):Int) by omega,Xel (by omega) h8.1 (by omega),Xea h9.1 (by rw[<-hp.1];exact h9.2) h8.1 (by have:=h9.2;rw[hp.1] at this;have:=hp.2;rw[hp.1] at this;omega),Z8 (by omega)];have e:E3 mem k a+Ak mem (a+k)*2^(8*k)=E3 mem (k+1) a:=by
    rw[Yrr,hp.1,Tx]
   rw[e,ih n (k+1) (by omega) (by omega),show k+1+r=k+(r+1) by omega]
 have:=key (Y3 s).toNat FU 0 (by have:=Yx;omega) (by omega);simpa [E3] using this
theorem Y1q {mem:List Int} {a s:Int} (h:Hi mem a s=true):mV mem a s=some (Pd mem a s,true):=by
 obtain⟨h1,h2,h3,h4,h5⟩:=eU h;have hb:=Pa s;unfold mV Pd;rw[Yjf mem a s (by omega),Ag,h,Ai (by simp),LI,Ag,Xd (by omega) (by omega)];have key:∀(r n j:Nat) (v:Int),r < n->(r:Int)<=Y3 s->j+r<=4->0<=v->v < 256^j->mU mem a s n v ((r:Int) - 1)=some (v*256^r+E3 mem r a,true):=by
  intro r
  induction r with
  | zero=>
   intro n j v hn hk _ _ _;obtain⟨n,rfl⟩:∃m',n=m'+1:=⟨n - 1,by omega⟩;show aR mem a s _ v _=_;unfold aR;rw[Ai (by simp)];simp[E3]
  | succ r ih=>
   intro n j v hn hk hj hv DF;obtain⟨n,rfl⟩:∃m',n=m'+1:=⟨n - 1,by omega⟩;show aR mem a s _ v _=_;unfold aR;have h6:0<=a+(r:Int):=by omega
   have h7:a+(r:Int) < (mem.length:Int):=by omega
   have h8:=Cf.1 h2 _ (G9 h6 h7);simp only[DY,Bl] at h8;have hp:=(Yxv j (by omega)).2;have e1:(256:Int)^(r+1)=256^r*256:=Int.pow_succ ..;have e3:(256:Int)^(j+1)=256^j*256:=Int.pow_succ ..;have e2:(((r+1:Nat):Int) - 1)=(r:Int):=by omega
   rw[e2,Ah (by simp),Ye (by omega) (by omega),Xu h6 h7,Ag,Jj (by omega) (by omega),Ye (by omega) (by omega),Xd (by omega) (by omega),ih n (j+1) _ (by omega) (by omega) (by omega) (by omega) (by rw[e3];omega)];rw[Yrr,Int.add_mul,e1,Tx (256^r) 256,<-Int.mul_assoc,Tx (256^r) (Ak mem (a+r))]
   congr 2
   omega
 have:=key (Y3 s).toNat FU 0 0 (by have:=Yx;omega) (by omega) (by omega) (by omega) (by simp);rw[show ((Y3 s).toNat:Int)=Y3 s by omega] at this;simpa using this
theorem Vb (xs:List Int) (h:xs.length < 1048577):Xl xs=some xs:=by
 unfold Xl;rw[Yr (by simp;omega) (by simp;omega)];rfl
theorem eV (xs:List Int) (h:xs.length < 1048577):Y4 8 [] xs=some xs:=by
 rw[Yr (by simp;omega) (by simp;omega)];rfl
theorem Y2f {mem:List Int} {a s v:Int} (h:Hi mem a s=true) (hv:X3 v s=true):qF mem a s v=some (Pe mem a s v,true):=by
 obtain⟨h1,h2,h3,h4,h5⟩:=eU h;have hb:=Pa s;have hl:=S5 s;simp only[X3,Bl] at hv;unfold qF qE Pe;rw[Vb mem (by omega),Ag,Yfs mem a s (by omega),Ag,h,Ai (by simp),S7,Ag,UX,Ag];have hn:X3 v s=true:=by simp[X3,hv]
 rw[hn,Ai (by simp)];have key:∀(r n k:Nat) (l:List Int),r < n->(k:Int)+r=Y3 s->l.length=mem.length->qD mem a s v n l (Y3 s) k=some (Nq r l (a+k) (v / 256^k),true):=by
  intro r
  induction r with
  | zero=>
   intro n k l hn hk _;obtain⟨n,rfl⟩:∃m',n=m'+1:=⟨n - 1,by omega⟩;show cH mem a s v _ l (Y3 s) k=_;unfold cH;rw[Ai (by simp;omega)];rfl
  | succ r ih=>
   intro n k l hn hk CK;obtain⟨n,rfl⟩:∃m',n=m'+1:=⟨n - 1,by omega⟩;show cH mem a s v _ l (Y3 s) k=_;unfold cH;have h6:0<=a+(k:Int):=by omega
   have h7:a+(k:Int) < (l.length:Int):=by omega
   have hp:=Yxv k (by omega);have XK:(0:Int) < 256^k:=Int.pow_pos (by omega);have h8:0<=v / 256^k:=Int.ediv_nonneg hv.1 (by omega);have h9:v / 256^k<=v:=Int.ediv_le_self _ hv.1;rw[Ah (by simp;omega),Jj (by omega) (by omega),Y8l (by omega),Ag,Ye (a:=a) (by omega) (by omega),Xu h6 h7,Ag,Wy,Ag,show (8:Int)*(k:Int)=((8*k:Nat):Int) by omega,Xe1 (by omega) hv.1,<-hp.1,Xby h8 (by omega),Z8 (by omega),ih n (k+1) _ (by omega) (by omega) (by simp[CK])];simp only[Nq];rw[Int.ediv_ediv_of_nonneg (by omega),<-Int.pow_succ,show a+((k+1:Nat):Int)=a+k+1 by omega]
 have:=key (Y3 s).toNat FU 0 mem (by have:=Yx;omega) (by omega) rfl;simpa using this
theorem Y0y {mem:List Int} {a s v:Int} (h:Hi mem a s=true) (hv:X3 v s=true):mQ mem a s v=some (Pe mem a s v,true):=by
 obtain⟨h1,h2,h3,h4,h5⟩:=eU h;have hb:=Pa s;have hl:=S5 s;unfold mQ mP Pe;rw[eV mem (by omega),Ag,Yjf mem a s (by omega),Ag,h,Ai (by simp),LJ,Ag,S8,Ag,hv,Ai (by simp)];simp only[X3,Bl] at hv;have key:∀(r n k:Nat) (l:List Int) (x:Int),r < n->(k:Int)+r=Y3 s->l.length=mem.length->0<=x->x < 9223372036854775808->mO mem a s v n x l k=some (Nq r l (a+k) x,true):=by
  intro r
  induction r with
  | zero=>
   intro n k l x hn hk _ _ _;obtain⟨n,rfl⟩:∃m',n=m'+1:=⟨n - 1,by omega⟩;show aO mem a s v _ x l k=_;unfold aO;rw[LI,Ag,Ai (by simp;omega)];rfl
  | succ r ih=>
   intro n k l x hn hk CK hx D9;obtain⟨n,rfl⟩:∃m',n=m'+1:=⟨n - 1,by omega⟩;show aO mem a s v _ x l k=_;unfold aO;have h6:0<=a+(k:Int):=by omega
   have h7:a+(k:Int) < (l.length:Int):=by omega
   rw[LI,Ag,Ah (by simp;omega),Ye (a:=a) (by omega) (by omega),Xu h6 h7,Ag,Wy,Ag,HA hx,tK hx D9 (by omega),Z8 (by omega),ih n (k+1) _ _ (by omega) (by omega) (by simp[CK]) (by omega) (by omega)];simp only[Nq];rw[show a+((k+1:Nat):Int)=a+k+1 by omega]
 have:=key (Y3 s).toNat FU 0 mem v (by have:=Yx;omega) (by omega) rfl hv.1 (by omega);simpa using this
def Zn.sm (d:Zn):Prop:=d.AD.length < 1048577/\d.A2.length < 1048577
def SB (d:Zn):Bool:=decide (d.AD.length=4)&&(d.AD.all (λv=>X3 v 2)&&(X3 d.timer 2&&(decide (d.A2.length<=4)&&d.A2.all λv=>X3 v 2)))
theorem Yoa (d:Zn) (hs:d.sm):cB d=some (SB d):=by
 have hf:∀xs:List Int,xs.length < 1048577->Wg xs=some (!xs.all λv=>X3 v 2):=by
  intro xs hl;unfold Wg Zam;refine tL xs (by omega) p9 (λv=>X3 v 2) (λr hr=>?_) _ (λm i=>rfl);unfold p9;rw[S7];rfl
 unfold cB SB;rw[hf _ hs.1,Ag,hf _ hs.2,Ag,S7,Ag];by_cases h1:d.AD.length=4
 .have h2:(d.AD.length:Int)=4:=by omega
  by_cases h3:d.A2.length<=4
  .have h4:(d.A2.length:Int)<=4:=by omega
   cases h5:(d.AD.all λv=>X3 v 2)<;>cases h6:(d.A2.all λv=>X3 v 2)<;>cases h7:X3 d.timer 2<;>simp[h1,h2,h3,h4]
  .have h4:¬(d.A2.length:Int)<=4:=by omega
   simp[h1,h2,h3,h4]
 .have h2:¬(d.AD.length:Int)=4:=by omega
  simp[h1,h2]
theorem Ygs (xs:List Int) (hl:xs.length < 1048577):ZV xs=some (xs.all λv=>X3 v 2):=by
 unfold ZV;have key:∀(n k:Nat),k<=xs.length->xs.length - k < n->lN xs n k=some ((xs.drop k).all λv=>X3 v 2):=by
  intro n
  induction n with
  | zero=>intro k _ h;omega
  | succ n ih=>
   intro k hk hm;show Zuu xs _ k=_;unfold Zuu;by_cases hc:k < xs.length
   .rw[Ah (by simpa using hc),Zx hc,Ag,LJ,Ag,S8,Ag,DG hc,Ef]
    by_cases hq:X3 xs[k] 2=true
    .rw[Ai (by simp[hq]),Z8 (by omega),ih (k+1) (by omega) (by omega)]
     simp[hq]
    .rw[Ah (by simp[hq])]
     simp[hq]
   .rw[Ai (by simpa using hc),Fu (by omega)]
    rfl
 have:=key FU 0 (BM _) (by have:=Yx;omega);simpa using this
theorem Ylv (d:Zn) (hs:d.sm):ZW d=some (SB d):=by
 unfold ZW SB;rw[Ygs _ hs.1,Ag,Ygs _ hs.2,Ag,LJ,Ag,S8,Ag];by_cases h1:d.AD.length=4
 .have h2:(d.AD.length:Int)=4:=by omega
  by_cases h3:d.A2.length<=4
  .have h4:(d.A2.length:Int)<=4:=by omega
   cases h5:(d.AD.all λv=>X3 v 2)<;>cases h6:(d.A2.all λv=>X3 v 2)<;>cases h7:X3 d.timer 2<;>simp[h1,h2,h3,h4]
  .have h4:¬(d.A2.length:Int)<=4:=by omega
   cases h5:(d.AD.all λv=>X3 v 2)<;>cases h7:X3 d.timer 2<;>simp[h1,h2,h3,h4]
 .have h2:¬(d.AD.length:Int)=4:=by omega
  simp[h1,h2]
structure Pf (d:Zn):Prop where
 AD:d.AD.length=4
 B1:∀v∈d.AD,X3 v 2=true
 timer:X3 d.timer 2=true
 len:d.A2.length<=4
 A2:∀v∈d.A2,X3 v 2=true
theorem Yqw {d:Zn}:SB d=true↔Pf d:=by
 simp only[SB,Bh,Bl,Cf];constructor
 .intro h;exact⟨h.1,h.2.1,h.2.2.1,h.2.2.2.1,h.2.2.2.2⟩
 .intro h;exact⟨h.AD,h.B1,h.timer,h.len,h.A2⟩
theorem Pf.sm {d:Zn} (h:Pf d):d.sm:=⟨by have:=h.AD;omega,by have:=h.len;omega⟩
theorem Yjg (d:Zn) (hs:d.sm):cA d=some d:=by
 unfold cA;rw[Vb _ hs.1,Ag,Vb _ hs.2];rfl
theorem Yim (d:Zn) (hs:d.sm):aG d=some d:=by
 unfold aG;rw[eV _ hs.1,Ag,eV _ hs.2];rfl
def ER (d:Zn) (w:Bool) (a v:Int):Zn×Int×Bool:=
 if (w&&!X3 v 2)=true then (d,0,false) else
 if a=16 then (if w then ({d with timer:=v},v,true) else ({d with timer:=(d.timer+1) % 4294967296},d.timer,true)) else
 if a=20 then (if w then (if d.A2.length < 4 then ({d with A2:=d.A2++[v]},v,true) else (d,0,false)) else (if d.A2=[] then (d,0,false) else ({d with A2:=d.A2.tail},Ak d.A2 0,true))) else
 if (0<=a/\a < 16)/\a % 4=0 then (if w then ({d with AD:=d.AD.set (a / 4).toNat v},v,true) else (d,Ak d.AD (a / 4),true)) else (d,0,false)
theorem SC {v:Int} (h:X3 v 2=true):0<=v/\v < 4294967296:=by
 simpa [X3,Hh] using h
theorem Y65 {d:Zn} (w:Bool) (a v:Int) (h:Pf d):qC d w a v=some (ER d w a v):=by
 have ht:=SC h.timer;have hl:=h.len;have hr:=h.AD;unfold qC;rw[Yjg d h.sm,Ag,Yoa d h.sm,Ag,Yqw.2 h,S7,Ag];have hJ:Sf d w a v d false=some (if a=16 then (if w then ({d with timer:=v},v,true) else ({d with timer:=(d.timer+1) % 4294967296},d.timer,true)) else
 if a=20 then (if w then (if d.A2.length < 4 then ({d with A2:=d.A2++[v]},v,true) else (d,0,false)) else (if d.A2=[] then (d,0,false) else ({d with A2:=d.A2.tail},Ak d.A2 0,true))) else
 if (0<=a/\a < 16)/\a % 4=0 then (if w then ({d with AD:=d.AD.set (a / 4).toNat v},v,true) else (d,Ak d.AD (a / 4),true)) else (d,0,false)):=by
  unfold Sf qB cG cF cE;by_cases KC:a=16
  .subst KC
   rw[Yea,Ag,show Hh 2=4294967296 from rfl,JU (by omega),Ye (by omega) (by omega),HA (by omega)];cases w<;>simp
  .by_cases KD:a=20
   .subst KD
    cases w with
    | true=>
     by_cases h3:d.A2.length < 4
     .have h4:(d.A2.length:Int) < 4:=by omega
      rw[Yr (by simp;omega) (by simp;omega)];simp[h3,h4]
     .have h4:¬(d.A2.length:Int) < 4:=by omega
      simp[h3,h4]
    | false=>
     by_cases h3:d.A2=[]
     .simp[h3]
     .have h4:0 < d.A2.length:=Cq.2 h3
      have h5:(d.A2.length:Int) > 0:=by omega
      rw[Xu (by omega) (by omega),Ag,tZ _ h3 (by omega),Ag,Vb _ (by simp;omega)];simp[h3,h5]
   .by_cases h3:(0<=a/\a < 16)/\a % 4=0
    .obtain⟨⟨h4,h5⟩,h6⟩:=h3
     have h7:¬a≥16:=by omega
     have h8:¬a < 0:=by omega
     rw[tK h4 (by omega) (by omega),Xu (xs:=d.AD) (by omega) (by omega),Ag,Ag,Wy,HA h4];cases w<;>simp[KC,KD,h4,h5,h6,h7,h8]
    .by_cases h4:a≥16
     .have h5:¬a < 16:=by omega
      cases w<;>simp[KC,KD,h4,h5]
     .by_cases h5:a < 0
      .have h6:¬0<=a:=by omega
       cases w<;>simp[KC,KD,h4,h5,h6]
      .have h6:a % 4≠0:=λh=>h3 ⟨by omega,h⟩
       rw[HA (by omega)];cases w<;>simp[KC,KD,h4,h5,h6]
 unfold ER;cases w with
 | false=>simp only[D6,Bp,if_false,Iz];exact hJ
 | true=>
  by_cases hv:X3 v 2=true
  .simp only[hv,D6,Bp,if_false,if_true,VA]
   exact hJ
  .simp[hv,Sf]
theorem Y6i {d:Zn} (w:Bool) (a v:Int) (h:Pf d):mT d w a v=some (ER d w a v):=by
 have ht:=SC h.timer;have hl:=h.len;have hr:=h.AD;unfold mT;rw[Yim d h.sm,Ag,Ylv d h.sm,Ag,Yqw.2 h,LJ,Ag,S8,Ag];have hJ:∀_:C4 a 4=0,MR d w a v d false=some (if a=16 then (if w then ({d with timer:=v},v,true) else ({d with timer:=(d.timer+1) % 4294967296},d.timer,true)) else
 if a=20 then (if w then (if d.A2.length < 4 then ({d with A2:=d.A2++[v]},v,true) else (d,0,false)) else (if d.A2=[] then (d,0,false) else ({d with A2:=d.A2.tail},Ak d.A2 0,true))) else
 if (0<=a/\a < 16)/\a % 4=0 then (if w then ({d with AD:=d.AD.set (a / 4).toNat v},v,true) else (d,Ak d.AD (a / 4),true)) else (d,0,false)):=by
  intro LO;unfold MR mS mR aQ aP;rw[Xx,Ag,Ag];by_cases KC:a=16
  .subst KC
   rw[LJ,Ag,show Hh 2=4294967296 from rfl,JU (by omega),Ye (by omega) (by omega),HA (by omega)];cases w<;>simp
  .by_cases KD:a=20
   .subst KD
    cases w with
    | true=>
     by_cases h3:d.A2.length < 4
     .have h4:(d.A2.length:Int) < 4:=by omega
      rw[Yr (by simp;omega) (by simp;omega)];simp[h3,h4]
     .have h4:¬(d.A2.length:Int) < 4:=by omega
      simp[h3,h4]
    | false=>
     by_cases h3:d.A2=[]
     .simp[h3]
     .have h4:0 < d.A2.length:=Cq.2 h3
      have h5:(d.A2.length:Int) > 0:=by omega
      rw[Xu (xs:=d.A2) (by omega) (by omega),Ag,tZ _ h3 (by omega),Ag];simp[h3,h5]
   .by_cases h3:0<=a/\a < 16
    .rw[HA h3.1] at LO
     have h4:0<=a/\a<=12:=by omega
     rw[tK h3.1 (by omega) (by omega),Xu (xs:=d.AD) (by omega) (by omega),Ag,Ag,Wy];cases w<;>simp[KC,KD,h3,h4,LO]
    .have h4:¬(0<=a/\a<=12):=by omega
     cases w<;>simp[KC,KD,h3,h4]
 unfold ER;by_cases LO:C4 a 4=0
 .rw[Ai (by simp),Ai (by simp[LO])]
  cases w with
  | false=>simp only[Bp,if_false,Iz];exact hJ LO
  | true=>
   by_cases hv:X3 v 2=true
   .simp only[hv,D6,Bp,if_false,if_true,VA]
    exact hJ LO
   .simp[hv,MR]
 .have KC:a≠16:=λh=>LO (by subst h;rfl)
  have KD:a≠20:=λh=>LO (by subst h;rfl);have h3:¬((0<=a/\a < 16)/\a % 4=0):=λh=>LO (by rw[HA h.1.1];exact h.2);rw[Ai (by simp),Ah (by simp[LO])];simp only[KC,KD,h3,if_false,MR,if_true];split<;>rfl
theorem Xei {xs:List Int} {p:Int->Prop} (h:∀x∈xs,p x) {k:Nat} {v:Int} (hv:p v):∀x∈xs.set k v,p x:=by
 intro x hx;rcases Vx hx with hx|rfl
 .exact h x hx
 .exact hv
theorem Xbe {d:Zn} {w:Bool} {a v:Int} (h:Pf d):Pf (ER d w a v).1/\((ER d w a v).2.2=true->X3 (ER d w a v).2.1 2=true):=by
 have ht:=SC h.timer;have hl:=h.len;unfold ER;split
 .exact⟨h,by simp⟩
 .rename_i hw
  have hv:w=true->X3 v 2=true:=by
   intro h1;rw[h1] at hw;simpa using hw
  split
  .split
   .rename_i h1
    exact⟨⟨h.AD,h.B1,hv h1,h.len,h.A2⟩,λ_=>hv h1⟩
   .refine⟨⟨h.AD,h.B1,?_,h.len,h.A2⟩,λ_=>h.timer⟩
    have:Hh 2=4294967296:=rfl;simp only[X3,this,Bl];omega
  .split
   .split
    .rename_i h1
     split
     .rename_i h2
      refine⟨⟨h.AD,h.B1,h.timer,by simp;omega,λx hx=>?_⟩,λ_=>hv h1⟩;rcases BP.1 hx with hx|hx
      .exact h.A2 x hx
      .rw[List.mem_singleton.1 hx];exact hv h1
     .exact⟨h,by simp⟩
    .split
     .exact⟨h,by simp⟩
     .rename_i h2
      have h4:0 < d.A2.length:=Cq.2 h2;refine⟨⟨h.AD,h.B1,h.timer,by simp;omega,λx hx=>h.A2 x (List.mem_of_mem_tail hx)⟩,λ_=>h.A2 _ (G9 (by omega) (by omega))⟩
   .split
    .rename_i h3
     split
     .rename_i h1
      exact⟨⟨by simp[h.AD],Xei h.B1 (hv h1),h.timer,h.len,h.A2⟩,λ_=>hv h1⟩
     .refine⟨h,λ_=>h.B1 _ (G9 (by omega) (by have:=h.AD;omega))⟩
    .exact⟨h,by simp⟩
def Y9 (a:Int):Int:=if a < 0\/224<=a then 0 else if a < 128 then 1 else if a < 192 then 2 else 3
theorem Z36 (a:Int):cC a=some (Y9 a):=by
 unfold cC qA Y9;by_cases h1:a < 0
 .simp[h1]
 .by_cases h2:a≥224
  .simp[h1,h2]
  .by_cases h3:a < 128
   .simp[h1,h2,h3]
   .by_cases h4:a < 192<;>simp[h1,h2,h3,h4]
theorem Yef (a:Int):mN a=some (Y9 a):=by
 rw[<-Z36];rfl
def Zf.sm (m:Zf):Prop:=m.mem.length < 1048577/\m.dev.sm
def SD (m:Zf):Bool:=decide (m.mem.length=192)&&(m.mem.all DY&&SB m.dev)
structure Ep (m:Zf):Prop where
 len:m.mem.length=192
 bytes:m.mem.all DY=true
 dev:Pf m.dev
theorem eW {m:Zf}:SD m=true↔Ep m:=by
 simp only[SD,Bh,Bl,Yqw];constructor
 .intro h;exact⟨h.1,h.2.1,h.2.2⟩
 .intro h;exact⟨h.len,h.bytes,h.dev⟩
theorem Ep.sm {m:Zf} (h:Ep m):m.sm:=⟨by have:=h.len;omega,h.dev.sm⟩
theorem Yem (m:Zf) (hs:m.sm):Se m=some (SD m):=by
 unfold Se SD;rw[Yfs m.mem 0 0 hs.1,Ag,Yoa m.dev hs.2,Ag];by_cases h1:m.mem.length=192
 .have h2:(m.mem.length:Int)=192:=by omega
  have h3:Hi m.mem 0 0=m.mem.all DY:=by
   simp[Hi,LN,h1,Wb,Y3]
  rw[h3];cases h4:m.mem.all DY<;>simp[h1,h2]
 .have h2:¬(m.mem.length:Int)=192:=by omega
  simp[h1,h2]
theorem Yeb (m:Zf) (hs:m.sm):ZX m=some (SD m):=by
 unfold ZX SD;rw[Ye8 m.mem hs.1,Ag,Ylv m.dev hs.2,Ag];by_cases h1:m.mem.length=192
 .have h2:(m.mem.length:Int)=192:=by omega
  have h3:LN m.mem=m.mem.all DY:=by
   simp[LN,h1]
  rw[h3];cases h4:m.mem.all DY<;>simp[h1,h2]
 .have h2:¬(m.mem.length:Int)=192:=by omega
  simp[h1,h2]
theorem Z05 (m:Zf) (hs:m.sm):Uu m=some m:=by
 unfold Uu;rw[Vb _ hs.1,Ag,Yjg _ hs.2];rfl
theorem Yik (m:Zf) (hs:m.sm):aH m=some m:=by
 unfold aH;rw[eV _ hs.1,Ag,Yim _ hs.2];rfl
def Q9 (m:Zf) (w:Bool) (a s v:Int):Zf×Int×Int:=
 if (Wb a s&&!(w&&!X3 v s))=true then
  (if Y9 a=1\/Y9 a=2 then (if w then ({m with mem:=Pe m.mem a s v},v,0) else (m,Pd m.mem a s,0))
  else if Y9 a=3/\s=2 then (if (ER m.dev w (a - 192) v).2.2=true then ({m with dev:=(ER m.dev w (a - 192) v).1},(ER m.dev w (a - 192) v).2.1,0) else (m,0,1))
  else (m,0,1))
 else (m,0,1)
theorem Y8v {a:Int} (h:Y9 a=1\/Y9 a=2):0<=a/\a < 192:=by
 unfold Y9 at h
 repeat' split at h
 all_goals omega
theorem Yr7 {a:Int} (h:Y9 a=3):192<=a/\a < 224:=by
 unfold Y9 at h
 repeat' split at h
 all_goals omega
theorem Ylc {m:Zf} {a s:Int} (h:Ep m) (ha:Wb a s=true) (hs:Y9 a=1\/Y9 a=2):Hi m.mem a s=true:=by
 have h1:=Y8v hs;have h2:=h.len;have h3:=Jz ha;have h4:a+Y3 s<=192:=by
  have h5:=(S9 s).1 h3.1;have h6:s=0\/s=1\/s=2:=by omega
  have h7:=h3.2.2;rcases h6 with rfl|rfl|rfl<;>simp[Y3] at h7 ⊢<;>omega
 simp only[Hi,LN,Bh,Bl];exact⟨⟨by omega,h.bytes⟩,ha,by omega⟩
theorem Ydu {m:Zf} (w:Bool) (a s v:Int) (h:Ep m):cJ m w a s v=some (Q9 m w a s v):=by
 unfold cJ Q9;rw[Z05 m h.sm,Ag,Yem m h.sm,Ag,eW.2 h,tT,Ag,S7,Ag,Ai (by simp)];by_cases ha:Wb a s=true
 .rw[ha,Ai (by simp)]
  have hJ:(w=true->X3 v s=true)->MW m w a s v m false=some (if Y9 a=1\/Y9 a=2 then (if w then ({m with mem:=Pe m.mem a s v},v,0) else (m,Pd m.mem a s,0))
  else if Y9 a=3/\s=2 then (if (ER m.dev w (a - 192) v).2.2=true then ({m with dev:=(ER m.dev w (a - 192) v).1},(ER m.dev w (a - 192) v).2.1,0) else (m,0,1))
  else (m,0,1)):=by
   intro hw;unfold MW;rw[Ai (by simp),Z36,Ag];unfold qJ qI Uw;rw[Z05 m h.sm,Ag];by_cases h1:Y9 a=1\/Y9 a=2
   .have h3:¬Y9 a=3:=by omega
    have hf:=Ylc h ha h1;cases w with
    | true=>
     rw[Y2f hf (hw rfl),Ag];rcases h1 with h1|h1<;>simp[h1,h3]
    | false=>
     rw[Y1o hf,Ag];rcases h1 with h1|h1<;>simp[h1,h3]
   .have h2:¬Y9 a=1:=λh=>h1 (.inl h)
    have h4:¬Y9 a=2:=λh=>h1 (.inr h);by_cases h3:Y9 a=3
    .have h5:=Yr7 h3
     rw[Xd (by omega) (by omega),Y65 w _ v h.dev,Ag];by_cases h6:s=2
     .by_cases h7:(ER m.dev w (a - 192) v).2.2=true<;>simp[h3,h6,h7]
     .simp[h3,h6]
    .simp[h2,h3,h4]
  cases w with
  | false=>
   simp only[Bp,if_false,Iz,Ga,Ma,if_true];exact hJ (by simp)
  | true=>
   by_cases hv:X3 v s=true
   .simp only[hv,D6,if_true,VA,Ga,Ma]
    exact hJ (λ_=>hv)
   .simp[hv,MW]
 .simp[ha,MW]
theorem Z4w {m:Zf} (w:Bool) (a s v:Int) (h:Ep m):TT m w a s v=some (Q9 m w a s v):=by
 unfold TT Q9;rw[Yik m h.sm,Ag,Yeb m h.sm,Ag,eW.2 h,tS,Ag,LJ,Ag,S8,Ag,Ai (by simp)];by_cases ha:Wb a s=true
 .rw[ha,Ai (by simp)]
  have hJ:(w=true->X3 v s=true)->MS m w a s v m false=some (if Y9 a=1\/Y9 a=2 then (if w then ({m with mem:=Pe m.mem a s v},v,0) else (m,Pd m.mem a s,0))
  else if Y9 a=3/\s=2 then (if (ER m.dev w (a - 192) v).2.2=true then ({m with dev:=(ER m.dev w (a - 192) v).1},(ER m.dev w (a - 192) v).2.1,0) else (m,0,1))
  else (m,0,1)):=by
   intro hw;unfold MS;rw[Ai (by simp),Yef,Ag];unfold mY mX;by_cases h1:Y9 a=1\/Y9 a=2
   .have h3:¬Y9 a=3:=by omega
    have hf:=Ylc h ha h1;cases w with
    | true=>
     rw[Y0y hf (hw rfl),Ag];rcases h1 with h1|h1<;>simp[h1,h3]
    | false=>
     rw[Y1q hf,Ag];rcases h1 with h1|h1<;>simp[h1,h3]
   .have h2:¬Y9 a=1:=λh=>h1 (.inl h)
    have h4:¬Y9 a=2:=λh=>h1 (.inr h);by_cases h3:Y9 a=3
    .have h5:=Yr7 h3
     rw[Xd (by omega) (by omega),Y6i w _ v h.dev,Ag];by_cases h6:s=2
     .by_cases h7:(ER m.dev w (a - 192) v).2.2=true<;>simp[h3,h6,h7]
     .simp[h3,h6]
    .simp[h2,h3,h4]
  cases w with
  | false=>
   simp only[Bp,if_false,Iz,Ga,Ma,if_true];exact hJ (by simp)
  | true=>
   by_cases hv:X3 v s=true
   .simp only[hv,D6,if_true,VA,Ga,Ma]
    exact hJ (λ_=>hv)
   .simp[hv,MS]
 .simp[ha,MS]
theorem Y91 (s:Int) (h:0 < Y3 s):(256:Int)^(Y3 s).toNat=Hh s:=by
 have h1:=(S9 s).1 h;have:s=0\/s=1\/s=2:=by omega
 rcases this with rfl|rfl|rfl<;>decide
theorem Yam {m:Zf} {w:Bool} {a s v:Int} (h:Ep m) (hs:Wb a s=true):Ep (Q9 m w a s v).1/\X3 (Q9 m w a s v).2.1 s=true/\((Q9 m w a s v).2.2=0\/(Q9 m w a s v).2.2=1):=by
 have hp:=Jz hs;have hz:X3 0 s=true:=by
  have h1:=(S9 s).1 hp.1;have:s=0\/s=1\/s=2:=by omega
  rcases this with rfl|rfl|rfl<;>decide
 unfold Q9;split
 .rename_i h1
  split
  .rename_i h2
   have hf:=Ylc h hs h2;split
   .rename_i hw
    have hv:X3 v s=true:=by
     rw[hw] at h1;simpa [hs] using h1
    exact⟨⟨by simp only[Pe,Xaz,h.len],Y5q _ _ _ _ h.bytes,h.dev⟩,hv,.inl rfl⟩
   .obtain⟨h3,h4,h5,h6,h7⟩:=eU hf
    have h8:=Y3i h4 (Y3 s).toNat a h6 (by omega);rw[Y91 s h5] at h8;exact⟨h,by simp only[X3,Pd];exact decide_eq_true h8,.inl rfl⟩
  .split
   .rename_i h3
    split
    .rename_i h4
     have h5:=Xbe (w:=w) (a:=a - 192) (v:=v) h.dev;have h6:=h5.2 h4;rw[h3.2];exact⟨⟨h.len,h.bytes,h5.1⟩,h6,.inl rfl⟩
    .exact⟨h,hz,.inr rfl⟩
   .exact⟨h,hz,.inr rfl⟩
 .exact⟨h,hz,.inr rfl⟩
def Xc (p:Option Bool) (P:Prop):Prop:=∃r,p=some r/\(r=true↔P)
theorem Xc.of {b:Bool} {P:Prop} (h:b=true↔P):Xc (some b) P:=⟨b,rfl,h⟩
theorem Xc.iff {p:Option Bool} {P Q:Prop} (h:Xc p P) (e:P↔Q):Xc p Q:=by
 obtain⟨r,h1,h2⟩:=h;exact⟨r,h1,h2.trans e⟩
theorem Xc.yes {P:Prop} (h:P):Xc (some true) P:=⟨true,rfl,by simp[h]⟩
theorem Xc.no {P:Prop} (h:¬P):Xc (some false) P:=⟨false,rfl,by simp[h]⟩
theorem Xc.eq {p q:Option Bool} {P:Prop} (h:Xc p P) (h':Xc q P):∃r,p=some r/\q=some r/\(r=true↔P):=by
 obtain⟨r,h1,h2⟩:=h;obtain⟨r',h3,h4⟩:=h';have:r=r':=by
  cases r<;>cases r'<;>simp_all
 subst this;exact⟨r,h1,h3,h2⟩
theorem Xc.AE {x:Option Bool} {P Q:Prop} {f:Bool->Option Bool} (h:Xc x P) (h1:P->Xc (f true) Q) (h2:¬P->Xc (f false) Q):Xc (x.bind f) Q:=by
 obtain⟨r,rfl,hr⟩:=h;rw[Ag];cases r with
 | true=>exact h1 (hr.1 rfl)
 | false=>exact h2 (λhp=>by simpa using hr.2 hp)
theorem Xc.and {x y:Option Bool} {P Q:Prop} (h:Xc x P) (h1:P->Xc y Q):Xc (x.bind λr=>if r=true then y else some false) (P/\Q):=by
 refine h.AE (λhp=>?_) (λhp=>?_)
 .rw[Ah rfl];exact (h1 hp).iff ⟨λq=>⟨hp,q⟩,λq=>q.2⟩
 .rw[Ai (by simp)];exact .no λq=>hp q.1
section
variable {σ:Type}
theorem uA {n:Nat} (hn:n < 4611686018427387904) {P:Nat->Prop} {Q:Prop} (st:Nat->σ) {B:(σ->Int->Option Bool)->σ->Int->Option Bool} {L:Nat->σ->Int->Option Bool} (hL:∀m s i,L (m+1) s i=B (L m) s i)
  (hs:∀k,k < n->(P k/\∀κ,B κ (st k) (k:Int)=κ (st (k+1)) (Zl (k:Int) 1))\/(¬P k/\∀κ,B κ (st k) (k:Int)=some false))
  (hf:(∀k,k < n->P k)->∃r,(∀κ,B κ (st n) (n:Int)=some r)/\(r=true↔Q)):Xc (L FU (st 0) 0) ((∀k,k < n->P k)/\Q):=by
 have key:∀(m k:Nat),k<=n->n - k < m->(∀j,j < k->P j)->Xc (L m (st k) (k:Int)) ((∀j,j < n->P j)/\Q):=by
  intro m
  induction m with
  | zero=>intro k _ h;omega
  | succ m ih=>
   intro k hk hm hp;rw[hL];by_cases hc:k < n
   .rcases hs k hc with⟨h1,h2⟩|⟨h1,h2⟩
    .rw[h2,Z8 (by omega)]
     refine ih (k+1) (by omega) (by omega) λj hj=>?_;by_cases eX:j=k
     .subst eX;exact h1
     .exact hp j (by omega)
    .rw[h2];exact .no λq=>h1 (q.1 k hc)
   .have:k=n:=by omega
    subst this;obtain⟨r,hr,hq⟩:=hf hp;rw[hr];exact .of ⟨λh=>⟨hp,hq.1 h⟩,λh=>hq.2 h.2⟩
 have:=key FU 0 (BM _) (by have:=Yx;omega) (λj hj=>by omega);simpa using this
theorem eY {n:Nat} (hn:n < 4611686018427387904) {P:Nat->Prop} {Q:Prop} {B:(Int->Option Bool)->Int->Option Bool} {L:Nat->Int->Option Bool} (hL:∀m i,L (m+1) i=B (L m) i)
  (hs:∀k,k < n->(P k/\∀κ,B κ (k:Int)=κ (Zl (k:Int) 1))\/(¬P k/\∀κ,B κ (k:Int)=some false))
  (hf:(∀k,k < n->P k)->∃r,(∀κ,B κ (n:Int)=some r)/\(r=true↔Q)):Xc (L FU 0) ((∀k,k < n->P k)/\Q):=
 uA (σ:=Unit) hn (λ_=>()) (B:=λκ _ i=>B (κ ()) i) (L:=λm _ i=>L m i) (λm _ i=>hL m i) (λk hk=>(hs k hk).imp (λh=>⟨h.1,λκ=>h.2 _⟩) λh=>⟨h.1,λκ=>h.2 _⟩)
  (λh=>by obtain⟨r,h1,h2⟩:=hf h;exact⟨r,λκ=>h1 _,h2⟩)
end
instance:Inhabited Zt:=⟨Zt.z0⟩
instance:Inhabited Zi:=⟨Zi.z0⟩
def Yu (m:Zh):Bool:=decide (m.queue≠[])&&((Ak m.queue 0).lock&&!m.broken)
def C1 (b:Za) (i:Int):Int:=(if b.addr.live=true/\b.addr.Aj=i then 1 else 0)+(if b.Aa.live=true/\b.Aa.Aj=i then 1 else 0)
structure Ij (c:Zg) (b:Za) (i:Int):Prop where
 right:Y2 (Ak b.m i)
 tries:(Ak b.m i).tries<=c.An
 bucket:Y5 (Ak b.buckets i) (Ak c.Ab i)=true
 split:0<=Ak b.splits i/\Ak b.splits i<=c.Ap
def DA (b:Za) (x:Zi):Prop:=Zo b.Ae x.Aj=true/\(1<=x.B5/\x.B5<=3)/\Ak b.splits x.Aj=0
def J8 (b:Za):Prop:=if b.addr.live=true then b.addr.Ao=(Ak b.m b.addr.Aj).Ao - 1/\b.addr.left=0/\b.addr.Ar=0/\b.addr.second=false else b.addr=Zi.z0
def K5 (b:Za):Prop:=if b.Aa.live=true then
  (b.Aa.Ao=(Ak b.m b.Aa.Aj).done/\(0<=b.Aa.left/\b.Aa.left<=b.Ae.As+2)/\(0<=b.Aa.Ar/\b.Aa.Ar<=3))/\
  (b.Aa.Ar=2->(Ak b.m b.Aa.Aj).tries < b.Ae.An)/\(b.Aa.Ar=3->(Ak b.m b.Aa.Aj).Ay=false/\b.Aa.Aj≠b.Af)/\
  (b.Aa.second=true->b.Aa.left=0/\b.Aa.Ar≠0/\b.addr.live=false)
 else b.Aa=Zi.z0
def GF (b:Za):Prop:=(∀i,Zo b.Ae i=true->(Ak b.m i).Ao > 0->Yu (Ak b.m i)=true->b.Af=i)/\
 (if b.Af=-1 then b.held=0 else Zo b.Ae b.Af=true/\Yu (Ak b.m b.Af)=true/\Ak b.splits b.Af=0/\(0<=b.held/\b.held<=b.Ae.Al))
def SE (c:Zg) (now:Int) (d:Zt):Prop:=(0<=d.A5/\d.A5 < now)/\Zo c d.Aj=true/\Wb d.addr d.size=true/\d.addr < 512/\X3 d.value d.size=true/\(d.Ar=0\/d.Ar=1)
def Nr (b:Za):Prop:=(∀d∈b.log,SE b.Ae b.now d)/\b.log.Pairwise λx y=>x.A5 < y.A5
structure De (b:Za):Prop where
 Ae:Yq b.Ae=true
 now:0<=b.now/\b.now<=4000
 ml:b.m.length=b.Ae.Ab.length
 bl:b.buckets.length=b.Ae.Ab.length
 sl:b.splits.length=b.Ae.Ab.length
 By:∀i,Zo b.Ae i=true->Ij b.Ae b i
 Bo:CN b.Bo b.Ae=true
 last:b.last=-1\/Zo b.Ae b.last=true
 model:Ep b.model
 Aw:0<=b.Aw/\b.Aw<=b.now
 alive:b.addr.live=true->DA b b.addr
 B9:b.Aa.live=true->DA b b.Aa
 D1:∀i,Zo b.Ae i=true->(Ak b.m i).Ao - (Ak b.m i).done=C1 b i
 addr:J8 b
 data:K5 b
 held:GF b
 log:Nr b
structure Za.sm (b:Za):Prop where
 Ae:b.Ae.Ab.length < 1048577
 ml:b.m.length < 1048577
 By:∀x∈b.m,x.sm
 bl:b.buckets.length < 1048577
 sl:b.splits.length < 1048577
 model:b.model.sm
 log:b.log.length < 1048577
theorem Gk {c:Zg} {k:Nat} (h:k < c.Ab.length):Zo c (k:Int)=true:=by simp[Zo,h]
theorem eZ {c:Zg} {i:Int} (h:Zo c i=true):∃k:Nat,i=(k:Int)/\k < c.Ab.length:=by
 simp only[Zo,Bl] at h;exact⟨i.toNat,by omega,by omega⟩
theorem Vc {c:Zg} {P:Int->Prop}:(∀i,Zo c i=true->P i)↔∀k:Nat,k < c.Ab.length->P (k:Int):=by
 constructor
 .intro h k hk;exact h _ (Gk hk)
 .intro h i hi
  obtain⟨k,rfl,hk⟩:=eZ hi;exact h k hk
theorem Wx {b:Za} (hl:b.m.length=b.Ae.Ab.length) {i:Int} (h:Zo b.Ae i=true):idx b.m i=some (Ak b.m i):=by
 simp only[Zo,Bl] at h;exact Xu h.1 (by omega)
theorem Vd {b:Za} (hl:b.buckets.length=b.Ae.Ab.length) {i:Int} (h:Zo b.Ae i=true):idx b.buckets i=some (Ak b.buckets i):=by
 simp only[Zo,Bl] at h;exact Xu h.1 (by omega)
theorem Ik {b:Za} (hl:b.splits.length=b.Ae.Ab.length) {i:Int} (h:Zo b.Ae i=true):idx b.splits i=some (Ak b.splits i):=by
 simp only[Zo,Bl] at h;exact Xu h.1 (by omega)
theorem Pg {c:Zg} {i:Int} (h:Zo c i=true):idx c.Ab i=some (Ak c.Ab i):=by
 simp only[Zo,Bl] at h;exact Xu h.1 h.2
theorem Ph {b:Za} (hl:b.m.length=b.Ae.Ab.length) {i:Int} (h:Zo b.Ae i=true):Ak b.m i∈b.m:=by
 simp only[Zo,Bl] at h;exact G9 h.1 (by omega)
theorem e9 (x:Zi):((x.live == false)&&(decide (x.Aj=0)&&(decide (x.Ao=0)&&((x.first == false)&&(decide (x.B5=0)&&(decide (x.left=0)&&(decide (x.Ar=0)&&((x.second == false)&&true))))))))=true↔x=Zi.z0:=by
 obtain⟨a1,a2,a3,a4,a5,a6,a7,a8⟩:=x;simp only[Bh,beq_iff_eq,Bl,Zi.mk.injEq,and_true]
theorem Ybd (m:Zh):Uy m=some (Yu m):=by
 unfold Uy Yu;by_cases h:m.queue=[]
 .simp[h]
 .have h1:0 < m.queue.length:=Cq.2 h
  rw[Xu (by omega) (by omega),Ag,Ah (by simp;omega)];cases h2:(Ak m.queue 0).lock<;>simp[h]
theorem Z0k (b:Za) (hs:b.sm) (hc:Yq b.Ae=true):Xc (rN b) (b.m.length=b.Ae.Ab.length/\b.buckets.length=b.Ae.Ab.length/\b.splits.length=b.Ae.Ab.length/\∀i,Zo b.Ae i=true->Ij b.Ae b i):=by
 unfold rN;by_cases h1:b.m.length=b.Ae.Ab.length
 .rw[Ai (by simp;omega)]
  by_cases h2:b.buckets.length=b.Ae.Ab.length
  .rw[Ai (by simp;omega)]
   unfold Kn;by_cases h3:b.splits.length=b.Ae.Ab.length
   .rw[Ai (by simp;omega)]
    have:=Km hc;refine (eY (n:=b.m.length) (P:=λk=>Ij b.Ae b (k:Int)) (Q:=True) (by omega) (B:=rM b) (λm i=>rfl) (λk hk=>?_) λ_=>⟨true,λκ=>?_,by simp⟩).iff ?_
    .have hm:=Gk (c:=b.Ae) (k:=k) (by omega)
     have Ns:=hs.By _ (Ph h1 hm);unfold rM;simp only[Ah (show decide ((k:Int) < (b.m.length:Int))=true by simpa using hk),Wx h1 hm,Vd h2 hm,Ik h3 hm,Pg hm,Ag,UY _ Ns,Yc0,Ws];by_cases e1:Pc (Ak b.m (k:Int))=true
     .by_cases e2:(Ak b.m (k:Int)).tries<=b.Ae.An
      .by_cases e3:Y5 (Ak b.buckets (k:Int)) (Ak b.Ae.Ab (k:Int))=true
       .by_cases e4:0<=Ak b.splits (k:Int)/\Ak b.splits (k:Int)<=b.Ae.Ap
        .refine .inl ⟨⟨GC.1 e1,e2,e3,e4⟩,λκ=>?_⟩
         have e5:¬(Ak b.m (k:Int)).tries > b.Ae.An:=by omega
         simp[e1,e3,e4,e5]
        .refine .inr ⟨λh=>e4 h.split,λκ=>?_⟩
         simp[e1,e3,e4]
       .refine .inr ⟨λh=>e3 h.bucket,λκ=>?_⟩
        simp[e1,e3]
      .refine .inr ⟨λh=>e2 h.tries,λκ=>?_⟩
       have e5:(Ak b.m (k:Int)).tries > b.Ae.An:=by omega
       simp[e1,e5]
     .refine .inr ⟨λh=>e1 (GC.2 h.right),λκ=>?_⟩
      simp[e1]
    .unfold rM
     rw[Ai (by simp)]
    .rw[and_true,h1,<-Vc]
     exact⟨λh=>⟨rfl,h2,h3,h⟩,λh=>h.2.2.2⟩
   .rw[Ah (by simp;omega)]
    exact .no λh=>h3 h.2.2.1
  .rw[Ah (by simp;omega)]
   unfold Kn;rw[Ah rfl];exact .no λh=>h2 h.2.1
 .rw[Ah (by simp;omega)]
  unfold Kn;rw[Ah rfl];exact .no λh=>h1 h.1
theorem Y74 (b:Za):rP b=some ([b.addr,b.Aa].filter (·.live)):=by
 unfold rP;have:W2 [b.addr,b.Aa]=some ([b.addr,b.Aa].filter (·.live)):=by
  unfold W2 K1;exact Y0k [b.addr,b.Aa] Zi.z0 (by simp) rO (·.live) (λa _=>rfl) _ (λm i=>rfl) _ (λm v i j=>rfl)
 rw[this];rfl
def DZ:List Zi->List Int->List Int
 | [],l=>l
 | x::xs,l=>DZ xs (l.set x.Aj.toNat (Ak l x.Aj+1))
theorem Y9a:∀(xs:List Zi) (x:Zi) (l:List Int),DZ (xs++[x]) l=(DZ xs l).set x.Aj.toNat (Ak (DZ xs l) x.Aj+1):=by
 intro xs
 induction xs with
 | nil=>intro x l;rfl
 | cons y xs ih=>intro x l;exact ih x _
theorem Yyx:∀(xs:List Zi) (l:List Int),(DZ xs l).length=l.length:=by
 intro xs
 induction xs with
 | nil=>intro l;rfl
 | cons y xs ih=>intro l;rw[DZ,ih,KQ]
theorem Xet:∀(xs:List Zi) (l:List Int) (i:Int),0<=i->i < (l.length:Int)->(∀x∈xs,0<=x.Aj/\x.Aj < (l.length:Int))->Ak (DZ xs l) i=Ak l i+(xs.countP λx=>decide (x.Aj=i):Nat):=by
 intro xs
 induction xs with
 | nil=>intro l i _ _ _;simp[DZ]
 | cons y xs ih=>
  intro l i h0 h1 hx;have hy:=hx y (BI ..);rw[DZ,ih _ i h0 (by simpa using h1) (λx hxm=>by simpa using hx x (Cg _ hxm)),iK];by_cases h:y.Aj=i
  .subst h
   rw[eH _ hy.1 hy.2];simp;omega
  .rw[Yrw _ hy.1 h0 h]
   simp[h]
theorem Y77 (b:Za) (i:Int):(([b.addr,b.Aa].filter (·.live)).countP λx=>decide (x.Aj=i):Nat)=C1 b i:=by
 unfold C1;by_cases h1:b.addr.live=true<;>by_cases h2:b.Aa.live=true<;>by_cases h3:b.addr.Aj=i<;>by_cases h4:b.Aa.Aj=i<;>simp[h1,h2,h3,h4]
theorem Xcg {b:Za} {P:Zi->Prop}:(∀k (h:k < ([b.addr,b.Aa].filter (·.live)).length),P (([b.addr,b.Aa].filter (·.live))[k]))↔(b.addr.live=true->P b.addr)/\(b.Aa.live=true->P b.Aa):=by
 have:(∀k (h:k < ([b.addr,b.Aa].filter (·.live)).length),P (([b.addr,b.Aa].filter (·.live))[k]))↔∀x∈[b.addr,b.Aa].filter (·.live),P x:=by
  constructor
  .intro h x hx
   obtain⟨k,hk,rfl⟩:=P2 hx;exact h k hk
  .intro h k hk;exact h _ (B6 hk)
 rw[this];constructor
 .intro h;exact⟨λh1=>h _ (by simp[h1]),λh1=>h _ (by simp[h1])⟩
 .intro h x hx
  simp only[P5,BX,Gs,or_false] at hx;rcases hx with⟨rfl|rfl,hx⟩
  .exact h.1 hx
  .exact h.2 hx
theorem Ynb (b:Za):Xc (Kf b false) (b.Aa.second=true->b.Aa.left=0/\b.Aa.Ar≠0/\b.addr.live=false):=by
 unfold Kf;rw[Ai (by simp)];by_cases h1:b.Aa.second=true
 .rw[Ai (by simp[h1])]
  by_cases h2:b.Aa.left=0
  .rw[Ah (by simpa using h2)]
   by_cases h3:b.Aa.Ar=0
   .rw[Ai (by simpa using h3)];exact .no λh=>(h h1).2.1 h3
   .rw[Ah (by simpa using h3)]
    exact .of (by simp[h1,h2,h3])
  .rw[Ai (by simpa using h2)];exact .no λh=>h2 (h h1).1
 .rw[Ah (by simpa using h1)];exact .yes λh=>absurd h h1
theorem Qd {c:Zg} (hc:Yq c=true):(0<=c.An/\c.An<=3)/\(0<=c.As/\c.As<=3)/\(1<=c.Al/\c.Al<=40)/\(1<=c.Ap/\c.Ap<=12):=by
 simp only[Yq,Bh,Bl] at hc;have h3:=hc.1.2;have h4:EO c≠0:=λh=>h3 (by unfold K0;rw[Ah h]);have h5:1<=c.Al/\c.Al<=40:=by
  unfold K0 at h3;rw[Ai h4] at h3;by_cases h6:1<=c.Al/\c.Al<=40
  .exact h6
  .rw[Ai h6] at h3;exact absurd rfl h3
 have h6:(0<=c.An/\c.An<=3)/\(0<=c.As/\c.As<=3):=by
  unfold EO at h4;by_cases h7:(0<=c.An/\c.An<=3)/\(0<=c.As/\c.As<=3)
  .exact h7
  .rw[Ai h7] at h4;exact absurd rfl h4
 exact⟨h6.1,h6.2,h5,hc.1.1.2⟩
theorem Y4p (b:Za) (hc:Yq b.Ae=true) (h1:b.m.length=b.Ae.Ab.length) (hl:b.Aa.live=true->DA b b.Aa):Xc (Xm b false) (K5 b):=by
 have hw:=(Qd hc).2.1;unfold Xm K5;rw[Ai (by simp)];by_cases hd:b.Aa.live=true
 .obtain⟨hm,PY,KE⟩:=hl hd
  rw[Ai (by simp[hd]),Wx h1 hm,Ag,Ah hd,Ws,Ag,Ws,Ag,Ye (by omega) (by omega)];have fA:∀v,Xc (c6 b (Ak b.m b.Aa.Aj) v) (v=false/\(b.Aa.Ar=3->(Ak b.m b.Aa.Aj).Ay=false/\b.Aa.Aj≠b.Af)/\(b.Aa.second=true->b.Aa.left=0/\b.Aa.Ar≠0/\b.addr.live=false)):=by
   intro v;unfold c6;cases v with
   | true=>rw[Ah rfl];exact .no λh=>by simp at h
   | false=>
    rw[Ai (by simp)];by_cases h3:b.Aa.Ar=3
    .rw[Ah (by simpa using h3)]
     by_cases h4:(Ak b.m b.Aa.Aj).Ay=true
     .rw[Ah h4]
      unfold Kf;rw[Ah rfl];exact .no λh=>by have:=(h.2.1 h3).1;rw[h4] at this;cases this
     .rw[Ai h4]
      by_cases h5:b.Aa.Aj=b.Af
      .rw[decide_eq_true h5]
       unfold Kf;rw[Ah rfl];exact .no λh=>(h.2.1 h3).2 h5
      .rw[decide_eq_false h5]
       exact (Ynb b).iff ⟨λh=>⟨rfl,λ_=>⟨by simpa using h4,h5⟩,h⟩,λh=>h.2.2⟩
    .rw[Ai (by simpa using h3)]
     exact (Ynb b).iff ⟨λh=>⟨rfl,λh6=>absurd h6 h3,h⟩,λh=>h.2.2⟩
  have hJ5:∀v,Xc (U4 b (Ak b.m b.Aa.Aj) v) (v=false/\(b.Aa.Ar=2->(Ak b.m b.Aa.Aj).tries < b.Ae.An)/\(b.Aa.Ar=3->(Ak b.m b.Aa.Aj).Ay=false/\b.Aa.Aj≠b.Af)/\(b.Aa.second=true->b.Aa.left=0/\b.Aa.Ar≠0/\b.addr.live=false)):=by
   intro v;unfold U4;cases v with
   | true=>rw[Ah rfl];exact .no λh=>by simp at h
   | false=>
    rw[Ai (by simp)];by_cases h3:b.Aa.Ar=2
    .rw[Ah (by simpa using h3)]
     refine (fA _).iff ?_;simp[h3]
    .rw[Ai (by simpa using h3)]
     refine (fA _).iff ?_;simp[h3]
  by_cases h3:b.Aa.Ao=(Ak b.m b.Aa.Aj).done
  .rw[Ai (by simpa using h3)]
   by_cases h4:0<=b.Aa.left/\b.Aa.left<=b.Ae.As+2
   .rw[Ai (by simpa using h4)]
    refine (hJ5 _).iff ?_;simp[h3,h4]
   .rw[Ah (by rw[decide_eq_false h4];rfl)]
    exact (hJ5 _).iff ⟨λh=>by simp at h,λh=>absurd h.1.2.1 h4⟩
  .rw[Ah (by simpa using h3)]
   exact (hJ5 _).iff ⟨λh=>by simp at h,λh=>absurd h.1.1 h3⟩
 .rw[Ah (by simpa using hd),Ai hd]
  exact .of (e9 _)
theorem Y88 {l:List Int} {N:Int} (hN:0<=N) (h:∀v∈l,0<=v/\v<=N) (i:Int):0<=Ak l i/\Ak l i<=N:=by
 unfold Ak;rw[Py];cases hg:l[i.toNat]? with
 | none=>exact⟨Md _,hN⟩
 | some v=>exact h v (E8 hg)
theorem Xbw:∀(xs:List Zi) (l:List Int) (N:Int),0<=N->(∀v∈l,0<=v/\v<=N)->∀v∈DZ xs l,0<=v/\v<=N+xs.length:=by
 intro xs
 induction xs with
 | nil=>intro l N _ h v hv;have:=h v hv;simpa using this
 | cons x xs ih=>
  intro l N hN h v hv;have h2:=Y88 hN h x.Aj;have:=ih (l.set x.Aj.toNat (Ak l x.Aj+1)) (N+1) (by omega) (λy hy=>by
   rcases Vx hy with hy|rfl
   .have:=h y hy;omega
   .omega) v hv
  simp only[AP];omega
theorem Yk4 (b:Za) (hc:Yq b.Ae=true) (h1:b.m.length=b.Ae.Ab.length) (h3:b.splits.length=b.Ae.Ab.length) (hr:∀i,Zo b.Ae i=true->Y2 (Ak b.m i)):
  Xc (U5 b) (((b.addr.live=true->DA b b.addr)/\(b.Aa.live=true->DA b b.Aa))/\(∀i,Zo b.Ae i=true->(Ak b.m i).Ao - (Ak b.m i).done=C1 b i)/\J8 b/\K5 b):=by
 have Yp:=Km hc;have Ya:=GB hc;unfold U5;rw[Yv2 (by omega) (by omega),Ag,Y74,Ag];generalize hLs:[b.addr,b.Aa].filter (·.live)=ls;have hls:ls.length<=2:=by
  rw[<-hLs];exact I1 (Pz ..) (by simp)
 have Xdu:∀x:Zi,Zo b.Ae x.Aj=true->0<=x.Aj/\x.Aj < (b.m.length:Int):=λx h=>by
  simp only[Zo,Bl] at h;omega
 have M9:(∀x∈ls,Zo b.Ae x.Aj=true)->((b.addr.live=true->DA b b.addr)/\(b.Aa.live=true->DA b b.Aa))->Xc (c7 b FU (DZ ls (List.replicate b.m.length 0)) 0) ((∀i,Zo b.Ae i=true->(Ak b.m i).Ao - (Ak b.m i).done=C1 b i)/\J8 b/\K5 b):=by
  intro CO Xdv;have hfa:∀i,Zo b.Ae i=true->Ak (DZ ls (List.replicate b.m.length 0)) i=C1 b i:=by
   intro i hi;simp only[Zo,Bl] at hi;rw[Xet _ _ i hi.1 (by simp;omega) (λx hx=>by have:=Xdu x (CO x hx);simpa using this),<-Y77,hLs];have:Ak (List.replicate b.m.length (0:Int)) i=0:=by
    unfold Ak;rw[Py,Vee];split<;>rfl
   rw[this];simp
  have hQ:∃r,(∀κ,W6 b κ (DZ ls (List.replicate b.m.length 0)) (b.m.length:Int)=some r)/\(r=true↔J8 b/\K5 b):=by
   obtain⟨r,h4,h5⟩:=Y4p b hc h1 Xdv.2;have fB:Xm b true=some false:=by unfold Xm;rw[Ah rfl]
   by_cases ha:b.addr.live=true
   .obtain⟨hm,PY,KE⟩:=Xdv.1 ha
    have TA:=GD (hr _ hm);by_cases e1:b.addr.Ao=(Ak b.m b.addr.Aj).Ao - 1/\b.addr.left=0/\b.addr.Ar=0/\b.addr.second=false
    .refine⟨r,λκ=>?_,?_⟩
     .unfold W6
      obtain⟨f1,f2,f3,f4⟩:=e1;rw[Ai (by simp),Ah ha,Wx h1 hm,Ag,Xd (by omega) (by omega)];simp only[f1,f2,f3,f4,ha,ne_eq,not_true_eq_false,decide_false,Bp,if_false,D6,h4]
     .rw[h5];unfold J8;rw[Ah ha];exact⟨λh=>⟨e1,h⟩,λh=>h.2⟩
    .refine⟨false,λκ=>?_,?_⟩
     .unfold W6
      rw[Ai (by simp),Ah ha,Wx h1 hm,Ag,Xd (by omega) (by omega)];by_cases f1:b.addr.Ao=(Ak b.m b.addr.Aj).Ao - 1
      .by_cases f2:b.addr.left=0
       .by_cases f3:b.addr.Ar=0
        .have f4:b.addr.second=true:=by
          cases hs:b.addr.second with
          | true=>rfl
          | false=>exact absurd ⟨f1,f2,f3,hs⟩ e1
         rw[Ai (by simpa using f1),Ai (by simpa using f2),Ai (by simpa using f3),Ah f4,fB]
        .rw[Ai (by simpa using f1),Ai (by simpa using f2),Ah (by simpa using f3),fB]
       .rw[Ai (by simpa using f1),Ah (by simpa using f2),fB]
      .rw[Ah (by simpa using f1),fB]
     .unfold J8;rw[Ah ha];simp[e1]
   .by_cases e1:b.addr=Zi.z0
    .refine⟨r,λκ=>?_,?_⟩
     .unfold W6
      rw[Ai (by simp),Ai ha,Ah (by simpa using ha),(e9 b.addr).2 e1];exact h4
     .rw[h5];unfold J8;rw[Ai ha];exact⟨λh=>⟨e1,h⟩,λh=>h.2⟩
    .refine⟨false,λκ=>?_,?_⟩
     .unfold W6
      rw[Ai (by simp),Ai ha,Ah (by simpa using ha)];have:((b.addr.live == false)&&(decide (b.addr.Aj=0)&&(decide (b.addr.Ao=0)&&((b.addr.first == false)&&(decide (b.addr.B5=0)&&(decide (b.addr.left=0)&&(decide (b.addr.Ar=0)&&((b.addr.second == false)&&true))))))))=false:=by
       rw[<-Bool.not_eq_true,e9];exact e1
      rw[this,Ga,fB]
     .unfold J8;rw[Ai ha];simp[e1]
  obtain⟨r,EE,Cw⟩:=hQ;refine (uA (σ:=List Int) (n:=b.m.length) (by omega) (P:=λk=>(Ak b.m (k:Int)).Ao - (Ak b.m (k:Int)).done=C1 b (k:Int)) (Q:=J8 b/\K5 b) (λ_=>DZ ls (List.replicate b.m.length 0)) (B:=W6 b) (L:=c7 b) (λm s i=>rfl) (λk hk=>?_) λ_=>⟨r,EE,Cw⟩).iff ?_
  .have hm:=Gk (c:=b.Ae) (k:=k) (by omega)
   have TA:=GD (hr _ hm);have BK:=Yyx ls (List.replicate b.m.length 0);rw[iE] at BK;have hi:idx (DZ ls (List.replicate b.m.length 0)) (k:Int)=some (C1 b (k:Int)):=by
    rw[Xu (by omega) (by omega),hfa _ hm]
   by_cases e1:(Ak b.m (k:Int)).Ao - (Ak b.m (k:Int)).done=C1 b (k:Int)
   .refine .inl ⟨e1,λκ=>?_⟩
    unfold W6;rw[Ah (by simpa using hk),Wx h1 hm,Ag,hi,Ag,Xd (by omega) (by omega),Ai (by simpa using e1)]
   .refine .inr ⟨e1,λκ=>?_⟩
    unfold W6;rw[Ah (by simpa using hk),Wx h1 hm,Ag,hi,Ag,Xd (by omega) (by omega),Ah (by simpa using e1)]
  .rw[h1,<-Vc (P:=λi=>(Ak b.m i).Ao - (Ak b.m i).done=C1 b i)]
 have hlv:(∀k,k < ls.length->DA b (Ak ls (k:Int)))↔((b.addr.live=true->DA b b.addr)/\(b.Aa.live=true->DA b b.Aa)):=by
  rw[<-Xcg (P:=DA b),hLs];constructor
  .intro h k hk;have:=h k hk;rwa [Qp hk] at this
  .intro h k hk;rw[Qp hk];exact h k hk
 have fC:∀k,k < ls.length->(DA b (Ak ls (k:Int))/\∀κ,W4 b κ (DZ (ls.take k) (List.replicate b.m.length 0)) ls (ls.length:Int) (k:Int)=κ (DZ (ls.take (k+1)) (List.replicate b.m.length 0)) ls (ls.length:Int) (Zl (k:Int) 1))\/(¬DA b (Ak ls (k:Int))/\∀κ,W4 b κ (DZ (ls.take k) (List.replicate b.m.length 0)) ls (ls.length:Int) (k:Int)=some false):=by
  intro k hk;have BK:=Yyx (ls.take k) (List.replicate b.m.length 0);rw[iE] at BK;have SF:∀κ x,Jx b κ x (DZ (ls.take k) (List.replicate b.m.length 0)) ls (ls.length:Int) (k:Int) true=some false:=λκ x=>by unfold Jx;rw[Ah rfl]
  by_cases e1:Zo b.Ae (Ak ls (k:Int)).Aj=true
  .by_cases e2:1<=(Ak ls (k:Int)).B5/\(Ak ls (k:Int)).B5<=3
   .by_cases e3:Ak b.splits (Ak ls (k:Int)).Aj=0
    .refine .inl ⟨⟨e1,e2,e3⟩,λκ=>?_⟩
     unfold W4;have hw:=Xdu _ e1;rw[Ah (by simpa using hk),Xu (by omega) (by omega),Ag,LG _ _ Ya,Ag,e1,Ai (by simp),Ws,Ag,Ai (by simpa using e2),Ik h3 e1,Ag,e3];unfold Jx;have hb:=Y88 (by omega) (Xbw (ls.take k) (List.replicate b.m.length 0) 0 (by omega) (λv hv=>by rw[List.eq_of_mem_replicate hv];omega)) (Ak ls (k:Int)).Aj;have Ea:(ls.take k).length<=2:=by rw[Ey];omega
     rw[Ai (by simp),Xu hw.1 (by omega),Ag,Ye (a:=Ak (DZ (ls.take k) (List.replicate b.m.length 0)) (Ak ls (k:Int)).Aj) (by omega) (by omega),Wy,Ag,List.take_succ_eq_append_getElem hk,Y9a,Qp hk]
    .refine .inr ⟨λh=>e3 h.2.2,λκ=>?_⟩
     unfold W4;rw[Ah (by simpa using hk),Xu (by omega) (by omega),Ag,LG _ _ Ya,Ag,e1,Ai (by simp),Ws,Ag,Ai (by simpa using e2),Ik h3 e1,Ag,decide_eq_true e3,SF]
   .refine .inr ⟨λh=>e2 h.2.1,λκ=>?_⟩
    unfold W4;rw[Ah (by simpa using hk),Xu (by omega) (by omega),Ag,LG _ _ Ya,Ag,e1,Ai (by simp),Ws,Ag,Ah (by rw[decide_eq_false e2];rfl),SF]
  .refine .inr ⟨λh=>e1 h.1,λκ=>?_⟩
   unfold W4;rw[Ah (by simpa using hk),Xu (by omega) (by omega),Ag,LG _ _ Ya,Ag,Ah (by simpa using e1),SF]
 have NX:=uA (σ:=List Int×List Zi×Int) (n:=ls.length) (by omega) (P:=λk=>DA b (Ak ls (k:Int)))
  (Q:=(∀i,Zo b.Ae i=true->(Ak b.m i).Ao - (Ak b.m i).done=C1 b i)/\J8 b/\K5 b)
  (λk=>(DZ (ls.take k) (List.replicate b.m.length 0),ls,(ls.length:Int))) (B:=λκ s i=>W4 b (λv l n i=>κ (v,l,n) i) s.1 s.2.1 s.2.2 i) (L:=λm s i=>rQ b m s.1 s.2.1 s.2.2 i) (λm s i=>rfl)
  (λk hk=>(fC k hk).imp (λh=>⟨h.1,λκ=>h.2 _⟩) λh=>⟨h.1,λκ=>h.2 _⟩)
 have CO:(∀k,k < ls.length->DA b (Ak ls (k:Int)))->∀x∈ls,Zo b.Ae x.Aj=true:=by
  intro h x hx;obtain⟨k,hk,rfl⟩:=P2 hx;have:=(h k hk).1
  rwa [Qp hk] at this
 have CK:=NX λJe=>by
  obtain⟨r,EE,Cw⟩:=M9 (CO Je) (hlv.1 Je);refine⟨r,λκ=>?_,Cw⟩;unfold W4;rw[Ai (by simp),E9];exact EE
 simp only[List.take_zero,DZ] at CK;exact CK.iff (by rw[hlv])
theorem Yqm (b:Za) (hc:Yq b.Ae=true) (h1:b.m.length=b.Ae.Ab.length) (h3:b.splits.length=b.Ae.Ab.length):Xc (U6 b) (GF b):=by
 have Yp:=Km hc;have Ya:=GB hc;unfold U6 GF;refine (eY (n:=b.m.length) (by omega) (P:=λk=>(Ak b.m (k:Int)).Ao > 0->Yu (Ak b.m (k:Int))=true->b.Af=(k:Int))
  (Q:=if b.Af=-1 then b.held=0 else Zo b.Ae b.Af=true/\Yu (Ak b.m b.Af)=true/\Ak b.splits b.Af=0/\(0<=b.held/\b.held<=b.Ae.Al))
  (B:=rR b) (λm i=>rfl) (λk hk=>?_) λ_=>?_).iff ?_
 .have hm:=Gk (c:=b.Ae) (k:=k) (by omega)
  unfold rR;simp only[Ah (show decide ((k:Int) < (b.m.length:Int))=true by simpa using hk),Wx h1 hm,Ag,Ybd];by_cases e1:(Ak b.m (k:Int)).Ao > 0
  .by_cases e2:Yu (Ak b.m (k:Int))=true
   .by_cases e3:b.Af=(k:Int)
    .exact .inl ⟨λ_ _=>e3,λκ=>by simp[e1,e2,e3]⟩
    .exact .inr ⟨λh=>e3 (h e1 e2),λκ=>by simp[e1,e2,e3]⟩
   .exact .inl ⟨λ_ h=>absurd h e2,λκ=>by simp[e1,e2]⟩
  .exact .inl ⟨λh=>absurd h e1,λκ=>by simp[e1]⟩
 .unfold rR
  simp only[Int.lt_irrefl,decide_false,Bp,if_false];by_cases e1:b.Af=-1
  .exact⟨decide (b.held=0),λκ=>by simp[e1],by simp[e1]⟩
  .simp only[e1,decide_false,Bp,if_false,LG _ _ Ya,Ag]
   by_cases e2:Zo b.Ae b.Af=true
   .simp only[e2,if_true,Wx h1 e2,Ik h3 e2,Ag,Ybd,Ws]
    by_cases e3:Yu (Ak b.m b.Af)=true
    .by_cases e4:Ak b.splits b.Af=0
     .exact⟨decide (0<=b.held/\b.held<=b.Ae.Al),λκ=>by simp only[e3,e4,decide_true,if_true],by simp[e3,e4]⟩
     .exact⟨false,λκ=>by simp[e3,e4],by simp[e4]⟩
    .exact⟨false,λκ=>by simp[e3],by simp[e3]⟩
   .exact⟨false,λκ=>by simp[e2],by simp[e2]⟩
 .rw[h1,<-Vc (P:=λi=>(Ak b.m i).Ao > 0->Yu (Ak b.m i)=true->b.Af=i)]
def Hj (l:List Zt):Nat->Int
 | 0=>-1
 | k+1=>(Ak l (k:Int)).A5
theorem Yyc {l:List Zt}:(l.Pairwise λx y=>x.A5 < y.A5)↔∀k,k+1 < l.length->(Ak l (k:Int)).A5 < (Ak l ((k+1:Nat):Int)).A5:=by
 constructor
 .intro h k hk
  rw[Qp (by omega),Qp hk];exact Vd7.1 h k (k+1) (by omega) hk (by omega)
 .intro h
  rw[Vd7];have key:∀(d i:Nat) (hj:i+d+1 < l.length),(l[i]'(by omega)).A5 < (l[i+d+1]'hj).A5:=by
   intro d
   induction d with
   | zero=>
    intro i hj;have:=h i hj;rw[Qp (by omega),Qp hj] at this;exact this
   | succ d ih=>
    intro i hj;have h4:=ih i (by omega);have h5:=h (i+d+1) (by omega);rw[Qp (by omega),Qp (by omega)] at h5;exact Int.lt_trans h4 h5
  intro i j hi hj hij;have:=key (j - i - 1) i (by omega);have e:i+(j - i - 1)+1=j:=by omega
  simp only[e] at this;exact this
theorem Y3u {b:Za}:Nr b↔∀k,k < b.log.length->SE b.Ae b.now (Ak b.log (k:Int))/\Hj b.log k < (Ak b.log (k:Int)).A5:=by
 unfold Nr;constructor
 .intro h k hk
  have h1:=h.1 _ (G9 (xs:=b.log) (i:=(k:Int)) (by omega) (by omega));refine⟨h1,?_⟩;cases k with
  | zero=>have:=h1.1.1;simp only[Hj];omega
  | succ k=>exact Yyc.1 h.2 k hk
 .intro h
  refine⟨λd hd=>?_,Yyc.2 λk hk=>?_⟩
  .obtain⟨k,hk,rfl⟩:=P2 hd
   have:=(h k hk).1
   rwa [Qp hk] at this
  .exact (h (k+1) hk).2
def Pj (c:Zg) (now:Int) (d:Zt):Prop:=d.A5 < now/\Zo c d.Aj=true/\Wb d.addr d.size=true/\d.addr < 512/\X3 d.value d.size=true/\(d.Ar=0\/d.Ar=1)
theorem Xa7 {b:Za}:Nr b↔∀k,k < b.log.length->Pj b.Ae b.now (Ak b.log (k:Int))/\Hj b.log k < (Ak b.log (k:Int)).A5:=by
 rw[Y3u];constructor
 .intro h k hk
  have:=h k hk;exact⟨⟨this.1.1.2,this.1.2⟩,this.2⟩
 .intro h
  have h0:∀k,k<=b.log.length->-1<=Hj b.log k:=by
   intro k
   induction k with
   | zero=>intro _;simp[Hj]
   | succ k ih=>
    intro hk;have h1:=ih (by omega);have h2:=(h k (by omega)).2;simp only[Hj];omega
  intro k hk;have h1:=h k hk;have h2:=h0 k (by omega);exact⟨⟨⟨by omega,h1.1.1⟩,h1.1.2⟩,h1.2⟩
theorem Yku (b:Za) (hc:Yq b.Ae=true) (hl:b.log.length < 1048577) (hn:0<=b.now/\b.now<=4000):Xc (U7 b) (Nr b):=by
 have Ya:=GB hc;unfold U7;have:=uA (σ:=Int) (n:=b.log.length) (by omega) (P:=λk=>Pj b.Ae b.now (Ak b.log (k:Int))/\Hj b.log k < (Ak b.log (k:Int)).A5) (Q:=True)
  (Hj b.log) (B:=rS b) (L:=rT b) (λm s i=>rfl) (λk hk=>?_) λ_=>⟨true,λκ=>?_,by simp⟩
 .exact this.iff (by rw[and_true,Xa7])
 .have e0:Hj b.log (k+1)=(Ak b.log (k:Int)).A5:=rfl
  rw[e0];unfold rS;simp only[Ah (show decide ((k:Int) < (b.log.length:Int))=true by simpa using hk),Xu (xs:=b.log) (i:=(k:Int)) (by omega) (by omega),Ag,LG _ _ Ya,tT,S7];generalize Ak b.log (k:Int)=d;by_cases e1:Hj b.log k < d.A5
  .have EF:¬d.A5<=Hj b.log k:=by omega
   by_cases e2:d.A5 < b.now
   .have HC:¬d.A5≥b.now:=by omega
    by_cases e3:Zo b.Ae d.Aj=true
    .by_cases e4:Wb d.addr d.size=true
     .by_cases e5:d.addr < 512
      .have Il:¬d.addr≥512:=by omega
       by_cases e6:X3 d.value d.size=true
       .by_cases e7:d.Ar=0
        .exact .inl ⟨⟨⟨e2,e3,e4,e5,e6,.inl e7⟩,e1⟩,λκ=>by simp[EF,HC,e3,e4,Il,e6,e7]⟩
        .by_cases e8:d.Ar=1
         .exact .inl ⟨⟨⟨e2,e3,e4,e5,e6,.inr e8⟩,e1⟩,λκ=>by simp[EF,HC,e3,e4,Il,e6,e8]⟩
         .exact .inr ⟨λh=>by have:=h.1.2.2.2.2.2;omega,λκ=>by simp[EF,HC,e3,e4,Il,e6,e7,e8]⟩
       .exact .inr ⟨λh=>e6 h.1.2.2.2.2.1,λκ=>by simp[EF,HC,e3,e4,Il,e6]⟩
      .have Il:d.addr≥512:=by omega
       exact .inr ⟨λh=>e5 h.1.2.2.2.1,λκ=>by simp[EF,HC,e3,e4,Il]⟩
     .exact .inr ⟨λh=>e4 h.1.2.2.1,λκ=>by simp[EF,HC,e3,e4]⟩
    .exact .inr ⟨λh=>e3 h.1.2.1,λκ=>by simp[EF,HC,e3]⟩
   .have HC:d.A5≥b.now:=by omega
    exact .inr ⟨λh=>e2 h.1.1,λκ=>by simp[EF,HC]⟩
  .have EF:d.A5<=Hj b.log k:=by omega
   exact .inr ⟨λh=>e1 h.2,λκ=>by simp[EF]⟩
 .unfold rS
  rw[Ai (by simp)]
theorem Yur (b:Za) (hs:b.sm):Xc (U8 b) (De b):=by
 unfold U8;rw[UT _ hs.Ae,Ag];by_cases hc:Yq b.Ae=true
 .rw[Ah hc,Ws,Ag]
  by_cases hn:0<=b.now/\b.now<=4000
  .rw[Ah (decide_eq_true hn)]
   have Xdw:b.m.length=b.Ae.Ab.length->b.buckets.length=b.Ae.Ab.length->b.splits.length=b.Ae.Ab.length->(∀i,Zo b.Ae i=true->Ij b.Ae b i)->
     Xc ((Se b.model).bind λr133=>if r133=true then (Ys b.Aw 0 b.now).bind λr140=>if r140=true then (U5 b).bind λr143=>if r143=true then (U6 b).bind λr146=>if r146=true then (U7 b).bind λr149=>some r149 else some false else some false else some false else some false)
      (Ep b.model/\(0<=b.Aw/\b.Aw<=b.now)/\(((b.addr.live=true->DA b b.addr)/\(b.Aa.live=true->DA b b.Aa))/\(∀i,Zo b.Ae i=true->(Ak b.m i).Ao - (Ak b.m i).done=C1 b i)/\J8 b/\K5 b)/\GF b/\Nr b):=by
    intro h1 h2 h3 hm;rw[Yem _ hs.model];refine Xc.and (Xc.of eW) λ_=>?_;rw[Ws];refine Xc.and (Xc.of (decide_eq_true_iff)) λ_=>?_;refine Xc.and (Yk4 b hc h1 h3 λi hi=>(hm i hi).right) λ_=>?_;refine Xc.and (Yqm b hc h1 h3) λ_=>?_;obtain⟨r,h4,h5⟩:=Yku b hc hs.log hn;rw[h4];exact .of h5
   have hw:Xc (Sd b.Bo b.Ae) (CN b.Bo b.Ae=true):=by rw[Yas _ _ hs.Ae];exact .of Iff.rfl
   by_cases uB:b.last=-1
   .simp only[uB,decide_true,if_true]
    refine (Xc.and (Z0k b hs hc) λhm=>Xc.and hw λ_=>Xdw hm.1 hm.2.1 hm.2.2.1 hm.2.2.2).iff ⟨λh=>?_,λh=>?_⟩
    .obtain⟨⟨h1,h2,h3,h4⟩,h5,h6,h7,⟨⟨h8,h9⟩,Eo,SG,fD⟩,fE,h14⟩:=h
     exact⟨hc,hn,h1,h2,h3,h4,h5,.inl uB,h6,h7,h8,h9,Eo,SG,fD,fE,h14⟩
    .exact⟨⟨h.ml,h.bl,h.sl,h.By⟩,h.Bo,h.model,h.Aw,⟨⟨h.alive,h.B9⟩,h.D1,h.addr,h.data⟩,h.held,h.log⟩
   .have e:decide (b.last=-1)=false:=decide_eq_false uB
    simp only[e,Bp,if_false];have hi:Xc (JQ b.Ae b.last) (Zo b.Ae b.last=true):=by rw[LG _ _ hs.Ae];exact .of Iff.rfl
    refine (Xc.and (Z0k b hs hc) λhm=>Xc.and hw λ_=>Xc.and hi λ_=>Xdw hm.1 hm.2.1 hm.2.2.1 hm.2.2.2).iff ⟨λh=>?_,λh=>?_⟩
    .obtain⟨⟨h1,h2,h3,h4⟩,h5,hx,h6,h7,⟨⟨h8,h9⟩,Eo,SG,fD⟩,fE,h14⟩:=h
     exact⟨hc,hn,h1,h2,h3,h4,h5,.inr hx,h6,h7,h8,h9,Eo,SG,fD,fE,h14⟩
    .exact⟨⟨h.ml,h.bl,h.sl,h.By⟩,h.Bo,h.last.resolve_left uB,h.model,h.Aw,⟨⟨h.alive,h.B9⟩,h.D1,h.addr,h.data⟩,h.held,h.log⟩
  .rw[Ai (by simpa using hn)]
   exact .no λh=>hn h.now
 .rw[Ai hc]
  exact .no λh=>hc h.Ae
theorem Y9t (b:Za) (i:Int):lV b i=some (C1 b i):=by
 unfold lV lU lT C1;by_cases h1:b.addr.live=true<;>by_cases h2:b.Aa.live=true<;>by_cases h3:b.addr.Aj=i<;>by_cases h4:b.Aa.Aj=i<;>simp[h1,h2,h3,h4]<;>rfl
theorem Yuc (n:Int):∃w,MP n=some w/\((!(w.toList == ByteArray.empty.toList))=true↔(0<=n/\n<=3)):=by
 unfold MP;rw[Xx,Ag];by_cases h:0<=n/\n<=3
 .have:n=0\/n=1\/n=2\/n=3:=by omega
  rcases this with rfl|rfl|rfl|rfl<;>exact⟨_,rfl,by rw[Ysn,Ysn];decide⟩
 .rw[Ah (by rw[decide_eq_false h];rfl)]
  exact⟨_,rfl,by simp[h]⟩
theorem fF {b:Za} (h1:b.m.length=b.Ae.Ab.length) (Ya:b.Ae.Ab.length < 1048577) (i:Int):Z4 i 0 (Y8 (b.m.length:Int) 1)=some (Zo b.Ae i):=by
 rw[Xx,h1,eM i Ya]
theorem Yps (b:Za) (hs:b.sm) (hc:Yq b.Ae=true) (h1:b.m.length=b.Ae.Ab.length) (h3:b.splits.length=b.Ae.Ab.length) (hm:∀i,Zo b.Ae i=true->Ij b.Ae b i):
  Xc (MQ b b.addr false) ((b.addr.live=true->DA b b.addr)/\J8 b):=by
 have Ya:=GB hc;have Nt:K6 b b.addr false true=some false:=by unfold K6;rw[Ah rfl]
 unfold MQ J8;by_cases ha:b.addr.live=true
 .rw[Ai (by simp[ha]),Ah ha,fF h1 Ya,Ag,Xx,Ag]
  by_cases e1:Zo b.Ae b.addr.Aj=true
  .rw[e1,Ai (by simp)]
   by_cases e2:1<=b.addr.B5/\b.addr.B5<=3
   .rw[Ai (by simpa using e2),Ik h3 e1,Ag]
    have KE:=(hm _ e1).split;by_cases e3:Ak b.splits b.addr.Aj=0
    .rw[decide_eq_false (by omega)]
     have TA:=GD (hm _ e1).right;unfold K6;rw[Ai (by simp),Wx h1 e1,Ag,Ah (by simp),Xd (by omega) (by omega)];by_cases f1:b.addr.Ao=(Ak b.m b.addr.Aj).Ao - 1
     .by_cases f2:b.addr.left=0
      .by_cases f3:b.addr.Ar=0
       .rw[Ah (by simpa using f1),Ah (by simpa using f2),Ah (by simpa using f3)]
        refine .of ⟨λh=>⟨λ_=>⟨e1,e2,e3⟩,f1,f2,f3,by simpa using h⟩,λh=>by simpa using h.2.2.2.2⟩
       .rw[Ah (by simpa using f1),Ah (by simpa using f2),Ai (by simpa using f3)]
        exact .no λh=>f3 h.2.2.2.1
      .rw[Ah (by simpa using f1),Ai (by simpa using f2)]
       exact .no λh=>f2 h.2.2.1
     .rw[Ai (by simpa using f1)]
      exact .no λh=>f1 h.2.1
    .rw[decide_eq_true (by omega),Nt]
     exact .no λh=>e3 (h.1 ha).2.2
   .rw[Ah (by rw[decide_eq_false e2];rfl),Nt]
    exact .no λh=>e2 (h.1 ha).2.1
  .rw[Ah (by simpa using e1),Nt]
   exact .no λh=>e1 (h.1 ha).1
 .rw[Ah (by simpa using ha),Ai ha]
  exact (Xc.of (e9 _)).iff ⟨λh=>⟨λh2=>absurd h2 ha,h⟩,λh=>h.2⟩
theorem Ypn (b:Za) (hs:b.sm) (hc:Yq b.Ae=true) (h1:b.m.length=b.Ae.Ab.length) (h3:b.splits.length=b.Ae.Ab.length) (hm:∀i,Zo b.Ae i=true->Ij b.Ae b i):
  Xc (MQ b b.Aa true) ((b.Aa.live=true->DA b b.Aa)/\K5 b):=by
 have Ya:=GB hc;have hw:=(Qd hc).2.1;have Nt:K6 b b.Aa true true=some false:=by unfold K6;rw[Ah rfl]
 unfold MQ K5;by_cases ha:b.Aa.live=true
 .rw[Ai (by simp[ha]),Ah ha,fF h1 Ya,Ag,Xx,Ag]
  by_cases e1:Zo b.Ae b.Aa.Aj=true
  .rw[e1,Ai (by simp)]
   by_cases e2:1<=b.Aa.B5/\b.Aa.B5<=3
   .rw[Ai (by simpa using e2),Ik h3 e1,Ag]
    have KE:=(hm _ e1).split;by_cases e3:Ak b.splits b.Aa.Aj=0
    .rw[decide_eq_false (by omega)]
     have TA:=GD (hm _ e1).right;have fG:Xc (Yn b b.Aa true (Ak b.m b.Aa.Aj) false) ((b.Aa.Ao=(Ak b.m b.Aa.Aj).done/\(0<=b.Aa.left/\b.Aa.left<=b.Ae.As+2)/\(0<=b.Aa.Ar/\b.Aa.Ar<=3))/\(b.Aa.second=true->b.Aa.left=0/\b.Aa.Ar≠0)):=by
      unfold Yn;obtain⟨w,hw1,uC⟩:=Yuc b.Aa.Ar;rw[Ai (by simp),Xx,Ag,hw1,Ag,Ye (by omega) (by omega)];by_cases f1:b.Aa.Ao=(Ak b.m b.Aa.Aj).done
      .rw[Ah (by simpa using f1)]
       by_cases f2:0<=b.Aa.left/\b.Aa.left<=b.Ae.As+2
       .rw[Ah (by simpa using f2)]
        by_cases f3:0<=b.Aa.Ar/\b.Aa.Ar<=3
        .rw[Ah (uC.2 f3)]
         by_cases f4:b.Aa.second=true
         .rw[Ai (by simp[f4])]
          by_cases f5:b.Aa.Ar=0
          .rw[Ai (by simpa using f5)]
           exact .no λh=>(h.2 f4).2 f5
          .rw[Ah (by simpa using f5)]
           refine .of ⟨λh=>⟨⟨f1,f2,f3⟩,λ_=>⟨by simpa using h,f5⟩⟩,λh=>by simpa using (h.2 f4).1⟩
         .rw[Ah (by simpa using f4)]
          exact .yes ⟨⟨f1,f2,f3⟩,λh=>absurd h f4⟩
        .rw[Ai (λh=>f3 (uC.1 h))]
         exact .no λh=>f3 h.1.2.2
       .rw[Ai (by rw[decide_eq_false f2];simp)]
        exact .no λh=>f2 h.1.2.1
      .rw[Ai (by simpa using f1)]
       exact .no λh=>f1 h.1.1
     have uD:Yn b b.Aa true (Ak b.m b.Aa.Aj) true=some false:=by unfold Yn;rw[Ah rfl]
     have hS:Xc (if b.Aa.second=true then Yn b b.Aa true (Ak b.m b.Aa.Aj) b.addr.live else Yn b b.Aa true (Ak b.m b.Aa.Aj) false)
       ((b.Aa.Ao=(Ak b.m b.Aa.Aj).done/\(0<=b.Aa.left/\b.Aa.left<=b.Ae.As+2)/\(0<=b.Aa.Ar/\b.Aa.Ar<=3))/\(b.Aa.second=true->b.Aa.left=0/\b.Aa.Ar≠0/\b.addr.live=false)):=by
      by_cases f4:b.Aa.second=true
      .rw[Ah f4]
       by_cases f5:b.addr.live=true
       .rw[f5,uD]
        exact .no λh=>by have:=(h.2 f4).2.2;cases this
       .have f6:b.addr.live=false:=by simpa using f5
        rw[f6];exact fG.iff ⟨λh=>⟨h.1,λh2=>⟨(h.2 h2).1,(h.2 h2).2,rfl⟩⟩,λh=>⟨h.1,λh2=>⟨(h.2 h2).1,(h.2 h2).2.1⟩⟩⟩
      .rw[Ai f4]
       exact fG.iff ⟨λh=>⟨h.1,λh2=>absurd h2 f4⟩,λh=>⟨h.1,λh2=>absurd h2 f4⟩⟩
     have hT:Xc (if decide (b.Aa.Ar=3)=true then if (Ak b.m b.Aa.Aj).Ay=true then Yn b b.Aa true (Ak b.m b.Aa.Aj) true else if decide (b.Af=b.Aa.Aj)=true then Yn b b.Aa true (Ak b.m b.Aa.Aj) true else if b.Aa.second=true then Yn b b.Aa true (Ak b.m b.Aa.Aj) b.addr.live else Yn b b.Aa true (Ak b.m b.Aa.Aj) false
       else if b.Aa.second=true then Yn b b.Aa true (Ak b.m b.Aa.Aj) b.addr.live else Yn b b.Aa true (Ak b.m b.Aa.Aj) false)
       ((b.Aa.Ar=3->(Ak b.m b.Aa.Aj).Ay=false/\b.Aa.Aj≠b.Af)/\(b.Aa.Ao=(Ak b.m b.Aa.Aj).done/\(0<=b.Aa.left/\b.Aa.left<=b.Ae.As+2)/\(0<=b.Aa.Ar/\b.Aa.Ar<=3))/\(b.Aa.second=true->b.Aa.left=0/\b.Aa.Ar≠0/\b.addr.live=false)):=by
      by_cases f3:b.Aa.Ar=3
      .rw[Ah (by simpa using f3)]
       by_cases f4:(Ak b.m b.Aa.Aj).Ay=true
       .rw[Ah f4,uD]
        exact .no λh=>by have:=(h.1 f3).1;rw[f4] at this;cases this
       .rw[Ai f4]
        by_cases f5:b.Af=b.Aa.Aj
        .rw[Ah (by simpa using f5),uD]
         exact .no λh=>(h.1 f3).2 f5.symm
        .rw[Ai (by simpa using f5)]
         exact hS.iff ⟨λh=>⟨λ_=>⟨by simpa using f4,λh2=>f5 h2.symm⟩,h⟩,λh=>h.2⟩
      .rw[Ai (by simpa using f3)]
       exact hS.iff ⟨λh=>⟨λh2=>absurd h2 f3,h⟩,λh=>h.2⟩
     unfold K6;rw[Ai (by simp),Wx h1 e1,Ag,Ai (by simp)];by_cases f2:b.Aa.Ar=2
     .rw[Ah (by simpa using f2)]
      by_cases f3:(Ak b.m b.Aa.Aj).tries≥b.Ae.An
      .rw[Ah (by simpa using f3),uD]
       exact .no λh=>by have:=h.2.2.1 f2;omega
      .rw[Ai (by simpa using f3)]
       exact hT.iff ⟨λh=>⟨λ_=>⟨e1,e2,e3⟩,h.2.1,λ_=>by omega,h.1,h.2.2⟩,λh=>⟨h.2.2.2.1,h.2.1,h.2.2.2.2⟩⟩
     .rw[Ai (by simpa using f2)]
      exact hT.iff ⟨λh=>⟨λ_=>⟨e1,e2,e3⟩,h.2.1,λh2=>absurd h2 f2,h.1,h.2.2⟩,λh=>⟨h.2.2.2.1,h.2.1,h.2.2.2.2⟩⟩
    .rw[decide_eq_true (by omega),Nt]
     exact .no λh=>e3 (h.1 ha).2.2
   .rw[Ah (by rw[decide_eq_false e2];rfl),Nt]
    exact .no λh=>e2 (h.1 ha).2.1
  .rw[Ah (by simpa using e1),Nt]
   exact .no λh=>e1 (h.1 ha).1
 .rw[Ah (by simpa using ha),Ai ha]
  exact (Xc.of (e9 _)).iff ⟨λh=>⟨λh2=>absurd h2 ha,h⟩,λh=>h.2⟩
theorem Ylr (b:Za) (hc:Yq b.Ae=true) (h1:b.m.length=b.Ae.Ab.length) (h3:b.splits.length=b.Ae.Ab.length) (hm:∀i,Zo b.Ae i=true->Ij b.Ae b i):Xc (aE b) (GF b):=by
 have Yp:=Km hc;have Ya:=GB hc;unfold aE GF;refine (eY (n:=b.m.length) (by omega) (P:=λk=>(Ak b.m (k:Int)).Ao > 0->Yu (Ak b.m (k:Int))=true->b.Af=(k:Int))
  (Q:=if b.Af=-1 then b.held=0 else Zo b.Ae b.Af=true/\Yu (Ak b.m b.Af)=true/\Ak b.splits b.Af=0/\(0<=b.held/\b.held<=b.Ae.Al))
  (B:=lW b) (λm i=>rfl) (λk hk=>?_) λ_=>?_).iff ?_
 .have Df:=Gk (c:=b.Ae) (k:=k) (by omega)
  have hr:=(hm _ Df).right;unfold lW;simp only[Ah (show decide ((k:Int) < (b.m.length:Int))=true by simpa using hk),Wx h1 Df,Ag];by_cases e1:(Ak b.m (k:Int)).Ao > 0
  .have hq:(Ak b.m (k:Int)).queue≠[]:=by
    intro hq;have:=hr.none hq;omega
   have Fb:0 < (Ak b.m (k:Int)).queue.length:=Cq.2 hq;rw[Xu (xs:=(Ak b.m (k:Int)).queue) (by omega) (by omega)];simp only[Ag,e1,decide_true,if_true];by_cases e2:(Ak (Ak b.m (k:Int)).queue 0).lock=true
   .by_cases e4:(Ak b.m (k:Int)).broken=true
    .exact .inl ⟨λ_ h=>by simp[Yu,e4] at h,λκ=>by simp[e2,e4]⟩
    .by_cases e3:b.Af=(k:Int)
     .exact .inl ⟨λ_ _=>e3,λκ=>by simp[e2,e3,e4]⟩
     .exact .inr ⟨λh=>e3 (h trivial (by simp[Yu,hq,e2,e4])),λκ=>by simp[e2,e3,e4]⟩
   .exact .inl ⟨λ_ h=>by simp[Yu,e2] at h,λκ=>by simp[e2]⟩
  .exact .inl ⟨λh=>absurd h e1,λκ=>by simp[e1]⟩
 .unfold lW
  simp only[Int.lt_irrefl,decide_false,Bp,if_false];by_cases e1:b.Af=-1
  .exact⟨decide (b.held=0),λκ=>by simp[e1],by simp[e1]⟩
  .simp only[e1,decide_false,Bp,if_false,fF h1 Ya,Ag,Xx]
   have HD:R7 b true=some false:=by unfold R7;rw[Ah rfl]
   by_cases e2:Zo b.Ae b.Af=true
   .simp only[e2,D6,Bp,if_false]
    by_cases e5:0<=b.held/\b.held<=b.Ae.Al
    .have hJ:Xc (R7 b false) (Yu (Ak b.m b.Af)=true/\Ak b.splits b.Af=0):=by
      unfold R7;rw[Ai (by simp),Wx h1 e2,Ag];by_cases hq:(Ak b.m b.Af).queue=[]
      .rw[Ai (by simp[hq])]
       exact .no λh=>by simp[Yu,hq] at h
      .have Fb:0 < (Ak b.m b.Af).queue.length:=Cq.2 hq
       rw[Ah (by simp;omega),Xu (xs:=(Ak b.m b.Af).queue) (by omega) (by omega),Ag,Ik h3 e2,Ag];by_cases e6:(Ak (Ak b.m b.Af).queue 0).lock=true
       .rw[Ah e6]
        by_cases e7:(Ak b.m b.Af).broken=true
        .rw[Ai (by simp[e7])]
         exact .no λh=>by simp[Yu,e7] at h
        .rw[Ah (by simp[e7])]
         exact .of (by simp[Yu,hq,e6,e7])
       .rw[Ai e6]
        exact .no λh=>by simp[Yu,e6] at h
     obtain⟨r,EE,Cw⟩:=hJ;refine⟨r,λκ=>by rw[decide_eq_true e5,D6,EE],?_⟩;rw[Cw];exact⟨λh=>⟨trivial,h.1,h.2,e5⟩,λh=>⟨h.2.1,h.2.2.1⟩⟩
    .refine⟨false,λκ=>by rw[decide_eq_false e5,Ga,HD],by simp[e5]⟩
   .exact⟨false,λκ=>by simp[e2,HD],by simp[e2]⟩
 .rw[h1,<-Vc (P:=λi=>(Ak b.m i).Ao > 0->Yu (Ak b.m i)=true->b.Af=i)]
def Pk (c:Zg) (d:Zt):Prop:=Zo c d.Aj=true/\Wb d.addr d.size=true/\d.addr < 512/\X3 d.value d.size=true/\(d.Ar=0\/d.Ar=1)
theorem Yiw {b:Za} (h1:b.m.length=b.Ae.Ab.length) (Ya:b.Ae.Ab.length < 1048577) (d:Zt):(Pk b.Ae d/\∀x:Option Bool,((Z4 d.Aj 0 (Y8 (b.m.length:Int) 1)).bind λSH=>if (!SH)=true then some false else (Lz d.addr d.size).bind λSI=>if (!SI)=true then some false else (Z4 d.addr 0 511).bind λSJ=>if (!SJ)=true then some false else (Qn d.size).bind λSK=>(Z4 d.value 0 (Y8 SK 1)).bind λSL=>if (!SL)=true then some false else (Z4 d.Ar 0 1).bind λSM=>if (!SM)=true then some false else x)=x)
  \/ (¬Pk b.Ae d/\∀x:Option Bool,((Z4 d.Aj 0 (Y8 (b.m.length:Int) 1)).bind λSH=>if (!SH)=true then some false else (Lz d.addr d.size).bind λSI=>if (!SI)=true then some false else (Z4 d.addr 0 511).bind λSJ=>if (!SJ)=true then some false else (Qn d.size).bind λSK=>(Z4 d.value 0 (Y8 SK 1)).bind λSL=>if (!SL)=true then some false else (Z4 d.Ar 0 1).bind λSM=>if (!SM)=true then some false else x)=some false):=by
 simp only[fF h1 Ya,tS,LJ,S8,Xx d.addr,Xx d.Ar,Ag];by_cases e3:Zo b.Ae d.Aj=true
 .by_cases e4:Wb d.addr d.size=true
  .have e0:=(Jz e4).2.1
   by_cases e5:d.addr < 512
   .have Il:0<=d.addr/\d.addr<=511:=by omega
    by_cases e6:X3 d.value d.size=true
    .by_cases e7:d.Ar=0\/d.Ar=1
     .have e7':0<=d.Ar/\d.Ar<=1:=by omega
      exact .inl ⟨⟨e3,e4,e5,e6,e7⟩,λx=>by simp[e3,e4,Il,e6,e7']⟩
     .have e7':¬(0<=d.Ar/\d.Ar<=1):=by omega
      exact .inr ⟨λh=>e7 h.2.2.2.2,λx=>by simp only[e3,e4,Il,e6,decide_eq_false e7',D6,Ga,Bp,if_false,if_true,and_self,decide_true]⟩
    .exact .inr ⟨λh=>e6 h.2.2.2.1,λx=>by simp[e3,e4,Il,e6]⟩
   .have Il:¬(0<=d.addr/\d.addr<=511):=by omega
    exact .inr ⟨λh=>e5 h.2.2.1,λx=>by simp only[e3,e4,decide_eq_false Il,D6,Ga,Bp,if_false,if_true]⟩
  .exact .inr ⟨λh=>e4 h.2.1,λx=>by simp[e3,e4]⟩
 .exact .inr ⟨λh=>e3 h.1,λx=>by simp[e3]⟩
theorem Ypz (b:Za) (hc:Yq b.Ae=true) (h1:b.m.length=b.Ae.Ab.length) (hl:b.log.length < 1048577) (hn:0<=b.now/\b.now<=4000):Xc (aF b) (Nr b):=by
 have Ya:=GB hc;unfold aF;have:=eY (n:=b.log.length) (by omega) (P:=λk=>SE b.Ae b.now (Ak b.log (k:Int))/\(0 < k->Hj b.log k < (Ak b.log (k:Int)).A5)) (Q:=True)
  (B:=lX b) (L:=lY b) (λm i=>rfl) (λk hk=>?_) λ_=>⟨true,λκ=>?_,by simp⟩
 .refine this.iff ?_
  rw[and_true,Y3u];constructor
  .intro h k hk
   refine⟨(h k hk).1,?_⟩;cases k with
   | zero=>have:=(h 0 hk).1.1.1;simp only[Hj];omega
   | succ k=>exact (h (k+1) hk).2 (by omega)
  .intro h k hk
   exact⟨(h k hk).1,λ_=>(h k hk).2⟩
 .unfold lX
  simp only[Ah (show decide ((k:Int) < (b.log.length:Int))=true by simpa using hk),Xu (xs:=b.log) (i:=(k:Int)) (by omega) (by omega),Ag,Xx (Ak b.log (k:Int)).A5,Xd (a:=b.now) (b:=1) (by omega) (by omega)];by_cases e1:0<=(Ak b.log (k:Int)).A5/\(Ak b.log (k:Int)).A5 < b.now
  .have EF:0<=(Ak b.log (k:Int)).A5/\(Ak b.log (k:Int)).A5<=b.now - 1:=by omega
   simp only[EF,and_self,decide_true,D6,Bp,if_false];cases k with
   | zero=>
    simp only[show ¬(((0:Nat):Int) > 0) by omega,decide_false,Bp,if_false];rcases Yiw h1 Ya (Ak b.log ((0:Nat):Int)) with⟨h2,h3⟩|⟨h2,h3⟩
    .exact .inl ⟨⟨⟨e1,h2⟩,λh=>by omega⟩,λκ=>h3 _⟩
    .exact .inr ⟨λh=>h2 h.1.2,λκ=>h3 _⟩
   | succ k=>
    have ek:((k+1:Nat):Int) - 1=(k:Int):=by omega
    simp only[show ((k+1:Nat):Int) > 0 by omega,decide_true,if_true,Xd (a:=((k+1:Nat):Int)) (b:=1) (by omega) (by omega),ek,Xu (xs:=b.log) (i:=(k:Int)) (by omega) (by omega),Ag];by_cases e2:(Ak b.log (k:Int)).A5 < (Ak b.log ((k+1:Nat):Int)).A5
    .have HC:¬(Ak b.log ((k+1:Nat):Int)).A5<=(Ak b.log (k:Int)).A5:=by omega
     simp only[HC,decide_false,Bp,if_false];rcases Yiw h1 Ya (Ak b.log ((k+1:Nat):Int)) with⟨h2,h3⟩|⟨h2,h3⟩
     .exact .inl ⟨⟨⟨e1,h2⟩,λh=>e2⟩,λκ=>h3 _⟩
     .exact .inr ⟨λh=>h2 h.1.2,λκ=>h3 _⟩
    .have HC:(Ak b.log ((k+1:Nat):Int)).A5<=(Ak b.log (k:Int)).A5:=by omega
     exact .inr ⟨λh=>e2 (h.2 (by omega)),λκ=>by simp only[HC,decide_true,if_true]⟩
  .have EF:¬(0<=(Ak b.log (k:Int)).A5/\(Ak b.log (k:Int)).A5<=b.now - 1):=by omega
   exact .inr ⟨λh=>e1 h.1.1,λκ=>by simp only[decide_eq_false EF,Ga,if_true]⟩
 .unfold lX
  rw[Ai (by simp)]
theorem Yt7 (b:Za) (hs:b.sm):Xc (L0 b) (De b):=by
 have HD:Qv b true=some false:=by unfold Qv;rw[Ah rfl]
 unfold L0;rw[S0 _ hs.Ae,Ag];by_cases hc:Yq b.Ae=true
 .have Yp:=Km hc
  rw[hc,Ai (by simp),Xx,Ag];by_cases hn:0<=b.now/\b.now<=4000
  .rw[Ai (by simpa using hn)]
   by_cases h1:b.m.length=b.Ae.Ab.length
   .rw[Ai (by simp;omega)]
    by_cases h2:b.buckets.length=b.Ae.Ab.length
    .rw[Ai (by simp;omega)]
     by_cases h3:b.splits.length=b.Ae.Ab.length
     .rw[Ai (by simp;omega),Yaf _ _ hs.Ae,Ag]
      by_cases h4:CN b.Bo b.Ae=true
      .rw[h4,Ai (by simp),Xx,Ag,Xd (by omega) (by omega)]
       by_cases h5:b.last=-1\/Zo b.Ae b.last=true
       .have h5':-1<=b.last/\b.last<=(b.Ae.Ab.length:Int) - 1:=by
         rcases h5 with h5|h5
         .omega
         .simp only[Zo,Bl] at h5;omega
        rw[Ai (by simpa using h5'),Yeb _ hs.model,Ag];by_cases h6:SD b.model=true
        .rw[h6,Ai (by simp)]
         by_cases h7:0<=b.Aw
         .rw[Ai (by simpa using h7)]
          by_cases h8:b.Aw<=b.now
          .rw[decide_eq_false (by omega)]
           unfold Qv;rw[Ai (by simp)];have fH:=eY (n:=b.Ae.Ab.length) (by omega) (P:=λk=>Ij b.Ae b (k:Int)/\(Ak b.m (k:Int)).Ao - (Ak b.m (k:Int)).done=C1 b (k:Int))
            (Q:=((b.Aa.live=true->DA b b.Aa)/\K5 b)/\((b.addr.live=true->DA b b.addr)/\J8 b)/\GF b/\Nr b) (B:=lZ b) (L:=l5 b) (λm i=>rfl) (λk hk=>?_) λhP=>?_
           .refine fH.iff ⟨λh=>?_,λh=>?_⟩
            .obtain⟨h9,Eo,SG,fD,fE⟩:=h
             have hm:=(Vc (c:=b.Ae) (P:=λi=>Ij b.Ae b i/\(Ak b.m i).Ao - (Ak b.m i).done=C1 b i)).2 h9;exact⟨hc,hn,h1,h2,h3,λi hi=>(hm i hi).1,h4,h5,eW.1 h6,⟨h7,h8⟩,SG.1,Eo.1,λi hi=>(hm i hi).2,SG.2,Eo.2,fD,fE⟩
            .exact⟨λk hk=>⟨h.By _ (Gk hk),h.D1 _ (Gk hk)⟩,⟨h.B9,h.data⟩,⟨h.alive,h.addr⟩,h.held,h.log⟩
           .have hm:=Gk (c:=b.Ae) (k:=k) hk
            have Ns:=hs.By _ (Ph h1 hm);have hme:=Nn (JY hc hm);unfold lZ;simp only[Ah (show decide ((k:Int) < (b.Ae.Ab.length:Int))=true by simpa using hk),Wx h1 hm,Vd h2 hm,Ik h3 hm,Pg hm,Ag,tQ _ ⟨hme.1,hme.2.1⟩,Xx,Y9t];unfold Yfb;simp only[S0 _ hs.Ae,hc,if_true,Ag,UZ _ Ns];by_cases e1:Pc (Ak b.m (k:Int))=true
            .by_cases e2:(Ak b.m (k:Int)).tries<=b.Ae.An
             .by_cases e3:Y5 (Ak b.buckets (k:Int)) (Ak b.Ae.Ab (k:Int))=true
              .by_cases e4:0<=Ak b.splits (k:Int)/\Ak b.splits (k:Int)<=b.Ae.Ap
               .have TA:=GD (GC.1 e1)
                rw[Xd (by omega) (by omega)];by_cases e5:(Ak b.m (k:Int)).Ao - (Ak b.m (k:Int)).done=C1 b (k:Int)
                .refine .inl ⟨⟨⟨GC.1 e1,e2,e3,e4⟩,e5⟩,λκ=>?_⟩
                 simp[e1,e2,e3,e4,e5]
                .refine .inr ⟨λh=>e5 h.2,λκ=>?_⟩
                 simp[e1,e2,e3,e4,e5]
               .refine .inr ⟨λh=>e4 h.1.split,λκ=>?_⟩
                simp[e1,e2,e3,e4]
              .refine .inr ⟨λh=>e3 h.1.bucket,λκ=>?_⟩
               simp[e1,e2,e3]
             .refine .inr ⟨λh=>e2 h.1.tries,λκ=>?_⟩
              simp[e1,e2]
            .refine .inr ⟨λh=>e1 (GC.2 h.1.right),λκ=>?_⟩
             simp[e1]
           .have hm:=(Vc (c:=b.Ae) (P:=λi=>Ij b.Ae b i/\(Ak b.m i).Ao - (Ak b.m i).done=C1 b i)).2 hP
            have UW:∀i,Zo b.Ae i=true->Ij b.Ae b i:=λi hi=>(hm i hi).1;have hT:Xc ((MQ b b.Aa true).bind λr903=>if r903=true then (MQ b b.addr false).bind λr908=>if r908=true then (aE b).bind λr912=>if r912=true then (aF b).bind λr916=>some r916 else some false else some false else some false)
              (((b.Aa.live=true->DA b b.Aa)/\K5 b)/\((b.addr.live=true->DA b b.addr)/\J8 b)/\GF b/\Nr b):=by
             refine Xc.and (Ypn b hs hc h1 h3 UW) λ_=>?_;refine Xc.and (Yps b hs hc h1 h3 UW) λ_=>?_;refine Xc.and (Ylr b hc h1 h3 UW) λ_=>?_;obtain⟨r,h9,Eo⟩:=Ypz b hc h1 hs.log hn;rw[h9];exact .of Eo
            obtain⟨r,h9,Eo⟩:=hT;refine⟨r,λκ=>?_,Eo⟩;unfold lZ;rw[Ai (by simp)];exact h9
          .rw[decide_eq_true (by omega),HD]
           exact .no λh=>h8 h.Aw.2
         .rw[Ah (by simpa using h7),HD]
          exact .no λh=>h7 h.Aw.1
        .rw[Ah (by simpa using h6),HD]
         exact .no λh=>h6 (eW.2 h.model)
       .have h5':¬(-1<=b.last/\b.last<=(b.Ae.Ab.length:Int) - 1):=by
         intro h6;apply h5;simp only[Zo,Bl];omega
        rw[Ah (by rw[decide_eq_false h5'];rfl),HD];exact .no λh=>h5 h.last
      .rw[Ah (by simpa using h4),HD]
       exact .no λh=>h4 h.Bo
     .rw[Ah (by simp;omega),HD]
      exact .no λh=>h3 h.sl
    .rw[Ah (by simp;omega),HD]
     exact .no λh=>h2 h.bl
   .rw[Ah (by simp;omega),HD]
    exact .no λh=>h1 h.ml
  .rw[Ah (by rw[decide_eq_false hn];rfl),HD]
   exact .no λh=>hn h.now
 .rw[Ah (by simpa using hc),HD]
  exact .no λh=>hc h.Ae
theorem Ykr (b:Za) (hs:b.sm):∃r,U8 b=some r/\L0 b=some r/\(r=true↔De b):=(Yur b hs).eq (Yt7 b hs)
def GG (l:List Int) (k:Int):Int:=if l=[]\/k < 0 then 0 else Ak l (k % (l.length:Int))
def Im (c:Zg) (s:Zb) (k:Int):Int:=max 0 (min (GG s.waits k) c.As)
def Gl (s:Zb) (k:Int):Int:=if GG s.A3 k=2\/GG s.A3 k=3 then GG s.A3 k else 0
def HE (c:Zg) (s:Zb) (k:Int):Int:=max 1 (min (max 0 (min (GG s.waits k) 99)+1) c.Ap)
def FQ (b:Za):Zr:=
 Zr.mk b.now (if b.addr.live then Xt (Ak b.m b.addr.Aj) b.addr.Ao else -1) (if b.addr.live then (if b.addr.first then 2 else 3) else 0) (if b.addr.live then b.addr.Aj else -1)
  (if b.Aa.live then Xt (Ak b.m b.Aa.Aj) b.Aa.Ao else -1) (if b.Aa.live then b.Aa.Aj else -1) true 0 (-1)
def ES (s:Zb) (t:Int):List Zm:=s.Am.filter λp=>decide (p.at_=t)
def Er (b:Za) (p:Zm):Za:=if Zo b.Ae p.Aj=true then {b with m:=b.m.set p.Aj.toNat (Dz (Ak b.m p.Aj) p.Bq)} else b
def Wd (b:Za) (ps:List Zm):Za:=ps.foldl Er b
def Xo (b:Za):Za:={b with splits:=b.splits.map λn=>max (n - 1) 0,buckets:=List.zipWith JZ b.buckets b.Ae.Ab}
def ET (b:Za):Za:=if b.Af=-1 then b else {b with held:=min (b.held+1) b.Ae.Al}
def Y4y (b:Za):Za:={b with Af:=-1,held:=0}
def Wz (b:Za) (x:Zi):Za:=
 if x.B5=1 then {b with m:=b.m.set x.Aj.toNat (DR (Ak b.m x.Aj)),buckets:=b.buckets.set x.Aj.toNat (S1 (Ak b.buckets x.Aj) (Ak b.Ae.Ab x.Aj))}
 else if x.B5=2 then {b with m:=b.m.set x.Aj.toNat (DR (Ak b.m x.Aj)),Bo:=S4 b.Bo b.Ae x.Aj}
 else {b with m:=b.m.set x.Aj.toNat (DR (Ak b.m x.Aj))}
def Pm (m:Zh) (k:Int):Int:=if (Ak m.queue 0).write then Ak (Ak m.queue 0).Aa k else 0
def Io (b:Za) (x:Zi):Zf×Int×Int:=Q9 b.model (Ak (Ak b.m x.Aj).queue 0).write (Xt (Ak b.m x.Aj) x.Ao) (Ak (Ak b.m x.Aj).queue 0).size (Pm (Ak b.m x.Aj) x.Ao)
def fI (b:Za) (x:Zi):Zt:=Zt.mk b.now x.Aj (Ak (Ak b.m x.Aj).queue 0).write (Xt (Ak b.m x.Aj) x.Ao) (Ak (Ak b.m x.Aj).queue 0).size (if x.Ar=0 then (Io b x).2.1 else 0) x.Ar
def Nu (b:Za) (x:Zi):Za:=
 {b with model:=if x.Ar=0 then (Io b x).1 else b.model,log:=b.log++[fI b x],m:=b.m.set x.Aj.toNat (CA (Ak b.m x.Aj)),Af:=if b.Af=x.Aj/\(Ak b.m x.Aj).done+1=Zy (Ak b.m x.Aj) then -1 else b.Af,held:=if b.Af=x.Aj/\(Ak b.m x.Aj).done+1=Zy (Ak b.m x.Aj) then 0 else b.held}
def Z2 (b:Za) (s:Zb):Za×Bool×Int:=
 if b.Aa.live=false then (b,true,0)
 else if b.Aa.left > 0 then ({b with Aa:={b.Aa with left:=b.Aa.left - 1}},false,0)
 else if b.Aa.Ar≠0/\b.Aa.second=false then
  (if b.addr.live then {Wz {b with Aa:={b.Aa with second:=true}} b.addr with addr:=Zi.z0} else {b with Aa:={b.Aa with second:=true}},false,b.Aa.Ar)
 else if b.Aa.Ar=2 then (Wz {b with Aa:=Zi.z0,m:=b.m.set b.Aa.Aj.toNat {Ak b.m b.Aa.Aj with tries:=(Ak b.m b.Aa.Aj).tries+1}} b.Aa,true,b.Aa.Ar)
 else if b.Aa.Ar=3 then (Wz {b with Aa:=Zi.z0,m:=b.m.set b.Aa.Aj.toNat {Ak b.m b.Aa.Aj with Ay:=true},splits:=b.splits.set b.Aa.Aj.toNat (HE b.Ae s b.Aw)} b.Aa,true,b.Aa.Ar)
 else (Nu {b with Aa:=Zi.z0} b.Aa,true,b.Aa.Ar)
def Yy (b:Za):Za:=if b.Af≠-1/\b.held=b.Ae.Al then Y4y {b with m:=b.m.set b.Af.toNat {Ak b.m b.Af with broken:=true}} else b
def Hk (b:Za) (s:Zb) (x:Zi):Int×Int:=
 if (Ak b.m x.Aj).broken=true\/Y9 (Xt (Ak b.m x.Aj) x.Ao)=0 then (1,0) else
 (if Gl s b.Aw=2/\Y9 (Xt (Ak b.m x.Aj) x.Ao)≠3/\(Ak b.m x.Aj).tries < b.Ae.An then 2
  else if Gl s b.Aw=3/\Y9 (Xt (Ak b.m x.Aj) x.Ao)=2/\(Ak b.m x.Aj).Ay=false/\x.Aj≠b.Af then 3 else (Io b x).2.2,if Y9 (Xt (Ak b.m x.Aj) x.Ao)=3 then Im b.Ae s b.Aw+2 else Im b.Ae s b.Aw)
def Qm (b:Za) (s:Zb):Za:=if b.addr.live then {b with Aa:={b.addr with left:=(Hk b s b.addr).2,Ar:=(Hk b s b.addr).1},addr:=Zi.z0,Aw:=b.Aw+1} else b
def Jm (b:Za) (i:Int):Bool:=LL (Ak b.m i)&&(decide (Ak b.splits i=0)&&(decide (b.Af=-1)||decide (b.Af=i)))
def Kt (b:Za):List Bool:=(List.range b.m.length).map λk:Nat=>Jm b (k:Int)
def E4 (b:Za) (k:Nat):Bool:=Jm b (k:Int)&&(FO (Ak b.buckets (k:Int)) (Ak b.Ae.Ab (k:Int))).2
def Kq (b:Za):Int×Int×Za:=
 if b.Af≠-1/\Jm b b.Af=true then (b.Af,3,b)
 else match (List.range b.m.length).find? (E4 b) with
  | some k=>((k:Int),1,{b with buckets:=b.buckets.set k (FO (Ak b.buckets (k:Int)) (Ak b.Ae.Ab (k:Int))).1})
  | none=>if b.Af≠-1 then (-1,0,b) else ((FP b.Bo b.Ae (Kt b)).2,2,{b with Bo:=(FP b.Bo b.Ae (Kt b)).1})
def SN (b:Za) (Aj B5:Int):Za:=
 {b with addr:=Zi.mk true Aj (Ak b.m Aj).Ao (decide ((Ak b.m Aj).Ao=0)||decide (b.last≠Aj)) B5 0 0 false,Af:=if Yu (Ak b.m Aj)=true/\b.Af=-1 then Aj else b.Af,held:=if Yu (Ak b.m Aj)=true/\b.Af=-1 then 0 else b.held,m:=b.m.set Aj.toNat (Wp (Ak b.m Aj)),last:=Aj}
def J6 (b:Za):Int×Za:=if (Kq b).1 < 0 then (-1,(Kq b).2.2) else ((Kq b).1,SN (Kq b).2.2 (Kq b).1 (Kq b).2.1)
def Xy (b:Za) (s:Zb):Int×Za:=J6 (Qm (Yy b) s)
def Wj (b:Za) (s:Zb):Za:=ET (Xo (Wd b (ES s b.now)))
def D2 (b:Za) (s:Zb):Za×Zr:=
 if (Z2 (Wj b s) s).2.1=true then
  ({(Xy (Z2 (Wj b s) s).1 s).2 with now:=b.now+1},{FQ b with Ar:=(Z2 (Wj b s) s).2.2,C5:=(Xy (Z2 (Wj b s) s).1 s).1})
 else ({(Z2 (Wj b s) s).1 with now:=b.now+1},{FQ b with ready:=false,Ar:=(Z2 (Wj b s) s).2.2})
structure Y6 (n:Int) (b:Za):Prop where
 Ae:Yq b.Ae=true
 ml:b.m.length=b.Ae.Ab.length
 bl:b.buckets.length=b.Ae.Ab.length
 sl:b.splits.length=b.Ae.Ab.length
 By:∀i,Zo b.Ae i=true->Ij b.Ae b i
 Bo:CN b.Bo b.Ae=true
 last:b.last=-1\/Zo b.Ae b.last=true
 model:Ep b.model
 alive:b.addr.live=true->DA b b.addr
 B9:b.Aa.live=true->DA b b.Aa
 D1:∀i,Zo b.Ae i=true->(Ak b.m i).Ao - (Ak b.m i).done=C1 b i
 addr:J8 b
 data:K5 b
 held:GF b
 log:(∀d∈b.log,SE b.Ae n d)/\b.log.Pairwise λx y=>x.A5 < y.A5
theorem De.i {b:Za} (h:De b):Y6 b.now b:=⟨h.Ae,h.ml,h.bl,h.sl,h.By,h.Bo,h.last,h.model,h.alive,h.B9,h.D1,h.addr,h.data,h.held,h.log⟩
theorem fJ {α:Type} [Inhabited α] {xs:List α} {w i:Int} (a:α) (h0:0<=w) (h1:w < (xs.length:Int)) (hi:0<=i):Ak (xs.set w.toNat a) i=if i=w then a else Ak xs i:=by
 split
 .rename_i h;subst h;exact eH a h0 h1
 .rename_i h;exact Yrw a h0 hi (λh2=>h h2.symm)
theorem X7 {c:Zg} {i:Int} (h:Zo c i=true):0<=i/\i < (c.Ab.length:Int):=by simpa [Zo] using h
theorem Y6.GH {n:Int} {b:Za} (h:Y6 n b) {w:Int} (hw:Zo b.Ae w=true) (x:Zh) {i:Int} (hi:Zo b.Ae i=true):Ak (b.m.set w.toNat x) i=if i=w then x else Ak b.m i:=by
 have h1:=X7 hw;have h2:=X7 hi;exact fJ x h1.1 (by have:=h.ml;omega) h2.1
theorem Hl {n:Int} {b:Za} (h:Y6 n b) (hl:b.addr.live=true):Zo b.Ae b.addr.Aj=true:=(h.alive hl).1
theorem Kx {n:Int} {b:Za} (h:Y6 n b) (hl:b.Aa.live=true):Zo b.Ae b.Aa.Aj=true:=(h.B9 hl).1
theorem Y71 {m:Zh} {r:Zj} (hq:m.queue≠[]):(Dz m r).queue≠[]/\Ak (Dz m r).queue 0=Ak m.queue 0:=by
 unfold Dz;split
 .exact⟨by simp,Yiv hq⟩
 .exact⟨hq,rfl⟩
theorem Yrx (m:Zh) (r:Zj):(Dz m r).Ao=m.Ao/\(Dz m r).done=m.done/\(Dz m r).tries=m.tries/\(Dz m r).Ay=m.Ay/\(Dz m r).broken=m.broken:=by
 unfold Dz;split<;>exact⟨rfl,rfl,rfl,rfl,rfl⟩
theorem Y64 {m:Zh} {r:Zj} (hq:m.queue≠[]):Yu (Dz m r)=Yu m:=by
 have h:=Y71 (r:=r) hq;have h2:=Yrx m r;unfold Yu;rw[h.2,h2.2.2.2.2];simp[h.1,hq]
theorem Yu9 {m:Zh} (h:Yu m=true):m.queue≠[]:=by
 intro hq;simp[Yu,hq] at h
theorem Y4o {n:Int} {b:Za} {p:Zm} (h:Y6 n b):Y6 n (Er b p):=by
 unfold Er;split
 .rename_i hw
  have ha:=λ{i} hi=>h.GH hw (Dz (Ak b.m p.Aj) p.Bq) (i:=i) hi;have hs:=Yrx (Ak b.m p.Aj) p.Bq;have Ve:∀i,Zo b.Ae i=true->(Ak (b.m.set p.Aj.toNat (Dz (Ak b.m p.Aj) p.Bq)) i).Ao=(Ak b.m i).Ao/\(Ak (b.m.set p.Aj.toNat (Dz (Ak b.m p.Aj) p.Bq)) i).done=(Ak b.m i).done/\(Ak (b.m.set p.Aj.toNat (Dz (Ak b.m p.Aj) p.Bq)) i).tries=(Ak b.m i).tries/\(Ak (b.m.set p.Aj.toNat (Dz (Ak b.m p.Aj) p.Bq)) i).Ay=(Ak b.m i).Ay:=by
   intro i hi;rw[ha hi];split
   .rename_i e;subst e;exact⟨hs.1,hs.2.1,hs.2.2.1,hs.2.2.2.1⟩
   .exact⟨rfl,rfl,rfl,rfl⟩
  have Nv:∀i,Zo b.Ae i=true->(Ak b.m i).queue≠[]->Yu (Ak (b.m.set p.Aj.toNat (Dz (Ak b.m p.Aj) p.Bq)) i)=Yu (Ak b.m i):=by
   intro i hi hq;rw[ha hi];split
   .rename_i e;subst e;exact Y64 hq
   .rfl
  refine⟨h.Ae,by simp[h.ml],h.bl,h.sl,λi hi=>?_,h.Bo,h.last,h.model,h.alive,h.B9,λi hi=>?_,?_,?_,?_,h.log⟩
  .have hm:=h.By i hi
   refine⟨?_,by have:=(Ve i hi).2.2.1;simp only at this ⊢;rw[this];exact hm.tries,hm.bucket,hm.split⟩;show Y2 (Ak (b.m.set p.Aj.toNat (Dz (Ak b.m p.Aj) p.Bq)) i);rw[ha hi];split
   .exact Y5y (h.By _ hw).right
   .exact hm.right
  .show (Ak (b.m.set p.Aj.toNat (Dz (Ak b.m p.Aj) p.Bq)) i).Ao - (Ak (b.m.set p.Aj.toNat (Dz (Ak b.m p.Aj) p.Bq)) i).done=C1 b i
   rw[(Ve i hi).1,(Ve i hi).2.1];exact h.D1 i hi
  .have:=h.addr
   unfold J8 at this ⊢;simp only;by_cases hl:b.addr.live=true
   .rw[Ah hl] at this ⊢
    rw[(Ve _ (Hl h hl)).1];exact this
   .rw[Ai hl] at this ⊢;exact this
  .have:=h.data
   unfold K5 at this ⊢;simp only;by_cases hl:b.Aa.live=true
   .rw[Ah hl] at this ⊢
    have e:=Ve _ (Kx h hl);rw[e.2.1,e.2.2.1,e.2.2.2];exact this
   .rw[Ai hl] at this ⊢;exact this
  .obtain⟨h1,h2⟩:=h.held
   refine⟨λi hi hb hk=>?_,?_⟩
   .simp only at hb hk
    have US:Zo b.Ae i=true:=hi;rw[(Ve i US).1] at hb;have hq:(Ak b.m i).queue≠[]:=by
     intro hq;have:=(h.By i US).right.none hq;omega
    rw[Nv i US hq] at hk;exact h1 i US hb hk
   .simp only
    split
    .rename_i e;rw[Ah e] at h2;exact h2
    .rename_i e
     rw[Ai e] at h2;exact⟨h2.1,by rw[Nv _ h2.1 (Yu9 h2.2.1)];exact h2.2.1,h2.2.2⟩
 .exact h
theorem fL {n:Int} {b:Za} (h:Y6 n b) (ps:List Zm):Y6 n (Wd b ps):=by
 induction ps generalizing b with
 | nil=>exact h
 | cons p ps ih=>exact ih (Y4o h)
theorem Yvr (b:Za) (p:Zm):(Er b p).Ae=b.Ae/\(Er b p).now=b.now/\(Er b p).Aw=b.Aw/\(Er b p).log=b.log/\(Er b p).model=b.model/\(Er b p).Af=b.Af/\(Er b p).held=b.held/\(Er b p).addr=b.addr/\(Er b p).Aa=b.Aa/\(Er b p).splits=b.splits/\(Er b p).buckets=b.buckets/\(Er b p).Bo=b.Bo/\(Er b p).last=b.last:=by
 unfold Er;split<;>exact⟨rfl,rfl,rfl,rfl,rfl,rfl,rfl,rfl,rfl,rfl,rfl,rfl,rfl⟩
theorem fM (b:Za) (ps:List Zm):(Wd b ps).Ae=b.Ae/\(Wd b ps).now=b.now/\(Wd b ps).Aw=b.Aw/\(Wd b ps).log=b.log/\(Wd b ps).model=b.model/\(Wd b ps).Af=b.Af/\(Wd b ps).held=b.held/\(Wd b ps).addr=b.addr/\(Wd b ps).Aa=b.Aa/\(Wd b ps).splits=b.splits/\(Wd b ps).buckets=b.buckets/\(Wd b ps).Bo=b.Bo/\(Wd b ps).last=b.last:=by
 induction ps generalizing b with
 | nil=>exact⟨rfl,rfl,rfl,rfl,rfl,rfl,rfl,rfl,rfl,rfl,rfl,rfl,rfl⟩
 | cons p ps ih=>
  have h1:=ih (Er b p);have h2:=Yvr b p;simp only[h2] at h1;exact h1
theorem SO {α β:Type} [Inhabited α] [Inhabited β] (f:α->β) {xs:List α} {i:Int} (h0:0<=i) (h1:i < (xs.length:Int)):Ak (xs.map f) i=f (Ak xs i):=by
 obtain⟨k,rfl⟩:∃k:Nat,i=k:=⟨i.toNat,by omega⟩;have hk:k < xs.length:=by omega
 rw[Qp hk,Qp (by simpa using hk)];simp
theorem SP {α β γ:Type} [Inhabited α] [Inhabited β] [Inhabited γ] (f:α->β->γ) {xs:List α} {ys:List β} {i:Int} (h0:0<=i) (h1:i < (xs.length:Int)) (h2:i < (ys.length:Int)):Ak (List.zipWith f xs ys) i=f (Ak xs i) (Ak ys i):=by
 obtain⟨k,rfl⟩:∃k:Nat,i=k:=⟨i.toNat,by omega⟩;have hk:k < xs.length:=by omega
 have Ea:k < ys.length:=by omega
 rw[Qp hk,Qp Ea,Qp (by simp;omega)];simp
theorem Ybb {n:Int} {b:Za} (h:Y6 n b):Y6 n (Xo b):=by
 have KE:∀i,Zo b.Ae i=true->Ak (b.splits.map λn=>max (n - 1) 0) i=max (Ak b.splits i - 1) 0:=λi hi=>by
  have:=X7 hi;exact SO _ this.1 (by have:=h.sl;omega)
 have hbu:∀i,Zo b.Ae i=true->Ak (List.zipWith JZ b.buckets b.Ae.Ab) i=JZ (Ak b.buckets i) (Ak b.Ae.Ab i):=λi hi=>by
  have:=X7 hi;exact SP _ this.1 (by have:=h.bl;omega) this.2
 have h0:∀i,Zo b.Ae i=true->Ak b.splits i=0->Ak (b.splits.map λn=>max (n - 1) 0) i=0:=λi hi e=>by rw[KE i hi,e];rfl
 refine⟨h.Ae,h.ml,by simp[Xo,h.bl],by simp[Xo,h.sl],λi hi=>?_,h.Bo,h.last,h.model,λhl=>?_,λhl=>?_,h.D1,h.addr,h.data,?_,h.log⟩
 .have hm:=h.By i hi
  refine⟨hm.right,hm.tries,?_,?_⟩
  .show Y5 (Ak (List.zipWith JZ b.buckets b.Ae.Ab) i) _=true
   rw[hbu i hi];exact Xd4 hm.bucket (JY h.Ae hi)
  .show 0<=Ak (b.splits.map λn=>max (n - 1) 0) i/\_
   have:=hm.split;have hx:=(Qd h.Ae).2.2.2;show 0<=Ak (b.splits.map λn=>max (n - 1) 0) i/\Ak (b.splits.map λn=>max (n - 1) 0) i<=b.Ae.Ap;rw[KE i hi];omega
 .obtain⟨h1,h2,h3⟩:=h.alive hl
  exact⟨h1,h2,h0 _ h1 h3⟩
 .obtain⟨h1,h2,h3⟩:=h.B9 hl
  exact⟨h1,h2,h0 _ h1 h3⟩
 .obtain⟨h1,h2⟩:=h.held
  refine⟨h1,?_⟩;show if b.Af=-1 then b.held=0 else _
  split
  .rename_i e;rw[Ah e] at h2;exact h2
  .rename_i e
   rw[Ai e] at h2;exact⟨h2.1,h2.2.1,h0 _ h2.1 h2.2.2.1,h2.2.2.2⟩
theorem Y52 {n:Int} {b:Za} (h:Y6 n b):Y6 n (ET b):=by
 unfold ET;split
 .exact h
 .rename_i e
  refine⟨h.Ae,h.ml,h.bl,h.sl,λi hi=>?_,h.Bo,h.last,h.model,h.alive,h.B9,h.D1,h.addr,h.data,?_,h.log⟩
  .have hm:=h.By i hi;exact⟨hm.right,hm.tries,hm.bucket,hm.split⟩
  .obtain⟨h1,h2⟩:=h.held
   refine⟨h1,?_⟩;rw[Ai e] at h2;show if b.Af=-1 then _ else _
   rw[Ai e];have hl:=(Qd h.Ae).2.2.1;refine⟨h2.1,h2.2.1,h2.2.2.1,?_⟩;have:=h2.2.2.2;show 0<=min (b.held+1) b.Ae.Al/\min (b.held+1) b.Ae.Al<=b.Ae.Al;omega
theorem Yrm {b b':Za} (h:GF b) (hc:b'.Ae=b.Ae) (hh:b'.Af=b.Af) (hd:b'.held=b.held)
  (hm:∀i,Zo b.Ae i=true->Yu (Ak b'.m i)=Yu (Ak b.m i)/\((Ak b'.m i).Ao > 0->(Ak b.m i).Ao > 0)) (hs:b.Af≠-1->Ak b.splits b.Af=0->Ak b'.splits b.Af=0):GF b':=by
 obtain⟨h1,h2⟩:=h;unfold GF;rw[hc,hh,hd];refine⟨λi hi hb hk=>h1 i hi ((hm i hi).2 hb) (by rw[<-(hm i hi).1];exact hk),?_⟩;split
 .rename_i e;rw[Ah e] at h2;exact h2
 .rename_i e
  rw[Ai e] at h2;exact⟨h2.1,by rw[(hm _ h2.1).1];exact h2.2.1,hs e h2.2.2.1,h2.2.2.2⟩
theorem Ysr (m:Zh):(DR m).queue=m.queue/\(DR m).done=m.done/\(DR m).tries=m.tries/\(DR m).Ay=m.Ay/\(DR m).broken=m.broken:=by
 unfold DR;split<;>exact⟨rfl,rfl,rfl,rfl,rfl⟩
theorem fN {m m':Zh} (h1:m'.queue=m.queue) (h2:m'.broken=m.broken):Yu m'=Yu m:=by
 unfold Yu;rw[h1,h2]
structure Xex (b r:Za) (x:Zi):Prop where
 Ae:r.Ae=b.Ae
 m:r.m=b.m.set x.Aj.toNat (DR (Ak b.m x.Aj))
 bl:r.buckets.length=b.Ae.Ab.length
 bk:∀i,Zo b.Ae i=true->Y5 (Ak r.buckets i) (Ak b.Ae.Ab i)=true
 Bo:CN r.Bo b.Ae=true
 splits:r.splits=b.splits
 Af:r.Af=b.Af
 held:r.held=b.held
 addr:r.addr=b.addr
 data:r.Aa=b.Aa
 model:r.model=b.model
 log:r.log=b.log
 last:r.last=b.last
 now:r.now=b.now
 Aw:r.Aw=b.Aw
theorem Yfv {b:Za} {x:Zi} (hc:Yq b.Ae=true) (hw:Zo b.Ae x.Aj=true) (Lb:b.buckets.length=b.Ae.Ab.length) (DU:∀i,Zo b.Ae i=true->Y5 (Ak b.buckets i) (Ak b.Ae.Ab i)=true) (SQ:CN b.Bo b.Ae=true):Xex b (Wz b x) x:=by
 have hb:=X7 hw;unfold Wz;split
 .refine⟨rfl,rfl,by simp[Lb],λi hi=>?_,SQ,rfl,rfl,rfl,rfl,rfl,rfl,rfl,rfl,rfl,rfl⟩
  show Y5 (Ak (b.buckets.set x.Aj.toNat _) i) _=true;rw[fJ _ hb.1 (by omega) (X7 hi).1];split
  .rename_i e;subst e;exact Xbf (DU _ hi) (JY hc hi)
  .exact DU i hi
 .split
  .exact⟨rfl,rfl,Lb,DU,Xb2 _ SQ,rfl,rfl,rfl,rfl,rfl,rfl,rfl,rfl,rfl,rfl⟩
  .exact⟨rfl,rfl,Lb,DU,SQ,rfl,rfl,rfl,rfl,rfl,rfl,rfl,rfl,rfl,rfl⟩
theorem Y6.mono {n:Int} {b:Za} (h:Y6 n b):Y6 (n+1) b:=
 ⟨h.Ae,h.ml,h.bl,h.sl,h.By,h.Bo,h.last,h.model,h.alive,h.B9,h.D1,h.addr,h.data,h.held,λd hd=>by have:=h.log.1 d hd;exact⟨⟨this.1.1,by have:=this.1.2;omega⟩,this.2⟩,h.log.2⟩
theorem Y22 {n:Int} {b:Za} (h:Y6 n b) (hl:b.addr.live=true):(Ak b.m b.addr.Aj).Ao - (Ak b.m b.addr.Aj).done≥1:=by
 rw[h.D1 _ (Hl h hl)];unfold C1;rw[Ah ⟨hl,rfl⟩];split<;>omega
theorem Vf {n:Int} {b:Za} (h:Y6 n b) (hl:b.Aa.live=true):(Ak b.m b.Aa.Aj).Ao - (Ak b.m b.Aa.Aj).done≥1:=by
 rw[h.D1 _ (Kx h hl)];unfold C1;rw[Ah (⟨hl,rfl⟩:b.Aa.live=true/\b.Aa.Aj=b.Aa.Aj)];split<;>omega
theorem Y60 {n:Int} {b:Za} (h:Y6 n b) (hd:b.Aa.live=true) (hl:b.Aa.left > 0):Y6 n {b with Aa:={b.Aa with left:=b.Aa.left - 1}}:=by
 refine⟨h.Ae,h.ml,h.bl,h.sl,λi hi=>?_,h.Bo,h.last,h.model,h.alive,λ_=>h.B9 hd,λi hi=>?_,h.addr,?_,h.held,h.log⟩
 .have hm:=h.By i hi;exact⟨hm.right,hm.tries,hm.bucket,hm.split⟩
 .have:=h.D1 i hi
  unfold C1 at this ⊢;exact this
 .have:=h.data
  unfold K5 at this ⊢;rw[Ah hd] at this;simp only;rw[Ah hd];refine⟨⟨this.1.1,by have:=this.1.2.1;omega,this.1.2.2⟩,this.2.1,this.2.2.1,λhs=>?_⟩;have:=(this.2.2.2 hs).1;omega
theorem Y5p {n:Int} {b:Za} (h:Y6 n b) (hd:b.Aa.live=true) (hl:b.Aa.left=0) (hr:b.Aa.Ar≠0):
  Y6 n (if b.addr.live then {Wz {b with Aa:={b.Aa with second:=true}} b.addr with addr:=Zi.z0} else {b with Aa:={b.Aa with second:=true}}):=by
 have CY:=h.data;unfold K5 at CY;rw[Ah hd] at CY;by_cases ha:b.addr.live=true
 .rw[Ah ha]
  have hw:=Hl h ha;have hb:=X7 hw;have hf:=Yfv (b:={b with Aa:={b.Aa with second:=true}}) (x:=b.addr) h.Ae hw h.bl (λi hi=>(h.By i hi).bucket) h.Bo;generalize Wz {b with Aa:={b.Aa with second:=true}} b.addr=r at hf;have CJ:∀i,Zo b.Ae i=true->Ak r.m i=if i=b.addr.Aj then DR (Ak b.m b.addr.Aj) else Ak b.m i:=λi hi=>by
   rw[hf.m];exact h.GH hw _ hi
  have hs:=Ysr (Ak b.m b.addr.Aj);have DB:∀i,Zo b.Ae i=true->(Ak r.m i).queue=(Ak b.m i).queue/\(Ak r.m i).done=(Ak b.m i).done/\(Ak r.m i).tries=(Ak b.m i).tries/\(Ak r.m i).Ay=(Ak b.m i).Ay/\(Ak r.m i).broken=(Ak b.m i).broken:=λi hi=>by
   rw[CJ i hi];split
   .rename_i e;subst e;exact hs
   .exact⟨rfl,rfl,rfl,rfl,rfl⟩
  have hp:=Y22 h ha;have Jy:(DR (Ak b.m b.addr.Aj)).Ao=(Ak b.m b.addr.Aj).Ao - 1:=by
   unfold DR;rw[Ai (by omega)]
  refine⟨by rw[show ({r with addr:=Zi.z0}:Za).Ae=r.Ae from rfl,hf.Ae];exact h.Ae,?_,?_,?_,λi hi=>?_,?_,?_,?_,λhx=>?_,λhx=>?_,λi hi=>?_,?_,?_,?_,?_⟩
  .show r.m.length=r.Ae.Ab.length
   rw[hf.m,hf.Ae];simp[h.ml]
  .show r.buckets.length=r.Ae.Ab.length
   rw[hf.bl,hf.Ae]
  .show r.splits.length=r.Ae.Ab.length
   rw[hf.splits,hf.Ae];exact h.sl
  .have Y7:Zo b.Ae i=true:=by rw[<-show r.Ae=b.Ae from hf.Ae];exact hi
   have hm:=h.By i Y7;refine⟨?_,?_,?_,?_⟩
   .show Y2 (Ak r.m i)
    rw[CJ i Y7];split
    .exact Yne (h.By _ hw).right
    .exact hm.right
   .show (Ak r.m i).tries<=r.Ae.An
    rw[(DB i Y7).2.2.1,hf.Ae];exact hm.tries
   .show Y5 (Ak r.buckets i) (Ak r.Ae.Ab i)=true
    rw[hf.Ae];exact hf.bk i Y7
   .show 0<=Ak r.splits i/\Ak r.splits i<=r.Ae.Ap
    rw[hf.splits,hf.Ae];exact hm.split
  .show CN r.Bo r.Ae=true
   rw[hf.Ae];exact hf.Bo
  .show r.last=-1\/Zo r.Ae r.last=true
   rw[hf.last,hf.Ae];exact h.last
  .show Ep r.model
   rw[hf.model];exact h.model
  .cases hx
  .have EC:r.Aa.live=true:=hx
   obtain⟨h1,h2,h3⟩:=h.B9 hd;refine⟨?_,?_,?_⟩
   .show Zo r.Ae r.Aa.Aj=true
    rw[hf.Ae,hf.data];exact h1
   .show 1<=r.Aa.B5/\r.Aa.B5<=3
    rw[hf.data];exact h2
   .show Ak r.splits r.Aa.Aj=0
    rw[hf.splits,hf.data];exact h3
  .have Y7:Zo b.Ae i=true:=by rw[<-show r.Ae=b.Ae from hf.Ae];exact hi
   show (Ak r.m i).Ao - (Ak r.m i).done=C1 {r with addr:=Zi.z0} i;have BK:=h.D1 i Y7;unfold C1 at BK ⊢;simp only[hf.data];rw[(DB i Y7).2.1,CJ i Y7];by_cases e:i=b.addr.Aj
   .subst e
    rw[Ah rfl,Jy];rw[Ah ⟨ha,rfl⟩] at BK;simp only[Bp,false_and,if_false];omega
   .rw[Ai e]
    rw[Ai (λhx=>e hx.2.symm)] at BK;simp only[Bp,false_and,if_false];exact BK
  .unfold J8
   simp
  .unfold K5
   show if r.Aa.live=true then _ else _
   simp only[hf.data,hf.Ae,hf.Af];rw[Ah hd];have e:=DB _ (Kx h hd);rw[e.2.1,e.2.2.1,e.2.2.2.1];exact⟨CY.1,CY.2.1,CY.2.2.1,λ_=>⟨hl,hr,trivial⟩⟩
  .refine Yrm (b:=b) h.held hf.Ae hf.Af hf.held (λi hi=>⟨fN (DB i hi).1 (DB i hi).2.2.2.2,λhx=>?_⟩) (λ_ hx=>by show Ak r.splits b.Af=0;rw[hf.splits];exact hx)
   show (Ak b.m i).Ao > 0;have EC:(Ak r.m i).Ao > 0:=hx;rw[CJ i hi] at EC;split at EC
   .rename_i e;subst e;rw[Jy] at EC;omega
   .exact EC
  .show (∀d∈r.log,SE r.Ae n d)/\r.log.Pairwise _
   rw[hf.log,hf.Ae];exact h.log
 .rw[Ai ha]
  refine⟨h.Ae,h.ml,h.bl,h.sl,λi hi=>?_,h.Bo,h.last,h.model,h.alive,λ_=>h.B9 hd,λi hi=>?_,h.addr,?_,h.held,h.log⟩
  .have hm:=h.By i hi;exact⟨hm.right,hm.tries,hm.bucket,hm.split⟩
  .have:=h.D1 i hi
   unfold C1 at this ⊢;exact this
  .unfold K5
   simp only;rw[Ah hd];exact⟨CY.1,CY.2.1,CY.2.2.1,λ_=>⟨hl,hr,by simpa using ha⟩⟩
theorem Ymk {n:Int} {b:Za} (h:Y6 n b) (hd:b.Aa.live=true) (ha:b.addr.live=false) (x:Zh) (sp:List Int) (hq:x.queue=(Ak b.m b.Aa.Aj).queue) (hbe:x.Ao=(Ak b.m b.Aa.Aj).Ao) (Vg:x.done=(Ak b.m b.Aa.Aj).done) (hbr:x.broken=(Ak b.m b.Aa.Aj).broken)
  (ht:0<=x.tries/\x.tries<=b.Ae.An) (Gv:sp.length=b.splits.length) (KE:∀i,Zo b.Ae i=true->0<=Ak sp i/\Ak sp i<=b.Ae.Ap) (QD:b.Af≠-1->Ak b.splits b.Af=0->Ak sp b.Af=0):
  Y6 n (Wz {b with Aa:=Zi.z0,m:=b.m.set b.Aa.Aj.toNat x,splits:=sp} b.Aa):=by
 have hw:=Kx h hd;have hb:=X7 hw;have hf:=Yfv (b:={b with Aa:=Zi.z0,m:=b.m.set b.Aa.Aj.toNat x,splits:=sp}) (x:=b.Aa) h.Ae hw h.bl (λi hi=>(h.By i hi).bucket) h.Bo;generalize Wz {b with Aa:=Zi.z0,m:=b.m.set b.Aa.Aj.toNat x,splits:=sp} b.Aa=r at hf;have Cm:=(h.By _ hw).right;have hp:=Vf h hd;have Yj:(Ak b.m b.Aa.Aj).queue≠[]:=LM Cm (by omega);have hxr:Y2 x:=by
  have h2:=Cm.some Yj;refine⟨by rw[hq];exact Cm.len,ht.1,by rw[hq];exact Cm.reqs,λhx=>absurd (by rw[<-hq];exact hx) Yj,λ_=>?_⟩;have:Zy x=Zy (Ak b.m b.Aa.Aj):=by unfold Zy;rw[hq]
  rw[this,hbe,Vg];exact h2
 have zI:Ak (b.m.set b.Aa.Aj.toNat x) b.Aa.Aj=x:=eH x hb.1 (by have:=h.ml;omega);have CJ:∀i,Zo b.Ae i=true->Ak r.m i=if i=b.Aa.Aj then DR x else Ak b.m i:=λi hi=>by
  have Y7:=X7 hi;rw[hf.m];show Ak ((b.m.set b.Aa.Aj.toNat x).set b.Aa.Aj.toNat (DR (Ak (b.m.set b.Aa.Aj.toNat x) b.Aa.Aj))) i=_;rw[zI,List.set_set];exact h.GH hw _ hi
 have hs:=Ysr x;have Jy:(DR x).Ao=(Ak b.m b.Aa.Aj).Ao - 1:=by
  unfold DR;rw[Ai (by rw[hbe,Vg];omega)];simp only[hbe]
 have hbz:Zi.z0.live=false:=rfl;refine⟨by rw[hf.Ae];exact h.Ae,?_,?_,?_,λi hi=>?_,?_,?_,?_,λhx=>?_,λhx=>?_,λi hi=>?_,?_,?_,?_,?_⟩
 .rw[hf.m,hf.Ae];simp[h.ml]
 .rw[hf.bl,hf.Ae]
 .rw[hf.splits,hf.Ae];show sp.length=_;rw[Gv];exact h.sl
 .have Y7:Zo b.Ae i=true:=by rw[<-show r.Ae=b.Ae from hf.Ae];exact hi
  have hm:=h.By i Y7;refine⟨?_,?_,?_,?_⟩
  .rw[CJ i Y7]
   split
   .exact Yne hxr
   .exact hm.right
  .rw[CJ i Y7,hf.Ae]
   split
   .rw[hs.2.2.1];exact ht.2
   .exact hm.tries
  .rw[hf.Ae];exact hf.bk i Y7
  .rw[hf.splits,hf.Ae];exact KE i Y7
 .rw[hf.Ae];exact hf.Bo
 .rw[hf.last,hf.Ae];exact h.last
 .rw[hf.model];exact h.model
 .rw[hf.addr] at hx;rw[show ({b with Aa:=Zi.z0,m:=b.m.set b.Aa.Aj.toNat x,splits:=sp}:Za).addr=b.addr from rfl,ha] at hx;cases hx
 .rw[hf.data] at hx;cases hx
 .have Y7:Zo b.Ae i=true:=by rw[<-show r.Ae=b.Ae from hf.Ae];exact hi
  have BK:=h.D1 i Y7;unfold C1 at BK ⊢;rw[hf.data,hf.addr,CJ i Y7];show _=(if b.addr.live=true/\b.addr.Aj=i then (1:Int) else 0)+(if Zi.z0.live=true/\Zi.z0.Aj=i then 1 else 0);rw[ha] at BK ⊢;simp only[Bp,false_and,if_false] at BK ⊢;by_cases e:i=b.Aa.Aj
  .subst e
   rw[Ah rfl,Jy,hs.2.1,Vg];rw[Ah (⟨hd,rfl⟩:b.Aa.live=true/\b.Aa.Aj=b.Aa.Aj)] at BK;omega
  .rw[Ai e]
   rw[Ai (λhx=>e hx.2.symm)] at BK;exact BK
 .have:=h.addr
  unfold J8 at this ⊢;rw[hf.addr];show if b.addr.live=true then _ else _
  rw[ha] at this ⊢;exact this
 .unfold K5
  rw[hf.data];show if Zi.z0.live=true then _ else _
  rw[Ai (by simp)]
 .refine Yrm (b:=b) h.held hf.Ae hf.Af hf.held (λi hi=>?_) (λh1 h2=>by rw[hf.splits];exact QD h1 h2)
  rw[CJ i hi];split
  .rename_i e;subst e
   refine⟨fN (by rw[hs.1,hq]) (by rw[hs.2.2.2.2,hbr]),λhx=>?_⟩;rw[Jy] at hx;omega
  .exact⟨rfl,id⟩
 .rw[hf.log,hf.Ae];exact h.log
theorem Yfd {m:Zh} (h:Y2 m) (hp:m.Ao - m.done≥1):(m.done+1=Zy m->m.Ao - m.done=1/\(CA m).queue=m.queue.tail/\(CA m).Ao=0/\(CA m).done=0/\(CA m).tries=0)/\
  (m.done+1≠Zy m->(CA m).queue=m.queue/\(CA m).Ao=m.Ao/\(CA m).done=m.done+1/\(CA m).tries=0/\(CA m).broken=m.broken/\(CA m).Ay=false):=by
 have h1:=h.some (LM h (by omega));unfold CA;constructor
 .intro e
  rw[Ai (by omega),Ah e];exact⟨by omega,rfl,rfl,rfl,rfl⟩
 .intro e
  rw[Ai (by omega),Ai e];exact⟨rfl,rfl,rfl,rfl,rfl,rfl⟩
theorem Yon {m:Zh} {k:Int} (h:Y2 m) (h0:0<=k) (h1:k < Zy m) (hw:(Ak m.queue 0).write=true):0<=k/\k < ((Ak m.queue 0).Aa.length:Int):=by
 have hq:m.queue≠[]:=by
  intro hq;unfold Zy at h1;rw[Ah hq] at h1;omega
 obtain⟨h2,h3,h4⟩:=tY h hq;have h5:=(KB h2).2.1;rw[Ah hw] at h5;omega
theorem Ydk {n:Int} {b:Za} (h:Y6 n b) (hd:b.Aa.live=true):0<=b.Aa.Ao/\b.Aa.Ao < Zy (Ak b.m b.Aa.Aj):=by
 have hw:=Kx h hd;have hp:=Vf h hd;have hr:=(h.By _ hw).right;have h1:=hr.some (LM hr (by omega));have h2:=h.data;unfold K5 at h2;rw[Ah hd] at h2;rw[h2.1.1];omega
theorem Ydq {n:Int} {b:Za} (h:Y6 n b) (hl:b.addr.live=true):0<=b.addr.Ao/\b.addr.Ao < Zy (Ak b.m b.addr.Aj):=by
 have hw:=Hl h hl;have hp:=Y22 h hl;have hr:=(h.By _ hw).right;have h1:=hr.some (LM hr (by omega));have h2:=h.addr;unfold J8 at h2;rw[Ah hl] at h2;rw[h2.1];omega
theorem Y1n {b:Za} (hn:0<=b.now) (h:Y6 b.now b) (hd:b.Aa.live=true) (hr:b.Aa.Ar=0\/b.Aa.Ar=1) (LP:b.Aa.Ar≠0->b.addr.live=false):Y6 (b.now+1) (Nu {b with Aa:=Zi.z0} b.Aa):=by
 have hw:=Kx h hd;have hb:=X7 hw;have Cm:=(h.By _ hw).right;have hp:=Vf h hd;have Yj:(Ak b.m b.Aa.Aj).queue≠[]:=LM Cm (by omega);have Jy:=Ydk h hd;have Vh:=Yxf Cm Jy.1 Jy.2;have CY:=h.data;unfold K5 at CY;rw[Ah hd] at CY;have uE:=Yam (w:=(Ak (Ak b.m b.Aa.Aj).queue 0).write) (v:=Pm (Ak b.m b.Aa.Aj) b.Aa.Ao) h.model Vh.2.1;have Ip:=Yfd Cm hp;have CJ:∀i,Zo b.Ae i=true->Ak (b.m.set b.Aa.Aj.toNat (CA (Ak b.m b.Aa.Aj))) i=if i=b.Aa.Aj then CA (Ak b.m b.Aa.Aj) else Ak b.m i:=λi hi=>h.GH hw _ hi
 have uF:(Ak b.m b.Aa.Aj).done+1=Zy (Ak b.m b.Aa.Aj)->b.addr.live=true->b.addr.Aj≠b.Aa.Aj:=by
  intro e hl e2;have h1:=(Ip.1 e).1;have h2:=h.D1 _ hw;unfold C1 at h2;rw[Ah (⟨hl,e2⟩:b.addr.live=true/\b.addr.Aj=b.Aa.Aj),Ah (⟨hd,rfl⟩:b.Aa.live=true/\b.Aa.Aj=b.Aa.Aj)] at h2;omega
 have hz:X3 0 (Ak (Ak b.m b.Aa.Aj).queue 0).size=true:=by
  have h1:=(S9 _).1 (Jz Vh.2.1).1;generalize (Ak (Ak b.m b.Aa.Aj).queue 0).size=s at h1;have:s=0\/s=1\/s=2:=by omega
  rcases this with rfl|rfl|rfl<;>decide
 refine⟨h.Ae,?_,h.bl,h.sl,λi hi=>?_,h.Bo,h.last,?_,h.alive,(λhx=>by cases hx),λi hi=>?_,?_,?_,?_,?_⟩
 .show (b.m.set b.Aa.Aj.toNat (CA (Ak b.m b.Aa.Aj))).length=_
  rw[KQ];exact h.ml
 .have Y7:Zo b.Ae i=true:=hi
  have hm:=h.By i Y7;refine⟨?_,?_,hm.bucket,hm.split⟩
  .show Y2 (Ak (b.m.set b.Aa.Aj.toNat (CA (Ak b.m b.Aa.Aj))) i)
   rw[CJ i Y7];split
   .exact Y8c Cm
   .exact hm.right
  .show (Ak (b.m.set b.Aa.Aj.toNat (CA (Ak b.m b.Aa.Aj))) i).tries<=b.Ae.An
   rw[CJ i Y7];split
   .have hl:=(Qd h.Ae).1
    by_cases e:(Ak b.m b.Aa.Aj).done+1=Zy (Ak b.m b.Aa.Aj)
    .rw[(Ip.1 e).2.2.2.2];omega
    .rw[(Ip.2 e).2.2.2.1];omega
   .exact hm.tries
 .show Ep (if b.Aa.Ar=0 then (Io {b with Aa:=Zi.z0} b.Aa).1 else b.model)
  split
  .exact uE.1
  .exact h.model
 .have Y7:Zo b.Ae i=true:=hi
  have BK:=h.D1 i Y7;show (Ak (b.m.set b.Aa.Aj.toNat (CA (Ak b.m b.Aa.Aj))) i).Ao - (Ak (b.m.set b.Aa.Aj.toNat (CA (Ak b.m b.Aa.Aj))) i).done=C1 (Nu {b with Aa:=Zi.z0} b.Aa) i;unfold C1 at BK ⊢;show _=(if b.addr.live=true/\b.addr.Aj=i then (1:Int) else 0)+(if Zi.z0.live=true/\Zi.z0.Aj=i then 1 else 0);rw[CJ i Y7];simp only[Bp,false_and,if_false];by_cases e:i=b.Aa.Aj
  .subst e
   rw[Ah rfl];rw[Ah (⟨hd,rfl⟩:b.Aa.live=true/\b.Aa.Aj=b.Aa.Aj)] at BK;by_cases e2:(Ak b.m b.Aa.Aj).done+1=Zy (Ak b.m b.Aa.Aj)
   .rw[(Ip.1 e2).2.2.1,(Ip.1 e2).2.2.2.1,Ai (λhx=>uF e2 hx.1 hx.2)]
    rfl
   .rw[(Ip.2 e2).2.1,(Ip.2 e2).2.2.1]
    omega
  .rw[Ai e]
   rw[Ai (λhx:b.Aa.live=true/\b.Aa.Aj=i=>e hx.2.symm)] at BK;omega
 .have hA:=h.addr
  unfold J8 at hA ⊢;show if b.addr.live=true then _ else _
  by_cases hl:b.addr.live=true
  .rw[Ah hl] at hA ⊢
   show b.addr.Ao=(Ak (b.m.set b.Aa.Aj.toNat (CA (Ak b.m b.Aa.Aj))) b.addr.Aj).Ao - 1/\_;rw[CJ _ (Hl h hl)];split
   .rename_i e
    have e2:¬(Ak b.m b.Aa.Aj).done+1=Zy (Ak b.m b.Aa.Aj):=λe2=>uF e2 hl e;rw[(Ip.2 e2).2.1,<-e];exact hA
   .exact hA
  .rw[Ai hl] at hA ⊢;exact hA
 .unfold K5
  show if Zi.z0.live=true then _ else _
  rw[Ai (by simp)];rfl
 .obtain⟨h1,h2⟩:=h.held
  show GF (Nu {b with Aa:=Zi.z0} b.Aa);unfold GF;show (∀i,Zo b.Ae i=true->(Ak (b.m.set b.Aa.Aj.toNat (CA (Ak b.m b.Aa.Aj))) i).Ao > 0->Yu (Ak (b.m.set b.Aa.Aj.toNat (CA (Ak b.m b.Aa.Aj))) i)=true->(if b.Af=b.Aa.Aj/\(Ak b.m b.Aa.Aj).done+1=Zy (Ak b.m b.Aa.Aj) then -1 else b.Af)=i)/\
   (if (if b.Af=b.Aa.Aj/\(Ak b.m b.Aa.Aj).done+1=Zy (Ak b.m b.Aa.Aj) then -1 else b.Af)=-1 then (if b.Af=b.Aa.Aj/\(Ak b.m b.Aa.Aj).done+1=Zy (Ak b.m b.Aa.Aj) then 0 else b.held)=0 else Zo b.Ae (if b.Af=b.Aa.Aj/\(Ak b.m b.Aa.Aj).done+1=Zy (Ak b.m b.Aa.Aj) then -1 else b.Af)=true/\Yu (Ak (b.m.set b.Aa.Aj.toNat (CA (Ak b.m b.Aa.Aj))) (if b.Af=b.Aa.Aj/\(Ak b.m b.Aa.Aj).done+1=Zy (Ak b.m b.Aa.Aj) then -1 else b.Af))=true/\Ak b.splits (if b.Af=b.Aa.Aj/\(Ak b.m b.Aa.Aj).done+1=Zy (Ak b.m b.Aa.Aj) then -1 else b.Af)=0/\(0<=(if b.Af=b.Aa.Aj/\(Ak b.m b.Aa.Aj).done+1=Zy (Ak b.m b.Aa.Aj) then 0 else b.held)/\(if b.Af=b.Aa.Aj/\(Ak b.m b.Aa.Aj).done+1=Zy (Ak b.m b.Aa.Aj) then 0 else b.held)<=b.Ae.Al))
  have NU:∀i,Zo b.Ae i=true->(Ak (b.m.set b.Aa.Aj.toNat (CA (Ak b.m b.Aa.Aj))) i).Ao > 0->Yu (Ak (b.m.set b.Aa.Aj.toNat (CA (Ak b.m b.Aa.Aj))) i)=true->b.Af=i/\¬(i=b.Aa.Aj/\(Ak b.m b.Aa.Aj).done+1=Zy (Ak b.m b.Aa.Aj)):=by
   intro i hi hx hk;rw[CJ i hi] at hx hk;by_cases e:i=b.Aa.Aj
   .rw[Ah e] at hx hk
    by_cases e2:(Ak b.m b.Aa.Aj).done+1=Zy (Ak b.m b.Aa.Aj)
    .rw[(Ip.1 e2).2.2.1] at hx;omega
    .have e3:=Ip.2 e2
     rw[e3.2.1] at hx;rw[fN e3.1 e3.2.2.2.2.1] at hk;subst e;exact⟨h1 _ hi hx hk,λhy=>e2 hy.2⟩
   .rw[Ai e] at hx hk
    exact⟨h1 i hi hx hk,λhy=>e hy.1⟩
  by_cases e:b.Af=b.Aa.Aj/\(Ak b.m b.Aa.Aj).done+1=Zy (Ak b.m b.Aa.Aj)
  .simp only[Ah e,if_true]
   refine⟨λi hi hx hk=>?_,trivial⟩;have:=NU i hi hx hk;exact absurd ⟨by rw[<-this.1];exact e.1,e.2⟩ this.2
  .simp only[Ai e]
   refine⟨λi hi hx hk=>(NU i hi hx hk).1,?_⟩;split
   .rename_i e2;rw[Ah e2] at h2;exact h2
   .rename_i e2
    rw[Ai e2] at h2;refine⟨h2.1,?_,h2.2.2.1,h2.2.2.2⟩;rw[CJ _ h2.1];split
    .rename_i e3
     have e4:¬(Ak b.m b.Aa.Aj).done+1=Zy (Ak b.m b.Aa.Aj):=λe4=>e ⟨e3,e4⟩;rw[fN (Ip.2 e4).1 (Ip.2 e4).2.2.2.2.1,<-e3];exact h2.2.1
    .exact h2.2.1
 .show (∀d∈b.log++[fI {b with Aa:=Zi.z0} b.Aa],SE b.Ae (b.now+1) d)/\(b.log++[fI {b with Aa:=Zi.z0} b.Aa]).Pairwise _
  refine⟨λd hx=>?_,?_⟩
  .rcases BP.1 hx with hx|hx
   .have:=h.log.1 d hx
    exact⟨⟨this.1.1,by have:=this.1.2;omega⟩,this.2⟩
   .rw[List.mem_singleton.1 hx]
    refine⟨⟨hn,by show b.now < b.now+1;omega⟩,hw,Vh.2.1,Vh.2.2.2,?_,hr⟩;show X3 (if b.Aa.Ar=0 then (Io {b with Aa:=Zi.z0} b.Aa).2.1 else 0) (Ak (Ak b.m b.Aa.Aj).queue 0).size=true;split
    .exact uE.2.1
    .exact hz
  .rw[List.pairwise_append]
   refine⟨h.log.2,List.pairwise_singleton _ _,λx hx y hy=>?_⟩;rw[List.mem_singleton.1 hy];exact (h.log.1 x hx).1.2
theorem Xcv {c:Zg} (h:Yq c=true) (s:Zb) (k:Int):1<=HE c s k/\HE c s k<=c.Ap:=by
 have:=(Qd h).2.2.2;unfold HE;omega
end Go.Proofs.YthdljdelfgofdaaGreatDoor.Ev
