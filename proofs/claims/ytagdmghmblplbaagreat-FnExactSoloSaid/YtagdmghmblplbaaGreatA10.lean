/- A part of the proof of FnExactSolo: see the text YtagdmghmblplbaaGreatLawFnExactSolo for what is proved and its conditions. Conditions here: those in each line. -/
import Derived.Test.YtagdmghmblplbaaGreatA9
set_option linter.unusedSimpArgs false
set_option linter.unusedVariables false
set_option linter.unusedSectionVars false
namespace Go.Proofs.YtagdmghmblplbaaGreat.Ev
open Go Go.Proofs
theorem X2 (x a b:Int):Ys x a b=some (decide (a<=x/\x<=b)):=by
 unfold Ys;by_cases h:a<=x<;>simp[h]
theorem Xf (x a b:Int):Z4 x a b=some (decide (a<=x/\x<=b)):=by
 unfold Z4;by_cases h:a<=x<;>simp[h]
def Zi2 (c:Zh):Int:=if (0<=c.maxRetry/\c.maxRetry<=3)/\(0<=c.maxWait/\c.maxWait<=3) then (c.maxRetry+2)*(c.maxWait+6) else 0
def Kl (c:Zh):Int:=if Zi2 c=0 then 0 else if 1<=c.lockMost/\c.lockMost<=40 then 2*Zi2 c+c.lockMost else 0
def Qi (c:Zh):Nat:=c.masters.countP (·.prio)
def Qq (c:Zh) (m:Zc):Bool:=decide (1<=m.weight/\m.weight<=4)&&if m.prio then decide (2*Kl c*Qi c<=m.every/\m.every<=1000)&&decide (1<=m.cap/\m.cap<=8) else decide (m.every=0)&&decide (m.cap=0)
def Y6 (c:Zh):Bool:=decide (1<=(c.masters.length:Int)/\(c.masters.length:Int)<=4)&&decide (1<=c.quantum/\c.quantum<=4)&&decide (1<=c.maxSplit/\c.maxSplit<=12)&&decide (Kl c≠0)&&c.masters.all (Qq c)
theorem Z4e (c:Zh):0<=Zi2 c/\Zi2 c<=45:=by
 unfold Zi2;split
 .rename_i h
  obtain⟨⟨h1,h2⟩,h3,h4⟩:=h;generalize c.maxRetry=a at*;generalize c.maxWait=b at*;have:a=0\/a=1\/a=2\/a=3:=by omega
  rcases this with rfl|rfl|rfl|rfl<;>omega
 .omega
theorem Zxy (c:Zh):0<=Kl c/\Kl c<=130:=by
 have:=Z4e c;unfold Kl;split
 .omega
 .split<;>omega
theorem Zue (c:Zh):Zi3 c=some (Zi2 c):=by
 unfold Zi3;rw[Xf,ZZa,Xf,ZZa];unfold Zn0 Zi2;by_cases h1:0<=c.maxRetry/\c.maxRetry<=3
 .by_cases h2:0<=c.maxWait/\c.maxWait<=3
  .have:=Z4e c
   unfold Zi2 at this;rw[ZZj ⟨h1,h2⟩] at this;simp only[h1,h2,decide_true,Va5,ZZf,if_false,and_self,if_true];rw[Yn (by omega) (by omega),Yn (by omega) (by omega),Zfh (by omega) (by omega)]
  .simp[h1,h2]
 .simp[h1]
theorem Yqn (c:Zh):Zr5 c=some (Zi2 c):=by
 rw[<-Zue];unfold Zr5 Zi3;simp only[Xf,X2];rfl
theorem Yan (c:Zh):Zfv c=some (Kl c):=by
 have:=Z4e c;unfold Zfv Kl;rw[Zue,ZZa,Xf,ZZa,ZZa];by_cases h0:Zi2 c=0
 .simp[h0]
 .by_cases h1:1<=c.lockMost/\c.lockMost<=40
  .simp only[h0,h1,decide_true,decide_false,Va5,ZZf,if_false,and_self,if_true]
   rw[Zfh (by omega) (by omega),Yn (by omega) (by omega)]
  .simp[h0,h1]
theorem Yas (c:Zh):Zq8 c=some (Kl c):=by
 rw[<-Yan];unfold Zq8 Zfv;simp only[Xf,X2,Zue,Yqn]
theorem Yj5 (c:Zh):Zqs c=some (decide (1<=c.quantum/\c.quantum<=4)&&decide (1<=c.maxSplit/\c.maxSplit<=12)&&decide (Kl c≠0)):=by
 have:=Z4e c;unfold Zqs Kl;simp only[Xf,Zue,ZZa];by_cases h1:1<=c.quantum/\c.quantum<=4
 .by_cases h2:Zi2 c=0
  .simp[h2]
  .have h3:Zi2 c > 0:=by omega
   by_cases h4:1<=c.maxSplit/\c.maxSplit<=12
   .by_cases h5:1<=c.lockMost/\c.lockMost<=40
    .have:¬(2*Zi2 c+c.lockMost=0):=by omega
     simp[h1,h2,h3,h4,h5,this]
    .simp[h1,h2,h3,h4,h5]
   .simp[h1,h2,h3,h4]
 .simp[h1]
theorem Yek (xs:List Zc):∀(n:Int),0<=n->n+xs.length < 4611686018427387904->∀{ρ:Type} (fin:Int->Option ρ),Zvz (λ(a:Zc) n=>some (.inl (if a.prio=true then Zu n 1 else n))) fin xs n=fin (n+(xs.countP (·.prio):Nat)):=by
 induction xs with
 | nil=>intro n _ _ ρ fin;simp[Zvz]
 | cons a l ih=>
  intro n h0 hl ρ fin;simp only[Vaa] at hl;simp only[Zvz,ZZa,List.countP_cons];by_cases h:a.prio=true
  .rw[ZZj h,Yn (by omega) (by omega),ih _ (by omega) (by omega),ZZj h]
   congr 1;omega
  .rw[ZZi h,ih _ (by omega) (by omega),ZZi h]
   congr 1
theorem Yvk (c:Zh) (hl:c.masters.length < 1048577):Z0x c=some (Qi c:Int):=by
 unfold Z0x;rw[Zze c.masters (by omega) (λ(a:Zc) n=>some (.inl (if a.prio=true then Zu n 1 else n))) some (Zpn c) (λm s i=>?_) 0,Yek _ _ (by omega) (by omega)]
 .simp[Qi]
 .show Zs7 c _ s i=_
  unfold Zs7
  congr 1;congr 1;funext a
  by_cases h:a.prio=true<;>simp[h,goL]
theorem Yiu (c:Zh):Qi c<=c.masters.length:=List.countP_le_length
theorem Yno (c:Zh) (hl:c.masters.length < 1048577):0<=Kl c*(Qi c:Int)/\Kl c*(Qi c:Int)<=136314880:=by
 have h1:=Zxy c;have h2:=Yiu c;constructor
 .exact Vei h1.1 (by omega)
 .have h3:Kl c*(Qi c:Int)<=130*(Qi c:Int):=Int.mul_le_mul_of_nonneg_right h1.2 (by omega)
  omega
theorem Yev (c:Zh) (hl:c.masters.length < 1048577):Zoa c=some (2*Kl c*Qi c):=by
 have h1:=Zxy c;have h2:=Yno c hl;unfold Zoa;rw[Yas,ZZa,Yvk c hl,ZZa];rw[Zfh (a:=2) (by omega) (by omega),Zfh (by rw[Int.mul_assoc];omega) (by rw[Int.mul_assoc];omega)]
theorem Yj7 (c:Zh) (m:Zc) (hl:c.masters.length < 1048577):Zrm m c=some (!Qq c m):=by
 unfold Zrm Qq;simp only[X2,ZZa,Yev c hl];by_cases h1:1<=m.weight/\m.weight<=4
 .by_cases h2:m.prio=true
  .by_cases h3:2*Kl c*Qi c<=m.every/\m.every<=1000
   .simp[h1,h2,h3]
   .simp[h1,h2,h3]
  .by_cases h3:m.every=0
   .simp[h1,h2,h3]
   .simp[h1,h2,h3]
 .simp[h1]
theorem Yp1 (c:Zh) (xs:List Zc) (hl:c.masters.length < 1048577) (hx:xs.length < 4611686018427387904):X1 xs c=some (!xs.all (Qq c)):=by
 unfold X1 Qx;have key:∀(m k:Nat),k<=xs.length->xs.length - k < m->∃r,Yy xs c m k=some r/\decide (r≥0)=!(xs.drop k).all (Qq c):=by
  intro m
  induction m with
  | zero=>intro k _ h;omega
  | succ m ih=>
   intro k hk hm;have e:Yy xs c (m+1) k=W4 xs c (Yy xs c m) k:=rfl;rw[e];unfold W4;by_cases hc:k < xs.length
   .have h1:decide ((k:Int) < (xs.length:Int))=true:=by simpa using hc
    rw[ZZj h1,Xp hc,ZZa,Yj7 c _ hl,ZZa,Va2 hc,Va6];by_cases hq:Qq c xs[k]=true
    .have h2:¬(!Qq c xs[k])=true:=by simp[hq]
     rw[ZZi h2,X4 (by omega),hq,Vbx];exact ih (k+1) (by omega) (by omega)
    .have h2:(!Qq c xs[k])=true:=by simpa using hq
     rw[ZZj h2];refine⟨_,rfl,?_⟩;simp[hq]
   .have h1:¬decide ((k:Int) < (xs.length:Int))=true:=by simpa using hc
    rw[ZZi h1,Vba (by omega)];exact⟨_,rfl,by simp⟩
 obtain⟨r,hr,hq⟩:=key FU 0 (Vbj _) (by have:=Qe;omega);rw[show ((0:Nat):Int)=0 from rfl] at hr;rw[hr,ZZa,hq,List.drop_zero]
theorem Zub (c:Zh) (hl:c.masters.length < 1048577):Ziu c=some (Y6 c):=by
 unfold Ziu Y6;simp only[X2,ZZa,Yas,Yp1 c c.masters hl (by omega),Vel];by_cases h1:1<=(c.masters.length:Int)/\(c.masters.length:Int)<=4
 .by_cases h2:1<=c.quantum/\c.quantum<=4
  .by_cases h3:1<=c.maxSplit/\c.maxSplit<=12
   .by_cases h4:Kl c=0<;>simp[h1,h2,h3,h4]
   .simp[h1,h2,h3]
  .simp[h1,h2]
 .simp[h1]
theorem Yzi (c:Zh) (m:Zc) (hl:c.masters.length < 1048577) (k:Option Bool):
  ((Z4 m.weight 1 4).bind λr1102=>
  if (!r1102)=true then some false
  else if (!m.prio)=true then
    if decide (m.every≠0)=true then some false
    else if decide (m.cap≠0)=true then some false
     else if m.prio=true then
       (Zfv c).bind λr1128=>
       (Z4 m.every (Jm (Jm 2 (Qi c:Int)) r1128) 1000).bind λr1130=>
       if (!r1130)=true then some false
       else (Z4 m.cap 1 8).bind λr1135=>if (!r1135)=true then some false else k
      else k
   else if m.prio=true then
     (Zfv c).bind λr1128=>
     (Z4 m.every (Jm (Jm 2 (Qi c:Int)) r1128) 1000).bind λr1130=>
     if (!r1130)=true then some false
     else (Z4 m.cap 1 8).bind λr1135=>if (!r1135)=true then some false else k
    else k)=if Qq c m=true then k else some false:=by
 have h1:=Zxy c;have h2:=Yno c hl;have h3:=Yiu c;have e:Jm (Jm 2 (Qi c:Int)) (Kl c)=2*Kl c*Qi c:=by
  have e2:2*(Qi c:Int)*Kl c=2*(Kl c*(Qi c:Int)):=by rw[Int.mul_assoc,Vc5 (Qi c:Int)]
  rw[Zfh (a:=2) (by omega) (by omega),Zfh (by rw[e2];omega) (by rw[e2];omega),e2,Int.mul_assoc]
 unfold Qq;simp only[Xf,ZZa,Yan,e];by_cases h1:1<=m.weight/\m.weight<=4
 .by_cases h2:m.prio=true
  .by_cases h3:2*Kl c*Qi c<=m.every/\m.every<=1000
   .by_cases h4:1<=m.cap/\m.cap<=8<;>simp[h1,h2,h3,h4]
   .simp[h1,h2,h3]
  .by_cases h3:m.every=0
   .by_cases h4:m.cap=0<;>simp[h1,h2,h3,h4]
   .simp[h1,h2,h3]
 .simp[h1]
theorem Yc5 (c:Zh) (hl:c.masters.length < 1048577):Zan c FU (Qi c:Int) 0=some (Y6 c):=by
 have key:∀(m k:Nat),k<=c.masters.length->c.masters.length - k < m->Zan c m (Qi c:Int) k=some (decide (1<=(c.masters.length:Int)/\(c.masters.length:Int)<=4)&&decide (1<=c.quantum/\c.quantum<=4)&&decide (1<=c.maxSplit/\c.maxSplit<=12)&&decide (Kl c≠0)&&(c.masters.drop k).all (Qq c)):=by
  intro m
  induction m with
  | zero=>intro k _ h;omega
  | succ m ih=>
   intro k hk hm;have e:Zan c (m+1) (Qi c:Int) k=Zqw c (Zan c m) (Qi c:Int) k:=rfl;rw[e];unfold Zqw;by_cases hc:k < c.masters.length
   .have h1:decide ((k:Int) < (c.masters.length:Int))=true:=by simpa using hc
    rw[ZZj h1,Xp hc,ZZa,Yzi c _ hl,Va2 hc,Va6,X4 (by omega),ih (k+1) (by omega) (by omega)];by_cases hq:Qq c c.masters[k]=true
    .simp[hq]
    .simp[hq]
   .have h1:¬decide ((k:Int) < (c.masters.length:Int))=true:=by simpa using hc
    rw[ZZi h1,Vba (by omega),Xf,ZZa,Yj5];by_cases h2:1<=(c.masters.length:Int)/\(c.masters.length:Int)<=4
    .simp[h2]
    .simp[h2]
 have:=key FU 0 (Vbj _) (by have:=Qe;omega);simpa [Y6] using this
theorem Zgp (c:Zh) (hl:c.masters.length < 1048577):Zdq c=some (Y6 c):=by
 unfold Zdq;rw[Zze c.masters (by omega) (λ(a:Zc) n=>some (.inl (if a.prio=true then Zu n 1 else n))) (λn=>Zan c FU n 0) (Znn c) (λm s i=>?_) 0,Yek _ _ (by omega) (by omega)]
 .rw[show (0:Int)+(c.masters.countP (·.prio):Nat)=(Qi c:Int) by simp[Qi]]
  exact Yc5 c hl
 .show Zr8 c _ s i=_
  unfold Zr8
  congr 1;congr 1;funext a
  by_cases h:a.prio=true<;>simp[h,goL]
def Z2k (c:Zh) (i:Int):Int:=((c.masters[i.toNat]?).map (·.weight)).getD 0
def Zr (c:Zh) (i:Int):Bool:=decide (0<=i/\i < (c.masters.length:Int))
def Zhd (c:Zh) (i:Int):Int:=if Y6 c=true/\Zr c i=true then Z2k c i*c.quantum else 0
theorem Yd4 {c:Zh} {i:Int} (h:Zr c i=true):∃m,idx c.masters i=some m/\m∈c.masters/\m.weight=Z2k c i:=by
 simp only[Zr,ZZl] at h;obtain⟨k,rfl⟩:∃k:Nat,i=k:=⟨i.toNat,by omega⟩;have hk:k < c.masters.length:=by omega
 refine⟨c.masters[k],Xp hk,Vao hk,?_⟩;simp[Z2k,hk]
theorem Z9z {c:Zh} {m:Zc} (h:Y6 c=true) (hm:m∈c.masters):1<=m.weight/\m.weight<=4:=by
 simp only[Y6,ZZg,ZZk] at h;have:=h.2 m hm;simp only[Qq,ZZg,ZZl] at this;exact this.1
theorem Z59 {c:Zh} (h:Y6 c=true):1<=c.quantum/\c.quantum<=4:=by
 simp only[Y6,ZZg,ZZl] at h;exact h.1.1.1.2
theorem Ymo {c:Zh} {i:Int} (h:Y6 c=true) (hm:Zr c i=true):1<=Z2k c i/\Z2k c i<=4:=by
 obtain⟨m,_,h1,h2⟩:=Yd4 hm;rw[<-h2];exact Z9z h h1
theorem Ynu {a b:Int} (h1:1<=a) (h2:a<=4) (h3:1<=b) (h4:b<=4):1<=a*b/\a*b<=16:=by
 have:a=1\/a=2\/a=3\/a=4:=by omega
 rcases this with rfl|rfl|rfl|rfl<;>omega
theorem Zzz {c:Zh} {i:Int} (h:Y6 c=true) (hm:Zr c i=true):1<=Zhd c i/\Zhd c i<=16:=by
 unfold Zhd;rw[ZZj ⟨h,hm⟩];have h1:=Ymo h hm;have h2:=Z59 h;exact Ynu h1.1 h1.2 h2.1 h2.2
theorem Yvd {c:Zh} {i:Int}:Zhd c i=0↔¬(Y6 c=true/\Zr c i=true):=by
 constructor
 .intro h hc
  have:=Zzz hc.1 hc.2;omega
 .intro h;unfold Zhd;rw[ZZi h]
theorem Ztl (c:Zh) (i:Int):0<=Zhd c i/\Zhd c i<=16:=by
 by_cases h:Y6 c=true/\Zr c i=true
 .have:=Zzz h.1 h.2;omega
 .rw[Yvd.2 h];omega
theorem Z18 {c:Zh} (i:Int) (hl:c.masters.length < 1048577):decide (0<=i/\i<=Y9 (c.masters.length:Int) 1)=Zr c i:=by
 rw[Xa (by omega) (by omega)];unfold Zr
 congr 1
 apply propext;omega
theorem Zup (c:Zh) (i:Int) (hl:c.masters.length < 1048577):Zi1 c i=some (Zhd c i):=by
 unfold Zi1;rw[Zgp c hl,ZZa,Xf,ZZa,Z18 i hl];unfold Znl;by_cases h1:Y6 c=true
 .by_cases h2:Zr c i=true
  .obtain⟨m,hm1,hm2,hm3⟩:=Yd4 h2
   have hw:=Z9z h1 hm2;have hq:=Z59 h1;have:=Ynu hw.1 hw.2 hq.1 hq.2;simp only[h1,h2,hm1,Va5,ZZf,if_false,ZZa];rw[Zfh (by omega) (by omega)];simp[Zhd,h1,h2,hm3]
  .simp[Zhd,h1,h2]
 .simp[Zhd,h1]
theorem Jf (c:Zh) (i:Int) (hl:c.masters.length < 1048577):K0 c i=some (Zr c i):=by
 unfold K0;rw[X2,ZZa,Z18 i hl]
theorem Z10 (c:Zh) (i:Int) (hl:c.masters.length < 1048577):Zni c i=some (Zhd c i):=by
 rw[<-Zup c i hl];unfold Zni Zi1;rw[Zgp c hl,Zub c hl,Jf c i hl,Xf,Z18 i hl];rfl
theorem Zb2 (a b:Int):Zi4 a b=min a b:=by unfold Zi4;omega
theorem Znt (a b:Int):Zkh a b=max a b:=by unfold Zkh;omega
theorem Jr {c:Zh} (h:Y6 c=true):1<=(c.masters.length:Int)/\(c.masters.length:Int)<=4:=by
 simp only[Y6,ZZg,ZZl] at h;exact h.1.1.1.1
theorem Zb9 {c:Zh} (h:Y6 c=true):c.masters.length < 1048577:=by have:=Jr h;omega
instance:Inhabited Zc:=⟨Zc.z0⟩
instance:Inhabited Zk:=⟨Zk.z0⟩
theorem Zhi {c:Zh} {i:Int} (h:Y6 c=true) (hm:Zr c i=true):Qq c (atI c.masters i)=true:=by
 simp only[Zr,ZZl] at hm;have:=Zjr hm.1 hm.2;simp only[Y6,ZZg,ZZk] at h;exact h.2 _ this
theorem Zd1 {c:Zh} {m:Zc} (h:Qq c m=true):-1<=m.every/\m.every<=1000/\0<=m.cap/\m.cap<=8:=by
 have h1:=Zxy c;have h2:0<=2*Kl c*(Qi c:Int):=Vei (by omega) (by omega);simp only[Qq,ZZg,ZZl] at h;obtain⟨h3,h4⟩:=h;split at h4
 .simp only[ZZg,ZZl] at h4;omega
 .simp only[ZZg,ZZl] at h4;omega
def Yr (b:Zk) (m:Zc):Bool:=if m.prio then decide (0<=b.tokens/\b.tokens<=m.cap)&&decide (0<=b.count/\b.count < m.every) else decide (b.tokens=0)&&decide (b.count=0)
def Zrn (b:Zk) (m:Zc):Zk:=if (m.prio&&Yr b m)=true then (if b.count+1=m.every then ⟨min (b.tokens+1) m.cap,0⟩ else ⟨b.tokens,b.count+1⟩) else b
def Zf6 (b:Zk) (m:Zc):Zk×Bool:=if (m.prio&&Yr b m&&decide (b.tokens≠0))=true then (⟨b.tokens - 1,b.count⟩,true) else (b,false)
def Zyc (b:Zk) (m:Zc):Zk:=if (m.prio&&Yr b m)=true then ⟨min (b.tokens+1) m.cap,b.count⟩ else b
def Zuu (m:Zc):Zk:=if m.prio then ⟨max m.cap 0,0⟩ else ⟨0,0⟩
theorem Zps (b:Zk) {m:Zc} (h:-1<=m.every/\m.every<=1000):Zer b m=some (Yr b m):=by
 unfold Zer Yr;rw[Xf,ZZa,Xf,ZZa,Xa (by omega) (by omega)];by_cases h1:m.prio=true
 .have e:(0<=b.count/\b.count<=m.every - 1)↔(0<=b.count/\b.count < m.every):=by omega
  by_cases h2:0<=b.tokens/\b.tokens<=m.cap
  .simp[h1,h2,e]
  .simp[h1,h2]
 .simp[h1]
theorem Z5o (b:Zk) (m:Zc):Zl6 b m=some (Yr b m):=by
 unfold Zl6 Yr;rw[X2,ZZa];by_cases h1:m.prio=true
 .by_cases h2:0<=b.tokens/\b.tokens<=m.cap
  .by_cases h3:0<=b.count<;>simp[h1,h2,h3]
  .simp[h1,h2]
 .simp[h1]
theorem Zja {b:Zk} {c:Zh} {m:Zc} (h:Yr b m=true) (hm:Qq c m=true):0<=b.tokens/\b.tokens<=8/\0<=b.count/\b.count<=1000:=by
 have:=Zd1 hm;unfold Yr at h;split at h<;>simp only[ZZg,ZZl] at h<;>omega
theorem Yd8 (b:Zk) {c:Zh} {m:Zc} (h:Qq c m=true):Znp b m=some (Zrn b m):=by
 have hm:=Zd1 h;unfold Znp Zfl Zrn;rw[Zps b ⟨hm.1,hm.2.1⟩,ZZa];by_cases h1:m.prio=true
 .by_cases h2:Yr b m=true
  .have:=Zja h2 h
   simp only[h1,h2,Va5,ZZf,if_false,Vcc,if_true];rw[Yn (by omega) (by omega),Yn (by omega) (by omega),Zb2,Vdo];by_cases h3:b.count+1=m.every<;>simp[h3]
  .simp[h1,h2]
 .simp[h1]
theorem Z1f (b:Zk) (m:Zc):Zoe b m=some (m.prio&&Yr b m):=by
 unfold Zoe;rw[Z5o,ZZa];by_cases h1:m.prio=true<;>simp[h1]
theorem Yda (b:Zk) {c:Zh} {m:Zc} (h:Qq c m=true):Zno b m=some (Zrn b m):=by
 unfold Zno Zrn;rw[Z1f,ZZa];by_cases h1:(m.prio&&Yr b m)=true
 .have h2:Yr b m=true:=by simp only[ZZg] at h1;exact h1.2
  have:=Zja h2 h;rw[ZZi (by simp[h1]),ZZj h1,Yn (by omega) (by omega),Yn (by omega) (by omega),Zb2];by_cases h3:b.count+1=m.every<;>simp[h3]
 .rw[ZZj (by cases hq:(m.prio&&Yr b m)<;>simp_all),ZZi h1]
theorem Yc2 (b:Zk) {c:Zh} {m:Zc} (h:Qq c m=true):Zny b m=some (Zf6 b m):=by
 have hm:=Zd1 h;unfold Zny Zcu Zf6;rw[Zps b ⟨hm.1,hm.2.1⟩,ZZa];by_cases h1:m.prio=true
 .by_cases h2:Yr b m=true
  .have:=Zja h2 h
   rw[Xa (by omega) (by omega)];by_cases h3:b.tokens=0<;>simp[h1,h2,h3]
  .simp[h1,h2]
 .simp[h1]
theorem Yep (b:Zk) {c:Zh} {m:Zc} (h:Qq c m=true):Znb b m=some (Zf6 b m):=by
 unfold Znb Zf1 Zf6;rw[Z1f,ZZa];by_cases h1:(m.prio&&Yr b m)=true
 .have h2:Yr b m=true:=by simp only[ZZg] at h1;exact h1.2
  have:=Zja h2 h;rw[Xa (by omega) (by omega)];by_cases h3:b.tokens=0<;>simp[h1,h3]
 .simp[h1]
theorem Yer (b:Zk) {c:Zh} {m:Zc} (h:Qq c m=true):Zns b m=some (Zyc b m):=by
 have hm:=Zd1 h;unfold Zns Zgb Zyc;rw[Zps b ⟨hm.1,hm.2.1⟩,ZZa];by_cases h1:m.prio=true
 .by_cases h2:Yr b m=true
  .have:=Zja h2 h
   simp only[h1,h2,if_true,Vcc];rw[Yn (by omega) (by omega),Zb2,Vdo]
  .simp[h1,h2]
 .simp[h1]
theorem Ye8 (b:Zk) {c:Zh} {m:Zc} (h:Qq c m=true):Zne b m=some (Zyc b m):=by
 unfold Zne Zyc;rw[Z1f,ZZa];by_cases h1:(m.prio&&Yr b m)=true
 .have h2:Yr b m=true:=by simp only[ZZg] at h1;exact h1.2
  have h4:m.prio=true:=by simp only[ZZg] at h1;exact h1.1
  have:=Zja h2 h;have h5:b.tokens<=m.cap:=by
   unfold Yr at h2;rw[ZZj h4] at h2;simp only[ZZg,ZZl] at h2;exact h2.1.2
  rw[ZZj h1,ZZj h1,Yn (by omega) (by omega)];by_cases h3:b.tokens < m.cap
  .rw[ZZj (by simpa using h3),Int.min_eq_left (by omega)]
  .rw[ZZi (by simpa using h3),Int.min_eq_right (by omega)]
   have:b.tokens=m.cap:=by omega
   rw[<-this]
 .rw[ZZi h1,ZZi h1]
theorem Yhu (m:Zc):Zph m=some (Zuu m):=by
 unfold Zph Zuu;rw[Znt,Int.max_comm];by_cases h1:m.prio=true<;>simp[h1]
theorem Ygs (m:Zc):Zpi m=some (Zuu m):=by
 unfold Zpi Zuu;rw[Znt];by_cases h1:m.prio=true<;>simp[h1]
theorem Y2v {c:Zh} {m:Zc} (h:Qq c m=true) (hs:0 < Kl c/\(m.prio=true->0 < Qi c)):Yr (Zuu m) m=true:=by
 have hm:=Zd1 h;unfold Yr Zuu;by_cases h1:m.prio=true
 .simp only[h1,if_true,ZZg,ZZl]
  simp only[Qq,h1,if_true,ZZg,ZZl] at h;have h2:0 < Kl c*(Qi c:Int):=Int.mul_pos hs.1 (by have:=hs.2 h1;omega);have h3:2*Kl c*(Qi c:Int)=2*(Kl c*(Qi c:Int)):=Int.mul_assoc ..;omega
 .simp[h1]
theorem Y1m {b:Zk} {c:Zh} {m:Zc} (h:Yr b m=true) (hm:Qq c m=true):Yr (Zrn b m) m=true:=by
 have hb:=Zd1 hm;have hn:=Zja h hm;unfold Zrn;split
 .rename_i h1
  simp only[ZZg] at h1;unfold Yr at h;rw[ZZj h1.1] at h;simp only[ZZg,ZZl] at h;split
  .unfold Yr
   rw[ZZj h1.1];simp only[ZZg,ZZl];omega
  .unfold Yr
   rw[ZZj h1.1];simp only[ZZg,ZZl];omega
 .exact h
theorem Y3n {b:Zk} {c:Zh} {m:Zc} (h:Yr b m=true) (hm:Qq c m=true):Yr (Zf6 b m).1 m=true:=by
 unfold Zf6;split
 .rename_i h1
  simp only[ZZg,ZZl] at h1;unfold Yr at h ⊢;rw[ZZj h1.1.1] at h ⊢;simp only[ZZg,ZZl] at h ⊢;omega
 .exact h
theorem Y0p {b:Zk} {c:Zh} {m:Zc} (h:Yr b m=true) (hm:Qq c m=true):Yr (Zyc b m) m=true:=by
 have hb:=Zd1 hm;unfold Zyc;split
 .rename_i h1
  simp only[ZZg] at h1;unfold Yr at h ⊢;rw[ZZj h1.1] at h ⊢;simp only[ZZg,ZZl] at h ⊢;omega
 .exact h
def J2 (w:Z6) (c:Zh):Bool:=Y6 c&&(Zr c w.at_&&decide (0<=w.credit/\w.credit<=Zhd c w.at_))
theorem Z4w (w:Z6) (c:Zh) (hl:c.masters.length < 1048577):Zqk w c=some (J2 w c):=by
 unfold Zqk J2;rw[Zgp c hl,ZZa,Xf,ZZa,Z18 _ hl,Zup c _ hl,ZZa,Xf,ZZa];by_cases h1:Y6 c=true<;>by_cases h2:Zr c w.at_=true<;>simp[h1,h2]
theorem Z3k (w:Z6) (c:Zh) (hl:c.masters.length < 1048577):Zl3 w c=some (J2 w c):=by
 unfold Zl3 J2;rw[Zub c hl,ZZa,Jf c _ hl,ZZa,Z10 c _ hl,ZZa,X2,ZZa];by_cases h1:Y6 c=true<;>by_cases h2:Zr c w.at_=true<;>simp[h1,h2]
def Zmz (w:Z6) (c:Zh) (wants:List Bool):Nat->Int->Z6×Int
 | 0,_=>(⟨w.at_,0⟩,-1)
 | r+1,k=>if atI wants ((w.at_+k) % (wants.length:Int))=true then (⟨(w.at_+k) % (wants.length:Int),Zhd c ((w.at_+k) % (wants.length:Int)) - 1⟩,(w.at_+k) % (wants.length:Int)) else Zmz w c wants r (k+1)
def Zcz (w:Z6) (c:Zh) (wants:List Bool):Z6×Int:=if (decide (0 < w.credit)&&atI wants w.at_)=true then (⟨w.at_,w.credit - 1⟩,w.at_) else Zmz w c wants wants.length 1
def Zy9 (w:Z6) (c:Zh) (who:Int):Z6:=if w.at_=who then ⟨w.at_,min (w.credit+1) (Zhd c who)⟩ else w
theorem Zic {w:Z6} {c:Zh} (h:J2 w c=true):Y6 c=true/\Zr c w.at_=true/\0<=w.credit/\w.credit<=Zhd c w.at_:=by
 simp only[J2,ZZg,ZZl] at h;exact⟨h.1,h.2.1,h.2.2.1,h.2.2.2⟩
theorem Yr6 (w:Z6) (c:Zh) (wants:List Bool) (h:J2 w c=true) (hn:wants.length=c.masters.length):∀(m r:Nat) (k:Int),r < m->k+r=wants.length+1->1<=k->Zkk w c wants m k=some (Zmz w c wants r k)/\Zkj w c wants m k=some (Zmz w c wants r k):=by
 obtain⟨hc,hm,h1,h2⟩:=Zic h;have hl:=Jr hc;have hl2:=Zb9 hc;simp only[Zr,ZZl] at hm;intro m
 induction m with
 | zero=>intro r k hr;omega
 | succ m ih=>
  intro r k hr hk h1k;show Zp7 w c wants _ k=_/\Zp4 w c wants _ k=_;unfold Zp7 Zp4;rw[<-hn];cases r with
  | zero=>
   rw[ZZi (by simp;omega),ZZi (by simp;omega)];exact⟨rfl,rfl⟩
  | succ r=>
   have h0:0<=(w.at_+k) % (wants.length:Int):=Vc3 _ (by omega);have h0':(w.at_+k) % (wants.length:Int) < (wants.length:Int):=Vcp _ (by omega);have hmm:Zr c ((w.at_+k) % (wants.length:Int))=true:=by
    simp only[Zr,ZZl];omega
   have ht:=Zzz hc hmm;rw[ZZj (by simp;omega),ZZj (by simp;omega),Zu3 (by omega),ZZa,ZZa,Yn (a:=w.at_) (by omega) (by omega),Zd9 (by omega),Xj h0 h0',ZZa,ZZa,Z10 c _ hl2,Zup c _ hl2,ZZa,Xa (by omega) (by omega),Yn (a:=k) (by omega) (by omega)];have:=ih r (k+1) (by omega) (by omega) (by omega);simp only[Zmz];by_cases hq:atI wants ((w.at_+k) % (wants.length:Int))=true
   .simp[hq]
   .simp only[hq,if_false,ZZf]
    exact this
theorem Ynh (w:Z6) (c:Zh) (wants:List Bool) (h:J2 w c=true) (hn:wants.length=c.masters.length):Zt9 w c wants=some (Zcz w c wants):=by
 obtain⟨hc,hm,h1,h2⟩:=Zic h;have hl:=Jr hc;have hl2:=Zb9 hc;simp only[Zr,ZZl] at hm;have hs:=(Yr6 w c wants h hn FU wants.length 1 (by have:=Qe;omega) (by omega) (by omega)).1;have ht:=Ztl c w.at_;unfold Zt9 Zkr Zks Zcz;rw[Z3k w c hl2,ZZa,h,Xj hm.1 (by omega),ZZa,hs,Xa (by omega) (by omega)];have h3:¬((wants.length:Int)≠(c.masters.length:Int)):=by omega
 by_cases h4:0 < w.credit<;>by_cases h5:atI wants w.at_=true<;>simp[h3,h4,h5]
theorem Yk7 (w:Z6) (c:Zh) (wants:List Bool) (h:J2 w c=true) (hn:wants.length=c.masters.length):Ztp w c wants=some (Zcz w c wants):=by
 obtain⟨hc,hm,h1,h2⟩:=Zic h;have hl:=Jr hc;have hl2:=Zb9 hc;simp only[Zr,ZZl] at hm;have hs:=(Yr6 w c wants h hn FU wants.length 1 (by have:=Qe;omega) (by omega) (by omega)).2;have ht:=Ztl c w.at_;unfold Ztp Zko Zll Zcz;rw[Z4w w c hl2,ZZa,h,Xj hm.1 (by omega),ZZa,hs,Xa (by omega) (by omega)];have h3:¬((wants.length:Int)≠(c.masters.length:Int)):=by omega
 by_cases h4:0 < w.credit<;>by_cases h5:atI wants w.at_=true<;>simp[h3,h4,h5]
theorem Yk4 (w:Z6) (c:Zh) (who:Int) (h:J2 w c=true):Zt4 w c who=some (Zy9 w c who):=by
 obtain⟨hc,hm,h1,h2⟩:=Zic h;have hl2:=Zb9 hc;have ht:=Ztl c w.at_;unfold Zt4 Zlc Zy9;rw[Z4w w c hl2,ZZa,h,Zup c _ hl2,ZZa,Yn (by omega) (by omega),Zb2,Vdo];by_cases h4:w.at_=who<;>simp[h4]
theorem Yld (w:Z6) (c:Zh) (who:Int) (h:J2 w c=true):Zuh w c who=some (Zy9 w c who):=by
 obtain⟨hc,hm,h1,h2⟩:=Zic h;have hl2:=Zb9 hc;have ht:=Ztl c w.at_;unfold Zuh Zk0 Zy9;rw[Z3k w c hl2,ZZa,h,Z10 c _ hl2,ZZa,Yn (by omega) (by omega),Zb2];by_cases h4:w.at_=who
 .simp[h4]
 .have:¬who=w.at_:=λh=>h4 h.symm
  simp[h4,this]
theorem Yz3 {w:Z6} {c:Zh} (who:Int) (h:J2 w c=true):J2 (Zy9 w c who) c=true:=by
 obtain⟨hc,hm,h1,h2⟩:=Zic h;unfold Zy9;split
 .rename_i h4
  subst h4;have ht:=Ztl c w.at_;simp only[J2,ZZg,ZZl];exact⟨hc,hm,by omega,by omega⟩
 .exact h
theorem Yza {w:Z6} {c:Zh} {wants:List Bool} (h:J2 w c=true) (hn:wants.length=c.masters.length):∀(r:Nat) (k:Int),1<=k->J2 (Zmz w c wants r k).1 c=true/\((Zmz w c wants r k).2=-1\/(Zr c (Zmz w c wants r k).2=true/\atI wants (Zmz w c wants r k).2=true)):=by
 obtain⟨hc,hm,h1,h2⟩:=Zic h;have hl:=Jr hc;intro r
 induction r with
 | zero=>
  intro k _;refine⟨?_,.inl rfl⟩;simp only[Zmz];simp only[J2,ZZg,ZZl];exact⟨hc,hm,by omega,by omega⟩
 | succ r ih=>
  intro k hk;simp only[Zmz];split
  .rename_i hq
   have h0:0<=(w.at_+k) % (wants.length:Int):=Vc3 _ (by omega);have h0':(w.at_+k) % (wants.length:Int) < (wants.length:Int):=Vcp _ (by omega);have hmm:Zr c ((w.at_+k) % (wants.length:Int))=true:=by
    simp only[Zr,ZZl];omega
   have ht:=Zzz hc hmm;refine⟨?_,.inr ⟨hmm,hq⟩⟩;simp only[J2,ZZg,ZZl];exact⟨hc,hmm,by omega,by omega⟩
  .exact ih (k+1) (by omega)
theorem Yzb {w:Z6} {c:Zh} {wants:List Bool} (h:J2 w c=true) (hn:wants.length=c.masters.length):J2 (Zcz w c wants).1 c=true/\((Zcz w c wants).2=-1\/(Zr c (Zcz w c wants).2=true/\atI wants (Zcz w c wants).2=true)):=by
 obtain⟨hc,hm,h1,h2⟩:=Zic h;unfold Zcz;split
 .rename_i h3
  simp only[ZZg,ZZl] at h3;refine⟨?_,.inr ⟨hm,h3.2⟩⟩;simp only[J2,ZZg,ZZl];exact⟨hc,hm,by omega,by omega⟩
 .exact Yza h hn _ _ (by omega)
def Yv (s:Int):Int:=if s=0 then 1 else if s=1 then 2 else if s=2 then 4 else 0
def Zfk (s:Int):Int:=if s=0 then 256 else if s=1 then 65536 else if s=2 then 4294967296 else 0
def Xs (b:Int):Int:=if b=0 then 1 else if b=1 then 4 else if b=2 then 4 else if b=3 then 8 else 0
theorem Zid (s:Int):0<=Yv s/\Yv s<=4:=by unfold Yv;repeat' split<;>omega
theorem Z0b (s:Int):0<=Zfk s/\Zfk s<=4294967296:=by unfold Zfk;repeat' split<;>omega
theorem Zms (b:Int):0<=Xs b/\Xs b<=8:=by unfold Xs;repeat' split<;>omega
theorem Zbg (s:Int):Jg s=some (Yv s):=by
 unfold Jg;rw[Xf,ZZa];by_cases h:0<=s/\s<=2
 .have:s=0\/s=1\/s=2:=by omega
  rcases this with rfl|rfl|rfl<;>rfl
 .have:Yv s=0:=by unfold Yv;repeat' split<;>omega
  simp[h,this]
theorem Zhw (s:Int):J0 s=some (Yv s):=by
 rw[<-Zbg];unfold J0 Jg;rw[X2,Xf]
theorem Zhm (b:Int):Zaz b=some (Xs b):=by
 unfold Zaz;rw[Xf,ZZa];by_cases h:0<=b/\b<=3
 .have:b=0\/b=1\/b=2\/b=3:=by omega
  rcases this with rfl|rfl|rfl|rfl<;>rfl
 .have:Xs b=0:=by unfold Xs;repeat' split<;>omega
  simp[h,this]
theorem Zsn (b:Int):Zgx b=some (Xs b):=by
 rw[<-Zhm];unfold Zgx Zaz;rw[X2,Xf]
theorem Zba (s:Int):Qk s=some (Zfk s):=by
 unfold Qk;rw[Zbg,ZZa,ZZa];by_cases h:s=0\/s=1\/s=2
 .rcases h with rfl|rfl|rfl<;>rfl
 .have h1:Yv s=0:=by unfold Yv;repeat' split<;>omega
  have h2:Zfk s=0:=by unfold Zfk;repeat' split<;>omega
  simp[h1,h2]
theorem Z7b (s:Int):Zoy s=some (Zfk s):=by
 rw[<-Zba];unfold Zoy Qk;simp only[Zhw,Zbg]
def Xm (v s:Int):Bool:=decide (0<=v/\v < Zfk s)
theorem Ziw (v s:Int):Zdz v s=some (Xm v s):=by
 have:=Z0b s;unfold Zdz Xm;rw[Z7b,ZZa,X2,ZZa,Xa (by omega) (by omega)]
 congr 2
 apply propext;omega
theorem Zp0 (v s:Int):Z4 v 0 (Y9 (Zfk s) 1)=some (Xm v s):=by
 have:=Z0b s;unfold Xm;rw[Xf,Xa (by omega) (by omega)]
 congr 2
 apply propext;omega
def X6 (a s:Int):Bool:=decide (0 < Yv s)&&(decide (0<=a)&&decide (a % Yv s=0))
theorem Zrq (a s:Int):Za0 a s=some (X6 a s):=by
 unfold Za0 X6;rw[Zbg,ZZa,ZZa];by_cases h1:0 < Yv s
 .by_cases h2:0<=a
  .rw[Zu3 (by omega),Zd9 h2];simp[h1,h2]
  .simp[h1,h2]
 .simp[h1]
theorem Zqe (s:Int):0 < Yv s↔(0<=s/\s<=2):=by
 unfold Yv
 repeat' split<;>omega
theorem Zsm (a s:Int):Zgo a s=some (X6 a s):=by
 unfold Zgo X6;rw[X2,ZZa,Zhw,ZZa];by_cases h1:0 < Yv s
 .have h3:=(Zqe s).1 h1
  by_cases h2:0<=a
  .rw[Zu3 (by omega),Zd9 h2];simp[h1,h2,h3]
  .simp[h1,h2,h3]
 .have h3:¬(0<=s/\s<=2):=λh=>h1 ((Zqe s).2 h)
  simp[h1,h3]
def Zk1 (a s b:Int):Int:=if (X6 a s=true/\a < 512)/\Xs b≠0 then (if b=2/\(a+Yv s) % (4*Yv s)=0 then a+Yv s - 4*Yv s else a+Yv s) else -1
theorem Zbn {a s:Int} (h:X6 a s=true):0 < Yv s/\0<=a/\a % Yv s=0:=by
 simpa [X6,ZZg,ZZl] using h
theorem Yka (a s b:Int):Zmr a s b=some (Zk1 a s b):=by
 have hb:=Zid s;unfold Zmr Zed Zjd Zk1;rw[Zbg,ZZa,Zrq,ZZa,Xf,ZZa,Zhm,ZZa];by_cases h1:X6 a s=true
 .obtain⟨h2,h3,h4⟩:=Zbn h1
  by_cases h5:a < 512
  .have h6:0<=a/\a<=511:=by omega
   rw[Zfh (by omega) (by omega),Yn (by omega) (by omega),Xa (by omega) (by omega),Zu3 (by omega),Zd9 (by omega)];by_cases h7:Xs b=0
   .simp[h1,h5,h6,h7]
   .by_cases h8:b=2
    .subst h8
     by_cases h9:(a+Yv s) % (4*Yv s)=0<;>simp[h1,h5,h6,h7,h9]
    .simp[h1,h5,h6,h7,h8]
  .have h6:¬(0<=a/\a<=511):=by omega
   simp[h1,h5,h6]
 .simp[h1]
theorem Yjm (a s b:Int):Zsa a s b=some (Zk1 a s b):=by
 have hb:=Zid s;unfold Zsa Zem Zk1;rw[Zsm,ZZa,Zhw,ZZa,ZZa,Zsn,ZZa];by_cases h1:X6 a s=true
 .obtain⟨h2,h3,h4⟩:=Zbn h1
  by_cases h5:a < 512
  .have h6:¬a≥512:=by omega
   rw[Zfh (by omega) (by omega),Yn (by omega) (by omega),Xa (by omega) (by omega),Zu3 (by omega),Zd9 (by omega)];by_cases h7:Xs b=0
   .simp[h1,h5,h6,h7]
   .by_cases h8:b=2
    .subst h8
     by_cases h9:(a+Yv s) % (4*Yv s)=0<;>simp[h1,h5,h6,h7,h9]
    .simp[h1,h5,h6,h7,h8]
  .have h6:a≥512:=by omega
   simp[h1,h5,h6]
 .simp[h1]
theorem Ypt {a s b:Int} (h:0<=Zk1 a s b):X6 a s=true/\a < 512:=by
 unfold Zk1 at h;split at h
 .rename_i h1;exact h1.1
 .omega
def Zcx (s b:Int):Nat->Int->Option (List Int)
 | 0,_=>some []
 | n+1,a=>if Zk1 a s b < 0 then none else (Zcx s b n (Zk1 a s b)).map (a::·)
def J6 (a s b:Int):List Int:=(Zcx s b (Xs b).toNat a).getD []
theorem Zz3 (a s b:Int):Zhv a s b=some (J6 a s b):=by
 have hb:=Zms b;unfold Zhv;rw[Zsn,ZZa];have key:∀(n m:Nat) (x:Int) (out:List Int) (k:Nat),n < m->(k:Int)+n=Xs b->out.length=k->Zgi a s b m x out (Xs b) k=some (match Zcx s b n x with|some l=>out++l|none=>[]):=by
  intro n
  induction n with
  | zero=>
   intro m x out k hm hk ho;obtain⟨m,rfl⟩:∃m',m=m'+1:=⟨m - 1,by omega⟩;show Zbx a s b _ x out (Xs b) k=_;unfold Zbx;rw[ZZi (by simp;omega)];simp[Zcx]
  | succ n ih=>
   intro m x out k hm hk ho;obtain⟨m,rfl⟩:∃m',m=m'+1:=⟨m - 1,by omega⟩;show Zbx a s b _ x out (Xs b) k=_;unfold Zbx;rw[ZZj (by simp;omega),Yjm,ZZa];simp only[Zcx];by_cases h1:Zk1 x s b < 0
   .rw[ZZj (by simpa using h1),ZZj h1]
   .rw[ZZi (by simpa using h1),ZZi h1,Wa (by simp;omega) (by simp;omega),ZZa,X4 (by omega),ih m _ _ (k+1) (by omega) (by omega) (by simp[ho])]
    cases Zcx s b n (Zk1 x s b)<;>simp
 have:=key (Xs b).toNat FU a [] 0 (by have:=Qe;omega) (by omega) rfl;rw[show ((0:Nat):Int)=0 from rfl] at this;rw[this];unfold J6;cases Zcx s b (Xs b).toNat a<;>simp
theorem Z0e (a s b:Int):Zht a s b=some (J6 a s b):=by
 have hb:=Zms b;unfold Zht;have key:∀(n m:Nat) (x:Int) (out:List Int),n < m->(out.length:Int)+n=Xs b->Zga a s b m x out=some (match Zcx s b n x with|some l=>out++l|none=>[]):=by
  intro n
  induction n with
  | zero=>
   intro m x out hm hk;obtain⟨m,rfl⟩:∃m',m=m'+1:=⟨m - 1,by omega⟩;show Zbz a s b _ x out=_;unfold Zbz Zct;have h1:¬((out.length:Int) < Xs b):=by omega
   simp[Zhm,h1,Zcx]
  | succ n ih=>
   intro m x out hm hk;obtain⟨m,rfl⟩:∃m',m=m'+1:=⟨m - 1,by omega⟩;show Zbz a s b _ x out=_;unfold Zbz Zct;have h1:(out.length:Int) < Xs b:=by omega
   simp only[Zhm,Yka,ZZa,h1,decide_true,if_true,Zcx,ZZl];by_cases h2:Zk1 x s b < 0
   .have h3:¬(Zk1 x s b≥0):=by omega
    rw[ZZi h3,ZZj h2]
   .have h3:Zk1 x s b≥0:=by omega
    rw[ZZj h3,ZZi h2,Wa (by simp;omega) (by simp;omega),ZZa,ih m _ _ (by omega) (by simp;omega)];cases Zcx s b n (Zk1 x s b)<;>simp
 have:=key (Xs b).toNat FU a [] (by have:=Qe;omega) (by simp;omega);rw[this];unfold J6;cases Zcx s b (Xs b).toNat a<;>simp
theorem Yi3 {s b:Int}:∀{n:Nat} {a:Int} {l:List Int},Zcx s b n a=some l->l.length=n/\(∀x∈l,X6 x s=true/\x < 512)/\(0 < n->l.head?=some a):=by
 intro n
 induction n with
 | zero=>intro a l h;simp only[Zcx,ZZd] at h;subst h;simp
 | succ n ih=>
  intro a l h;simp only[Zcx] at h;split at h
  .cases h
  .rename_i h1
   obtain⟨l',h2,rfl⟩:=ZZc.1 h;obtain⟨h3,h4,_⟩:=ih h2;refine⟨by simp[h3],λx hx=>?_,λ_=>rfl⟩;rcases Vav.1 hx with rfl|hx
   .exact Ypt (s:=s) (b:=b) (by omega)
   .exact h4 x hx
theorem Yds (a s b:Int):J6 a s b=[]\/((J6 a s b).length:Int)=Xs b:=by
 unfold J6;have hb:=Zms b;cases h:Zcx s b (Xs b).toNat a with
 | none=>exact .inl rfl
 | some l=>
  have:=(Yi3 h).1;exact .inr (by simp only[Va0];omega)
theorem Z3v {a s b x:Int} (h:x∈J6 a s b):X6 x s=true/\0<=x/\x < 512:=by
 unfold J6 at h;cases h2:Zcx s b (Xs b).toNat a with
 | none=>rw[h2] at h;simp at h
 | some l=>
  rw[h2] at h;have:=(Yi3 h2).2.1 x h;exact⟨this.1,(Zbn this.1).2.1,this.2⟩
theorem Yid (a s b:Int):(J6 a s b).length<=8:=by
 have:=Zms b;rcases Yds a s b with h|h
 .rw[h];simp
 .omega
def Zoq (a s b:Int):Bool:=(J6 a s b).all (λx=>decide (x / 64=atI (J6 a s b) 0 / 64))&&decide (J6 a s b≠[])
theorem Z89 {x:Int} (h0:0<=x) (h1:x < 512):Zq4 x 64=x / 64:=Z9a h0 (by omega) (by omega)
theorem Ym5 (a s b:Int):Ztw a s b=some (Zoq a s b):=by
 unfold Ztw Zoq;rw[Zz3,ZZa];generalize hA:J6 a s b=l;have hm:∀x∈l,0<=x/\x < 512:=λx hx=>by rw[<-hA] at hx;exact (Z3v hx).2
 have hl:l.length<=8:=by rw[<-hA];exact Yid a s b
 have key:∀(m k:Nat),k<=l.length->l.length - k < m->Zlj a s b m l (l.length:Int) k=some ((l.drop k).all (λx=>decide (x / 64=atI l 0 / 64))&&decide (l≠[])):=by
  intro m
  induction m with
  | zero=>intro k _ h;omega
  | succ m ih=>
   intro k hk hm2;show Zpy a s b _ l (l.length:Int) k=_;unfold Zpy;by_cases hc:k < l.length
   .have h0:=hm _ (Vao hc)
    have h1:=hm _ (Vao (by omega:0 < l.length));rw[ZZj (by simpa using hc),Xp hc,ZZa,show (0:Int)=((0:Nat):Int) from rfl,Xp (by omega:0 < l.length),ZZa,Z89 h0.1 h0.2,Z89 h1.1 h1.2,Wk (by omega:0 < l.length),Va2 hc,Va6];by_cases hq:(l[k]:Int) / (64:Int)=(l[0]:Int) / (64:Int)
    .rw[ZZi (by simpa using hq),X4 (by omega),ih (k+1) (by omega) (by omega),show (0:Int)=((0:Nat):Int) from rfl,Wk (by omega:0 < l.length),decide_eq_true hq,Vbx]
    .rw[ZZj (by simpa using hq),decide_eq_false hq,Vbs,Vbs]
   .rw[ZZi (by simpa using hc),Vba (by omega)]
    simp[Van]
 have:=key FU 0 (Vbj _) (by have:=Qe;omega);simpa using this
theorem Ylg (a s b:Int):Zud a s b=some (Zoq a s b):=by
 unfold Zud Zoq;rw[Z0e,ZZa];generalize hA:J6 a s b=l;have hm:∀x∈l,0<=x/\x < 512:=λx hx=>by rw[<-hA] at hx;exact (Z3v hx).2
 have hl:l.length<=8:=by rw[<-hA];exact Yid a s b
 have key:∀(m k:Nat),k<=l.length->l.length - k < m->Zlm a s b m l k=some ((l.drop k).all (λx=>decide (x / 64=atI l 0 / 64))&&decide (l≠[])):=by
  intro m
  induction m with
  | zero=>intro k _ h;omega
  | succ m ih=>
   intro k hk hm2;show Zp3 a s b _ l k=_;unfold Zp3;by_cases hc:k < l.length
   .have h0:=hm _ (Vao hc)
    have h1:=hm _ (Vao (by omega:0 < l.length));rw[ZZj (by simpa using hc),Xp hc,ZZa,show (0:Int)=((0:Nat):Int) from rfl,Xp (by omega:0 < l.length),ZZa,Z89 h0.1 h0.2,Z89 h1.1 h1.2,Wk (by omega:0 < l.length),Va2 hc,Va6];by_cases hq:(l[k]:Int) / (64:Int)=(l[0]:Int) / (64:Int)
    .rw[ZZi (by simpa using hq),X4 (by omega),ih (k+1) (by omega) (by omega),show (0:Int)=((0:Nat):Int) from rfl,Wk (by omega:0 < l.length),decide_eq_true hq,Vbx]
    .rw[ZZj (by simpa using hq),decide_eq_false hq,Vbs,Vbs]
   .rw[ZZi (by simpa using hc),Vba (by omega)]
    simp[Van]
 have:=key FU 0 (Vbj _) (by have:=Qe;omega);simpa using this
instance:Inhabited Zb:=⟨Zb.z0⟩
def Jz (r:Zb):Bool:=Zoq r.addr r.size r.burst&&(decide ((r.data_.length:Int)=if r.write then Xs r.burst else 0)&&r.data_.all λv=>Xm v r.size)
def Zb.sm (r:Zb):Prop:=r.data_.length < 1048577
theorem Z32 (r:Zb) (hs:r.sm):Zqi r=some (Jz r):=by
 unfold Zb.sm at hs;have hf:Wo r.data_ r=some (!r.data_.all λv=>Xm v r.size):=by
  unfold Wo Kw;refine Zvm r.data_ (by omega) (λv=>Zua v r) (λv=>Xm v r.size) (λv _=>?_) _ (λm i=>rfl);unfold Zua;rw[Ziw];rfl
 unfold Zqi Zpj Jz;rw[Zsn,ZZa,Ym5,ZZa,hf,ZZa,Vel];by_cases h1:Zoq r.addr r.size r.burst=true
 .by_cases h2:r.write=true
  .by_cases h3:(r.data_.length:Int)=Xs r.burst<;>simp[h1,h2,h3]
  .by_cases h3:r.data_=[]<;>simp[h1,h2,h3]
 .by_cases h2:r.write=true<;>simp[h1,h2]
theorem Z30 (r:Zb) (hs:r.sm):Zqm r=some (Jz r):=by
 unfold Zb.sm at hs;unfold Zqm;rw[Ylg,ZZa];have hb:=Zms r.burst;have key:∀(m k:Nat),k<=r.data_.length->r.data_.length - k < m->Zpk r m k=some (decide ((r.data_.length:Int)=if r.write then Xs r.burst else 0)&&(r.data_.drop k).all λv=>Xm v r.size):=by
  intro m
  induction m with
  | zero=>intro k _ h;omega
  | succ m ih=>
   intro k hk hm;show Zs5 r _ k=_;unfold Zs5;by_cases hc:k < r.data_.length
   .rw[ZZj (by simpa using hc),Xp hc,ZZa,Zba,ZZa,Zp0,ZZa,Va2 hc,Va6]
    by_cases hq:Xm r.data_[k] r.size=true
    .rw[ZZi (by simp[hq]),X4 (by omega),ih (k+1) (by omega) (by omega)]
     simp[hq]
    .rw[ZZj (by simp[hq])]
     simp[hq]
   .rw[ZZi (by simpa using hc),Vba (by omega),Zhm]
    cases h2:r.write<;>simp only[if_true,if_false,ZZf,ZZa,Vdl,Vch]<;>generalize decide ((r.data_.length:Int)=0)=x<;>generalize decide ((r.data_.length:Int)=Xs r.burst)=y<;>cases x<;>cases y<;>rfl
 have:=key FU 0 (Vbj _) (by have:=Qe;omega);unfold Jz;by_cases h1:Zoq r.addr r.size r.burst=true
 .rw[ZZi (by simp[h1]),show (0:Int)=((0:Nat):Int) from rfl,this]
  simp[h1]
 .rw[ZZj (by simp[h1])]
  simp[h1]
theorem Zib {r:Zb} (h:Jz r=true):Zoq r.addr r.size r.burst=true/\(r.data_.length:Int)=(if r.write then Xs r.burst else 0)/\∀v∈r.data_,Xm v r.size=true:=by
 simp only[Jz,ZZg,ZZl,ZZk] at h;exact⟨h.1,h.2.1,h.2.2⟩
theorem Zqb {a s b:Int} (h:Zoq a s b=true):((J6 a s b).length:Int)=Xs b/\1<=Xs b:=by
 simp only[Zoq,ZZg,ZZl] at h;rcases Yds a s b with h1|h1
 .exact absurd h1 h.2
 .have:0 < (J6 a s b).length:=Van.2 h.2
  omega
theorem Yw4 {r:Zb} (h:Jz r=true):r.sm:=by
 have:=(Zib h).2.1;have hb:=Zms r.burst;unfold Zb.sm;split at this<;>omega
theorem Z7y (r:Zb) (hs:r.sm):Zir r=some r:=by
 unfold Zb.sm at hs;unfold Zir Y5;rw[Wa (by simp;omega) (by simp;omega)];rfl
theorem Z6a (r:Zb) (hs:r.sm):Ziv r=some r:=by
 unfold Zb.sm at hs;unfold Ziv;rw[Wa (by simp;omega) (by simp;omega)];rfl
instance:Inhabited Zd:=⟨Zd.z0⟩
def Zy (m:Zd):Int:=if m.queue=[] then 0 else Xs (atI m.queue 0).burst
theorem Zr2 (m:Zd):0<=Zy m/\Zy m<=8:=by
 unfold Zy;have:=Zms (atI m.queue 0).burst;split<;>omega
def Zu1 (m:Zd):Bool:=decide (m.queue.length<=4)&&(decide (0<=m.tries)&&(m.queue.all Jz&&
 (if m.queue=[] then decide (m.beat=0)&&(decide (m.done=0)&&(decide (m.tries=0)&&(!m.parted&&!m.broken))) else decide (0<=m.done/\m.done<=Zy m - 1)&&decide (m.done<=m.beat/\m.beat<=min (m.done+2) (Zy m)))))
def Zd.sm (m:Zd):Prop:=m.queue.length < 1048577/\∀r∈m.queue,r.sm
structure Yq (m:Zd):Prop where
 len:m.queue.length<=4
 tries:0<=m.tries
 reqs:∀r∈m.queue,Jz r=true
 none:m.queue=[]->m.beat=0/\m.done=0/\m.tries=0/\m.parted=false/\m.broken=false
 some:m.queue≠[]->0<=m.done/\m.done < Zy m/\m.done<=m.beat/\m.beat<=m.done+2/\m.beat<=Zy m
theorem K1 {m:Zd}:Zu1 m=true↔Yq m:=by
 unfold Zu1;by_cases h:m.queue=[]
 .constructor
  .intro h1
   simp only[h,if_true,ZZg,ZZl,Vb0] at h1;exact⟨by simp[h],h1.2.1,by simp[h],λ_=>⟨h1.2.2.2.1,h1.2.2.2.2.1,h1.2.2.2.2.2.1,h1.2.2.2.2.2.2.1,h1.2.2.2.2.2.2.2⟩,λh2=>absurd h h2⟩
  .intro h1
   obtain⟨h2,h3,h4,h5,h6⟩:=h1.none h;simp[h,h2,h3,h4,h5,h6]
 .constructor
  .intro h1
   rw[ZZi h] at h1;simp only[ZZg,ZZl,ZZk] at h1;exact⟨h1.1,h1.2.1,h1.2.2.1,λh2=>absurd h2 h,λ_=>by omega⟩
  .intro h1
   have h2:=h1.some h;rw[ZZi h];simp only[ZZg,ZZl,ZZk];exact⟨h1.len,h1.tries,h1.reqs,by omega,by omega⟩
theorem Yq.sm {m:Zd} (h:Yq m):m.sm:=⟨by have:=h.len;omega,λr hr=>Yw4 (h.reqs r hr)⟩
theorem Zwt (m:Zd):Zbo m=some (Zy m):=by
 unfold Zbo Zy;by_cases h:m.queue=[]
 .simp[h]
 .have h1:0 < m.queue.length:=Van.2 h
  rw[ZZi (by simpa using h),ZZi h,Xj (by omega) (by omega),ZZa,Zsn];rfl
theorem Zw9 (m:Zd):Zc0 m=some (Zy m):=by
 unfold Zc0 Zy;by_cases h:m.queue=[]
 .simp[h]
 .have h1:0 < m.queue.length:=Van.2 h
  rw[ZZi (by simpa using h),ZZi h,Xj (by omega) (by omega),ZZa,Zhm];rfl
theorem Zbm (m:Zd) (hs:m.sm):Kg m=some (Zu1 m):=by
 have hf:Xv m.queue=some (!m.queue.all Jz):=by
  unfold Xv Qj;refine Zvm m.queue (by have:=hs.1;omega) Zft Jz (λr hr=>?_) _ (λm i=>rfl);unfold Zft;rw[Z32 r (hs.2 r hr)];rfl
 have hb:=Zr2 m;have hJ:Wn m false=some (if m.queue=[] then decide (m.beat=0)&&(decide (m.done=0)&&(decide (m.tries=0)&&(!m.parted&&!m.broken))) else decide (0<=m.done/\m.done<=Zy m - 1)&&decide (m.done<=m.beat/\m.beat<=min (m.done+2) (Zy m))):=by
  unfold Wn;rw[Zwt,ZZa,ZZa,X2,ZZa,X2,ZZa,Xa (by omega) (by omega)];by_cases h:m.queue=[]
  .rw[ZZi (by simp),ZZj (by simpa using h),ZZj h]
   by_cases h1:m.beat=0<;>by_cases h2:m.done=0<;>by_cases h3:m.tries=0<;>by_cases h4:m.parted=true<;>simp[h1,h2,h3,h4]
  .rw[ZZi (by simp),ZZi (by simpa using h),ZZi h]
   by_cases h1:0<=m.done/\m.done<=Zy m - 1
   .rw[Yn (by omega) (by omega),Zb2]
    simp[h1]
   .simp[h1]
 unfold Kg Zu1;rw[hf,ZZa];by_cases h1:(m.queue.length:Int) > 4
 .have h2:¬m.queue.length<=4:=by omega
  simp[h1,h2,Wn]
 .have h2:m.queue.length<=4:=by omega
  by_cases h3:m.tries < 0
  .have h4:¬0<=m.tries:=by omega
   simp[h1,h2,h3,h4,Wn]
  .have h4:0<=m.tries:=by omega
   rw[ZZi (by simpa using h1),ZZi (by simpa using h3)];by_cases h5:m.queue.all Jz=true
   .rw[h5,Va5,hJ]
    simp only[h2,h4,decide_true,Vbx]
   .have h6:m.queue.all Jz=false:=by simpa using h5
    rw[h6,Vbf];simp[Wn]
theorem Zfi (m:Zd) (hs:m.sm):Za9 m=some (Zu1 m):=by
 have hb:=Zr2 m;have hJ:Zak m false=some (if m.queue=[] then decide (m.beat=0)&&(decide (m.done=0)&&(decide (m.tries=0)&&(!m.parted&&!m.broken))) else decide (0<=m.done/\m.done<=Zy m - 1)&&decide (m.done<=m.beat/\m.beat<=min (m.done+2) (Zy m))):=by
  unfold Zak;rw[Zw9,ZZa,ZZa,Xf,ZZa,Xf,ZZa,Xa (by omega) (by omega)];by_cases h:m.queue=[]
  .rw[ZZi (by simp),ZZj (by simpa using h),ZZj h]
   by_cases h1:m.beat=0<;>by_cases h2:m.done=0<;>by_cases h3:m.tries=0<;>by_cases h4:m.parted=true<;>simp[h1,h2,h3,h4]
  .rw[ZZi (by simp),ZZi (by simpa using h),ZZi h]
   by_cases h1:0<=m.done/\m.done<=Zy m - 1
   .rw[Yn (by omega) (by omega),Zb2]
    simp[h1]
   .simp[h1]
 unfold Za9;have hl:=hs.1;have key:∀(n k:Nat),k<=m.queue.length->m.queue.length - k < n->Zjl m n k=some (decide (m.queue.length<=4)&&(decide (0<=m.tries)&&((m.queue.drop k).all Jz&&
 (if m.queue=[] then decide (m.beat=0)&&(decide (m.done=0)&&(decide (m.tries=0)&&(!m.parted&&!m.broken))) else decide (0<=m.done/\m.done<=Zy m - 1)&&decide (m.done<=m.beat/\m.beat<=min (m.done+2) (Zy m)))))):=by
  intro n
  induction n with
  | zero=>intro k _ h;omega
  | succ n ih=>
   intro k hk hm;show Zol m _ k=_;unfold Zol;by_cases hc:k < m.queue.length
   .rw[ZZj (by simpa using hc),Xp hc,ZZa,Z30 _ (hs.2 _ (Vao hc)),ZZa,Va2 hc,Va6]
    by_cases hq:Jz m.queue[k]=true
    .rw[ZZi (by simp[hq]),X4 (by omega),ih (k+1) (by omega) (by omega)]
     simp[hq]
    .rw[ZZj (by simp[hq])]
     simp[hq]
   .rw[ZZi (by simpa using hc),Vba (by omega)]
    by_cases h1:(m.queue.length:Int) > 4
    .have h2:¬m.queue.length<=4:=by omega
     simp[h1,h2,Zak]
    .have h2:m.queue.length<=4:=by omega
     by_cases h3:m.tries < 0
     .have h4:¬0<=m.tries:=by omega
      simp[h1,h2,h3,h4,Zak]
     .have h4:0<=m.tries:=by omega
      rw[ZZi (by simpa using h1),decide_eq_false h3,hJ];simp only[h2,h4,decide_true,Vbx,Vdl]
 have:=key FU 0 (Vbj _) (by have:=Qe;omega);simpa [Zu1] using this
theorem Zou (m:Zd) (hs:m.sm):Zf3 m=some m:=by
 unfold Zf3;refine (Yis 64 (by decide) m.queue hs.1 Zir (λr hr=>Z7y r (hs.2 r hr)) (λv=>some {m with queue:=v}) (Zn7 m) (λn v i=>rfl)).trans ?_;rfl
theorem Zmi (m:Zd) (hs:m.sm):Zdw m=some m:=by
 unfold Zdw;refine (Yis 64 (by decide) m.queue hs.1 Ziv (λr hr=>Z6a r (hs.2 r hr)) (λv=>some {m with queue:=v}) (Zlg m) (λn v i=>rfl)).trans ?_;rfl
def Ju (m:Zd) (r:Zb):Zd:=if Jz r=true/\m.queue.length≠4 then {m with queue:=m.queue++[r]} else m
def Zo5 (m:Zd):Bool:=decide (m.beat < Zy m)
def X0 (m:Zd) (b:Int):Int:=if 0<=b/\b<=Zy m - 1 then atI (J6 (atI m.queue 0).addr (atI m.queue 0).size (atI m.queue 0).burst) b else -1
def Xz (m:Zd):Zd:=if m.beat < Zy m/\m.beat≠m.done+2 then {m with beat:=m.beat+1} else m
def Zbj (m:Zd):Zd:=if m.beat=m.done then m else {m with beat:=m.beat - 1}
def K2 (m:Zd):Zd:=if m.beat=m.done then m else if m.done+1=Zy m then Zd.mk m.queue.tail 0 0 0 false false else Zd.mk m.queue m.beat (m.done+1) 0 false m.broken
theorem Ja {m:Zd} (h:Yq m):0<=m.done/\m.done<=8/\0<=m.beat/\m.beat<=8:=by
 have hb:=Zr2 m;by_cases hq:m.queue=[]
 .have:=h.none hq;omega
 .have:=h.some hq;omega
theorem Zty {m:Zd} (h:Yq m) (hq:m.queue≠[]):Jz (atI m.queue 0)=true/\Zy m=Xs (atI m.queue 0).burst/\1<=Zy m:=by
 have h1:0 < m.queue.length:=Van.2 hq;have h2:Jz (atI m.queue 0)=true:=h.reqs _ (Zjr (by omega) (by omega));have h3:Zy m=Xs (atI m.queue 0).burst:=by unfold Zy;rw[ZZi hq]
 exact⟨h2,h3,by rw[h3];exact (Zqb (Zib h2).1).2⟩
theorem Ymy {m:Zd} {b:Int} (h:Yq m) (h0:0<=b) (h1:b < Zy m):X0 m b∈J6 (atI m.queue 0).addr (atI m.queue 0).size (atI m.queue 0).burst/\X6 (X0 m b) (atI m.queue 0).size=true/\0<=X0 m b/\X0 m b < 512:=by
 have hq:m.queue≠[]:=by
  intro hq;unfold Zy at h1;rw[ZZj hq] at h1;omega
 obtain⟨h2,h3,h4⟩:=Zty h hq;have h5:=(Zqb (Zib h2).1).1;have h6:X0 m b=atI (J6 (atI m.queue 0).addr (atI m.queue 0).size (atI m.queue 0).burst) b:=by
  unfold X0;rw[ZZj (by omega)]
 have h7:=Zjr (xs:=J6 (atI m.queue 0).addr (atI m.queue 0).size (atI m.queue 0).burst) h0 (by omega);rw[h6];have h8:=Z3v h7;exact⟨h7,h8.1,h8.2.1,h8.2.2⟩
theorem Zeg {m:Zd} (b:Int) (h:Yq m):Zd3 m b=some (X0 m b):=by
 have hb:=Zr2 m;unfold Zd3 Zli;rw[Zbm m h.sm,ZZa,K1.2 h,Zwt,ZZa,X2,ZZa,Xa (by omega) (by omega)];by_cases h1:0<=b/\b<=Zy m - 1
 .have hq:m.queue≠[]:=by
   intro hq;unfold Zy at h1;rw[ZZj hq] at h1;omega
  obtain⟨h2,h3,h4⟩:=Zty h hq;have h5:=(Zqb (Zib h2).1).1;have h6:0 < m.queue.length:=Van.2 hq;rw[Xj (by omega) (by omega),ZZa,Zz3,ZZa,Xj h1.1 (by omega)];simp[h1,X0]
 .simp[h1,X0]
theorem Zhy {m:Zd} (b:Int) (h:Yq m):Zgz m b=some (X0 m b):=by
 have hb:=Zr2 m;unfold Zgz Zlk;rw[Zfi m h.sm,ZZa,K1.2 h,Zw9,ZZa,Xf,ZZa,Xa (by omega) (by omega)];by_cases h1:0<=b/\b<=Zy m - 1
 .have hq:m.queue≠[]:=by
   intro hq;unfold Zy at h1;rw[ZZj hq] at h1;omega
  obtain⟨h2,h3,h4⟩:=Zty h hq;have h5:=(Zqb (Zib h2).1).1;have h6:0 < m.queue.length:=Van.2 hq;rw[Xj (by omega) (by omega),ZZa,Z0e,ZZa,Xj h1.1 (by omega)];simp[h1,X0]
 .simp[h1,X0]
theorem Z5l {m:Zd} (h:Yq m):Zm0 m=some (Zo5 m):=by
 unfold Zm0 Zo5;rw[Zbm m h.sm,ZZa,K1.2 h,Zwt];rfl
theorem Z5r {m:Zd} (h:Yq m):Zm1 m=some (Zo5 m):=by
 unfold Zm1 Zo5;rw[Zfi m h.sm,ZZa,K1.2 h,Zw9];rfl
theorem Ym7 {m:Zd} {r:Zb} (h:Yq m) (hr:r.sm):∃b,Zut m r=some (Ju m r,b):=by
 have hl:=h.len;unfold Zut Zgg Ju;rw[Zou m h.sm,ZZa,Zbm m h.sm,ZZa,K1.2 h,Z32 r hr,ZZa,Z7y r hr,ZZa,Wa (by simp;omega) (by simp;omega),ZZa];by_cases h1:Jz r=true
 .by_cases h2:m.queue.length=4
  .simp[h1,h2]
  .have h3:¬((m.queue.length:Int)=4):=by omega
   simp[h1,h2,h3]
 .simp[h1]
theorem Yly {m:Zd} {r:Zb} (h:Yq m) (hr:r.sm):∃b,Zt8 m r=some (Ju m r,b):=by
 have hl:=h.len;unfold Zt8 Zfj Ju;rw[Zmi m h.sm,ZZa,Zfi m h.sm,ZZa,K1.2 h,Z30 r hr,ZZa,Z6a r hr,ZZa,Wa (by simp;omega) (by simp;omega),ZZa];by_cases h1:Jz r=true
 .by_cases h2:m.queue.length=4
  .simp[h1,h2]
  .have h3:¬((m.queue.length:Int)=4):=by omega
   simp[h1,h2,h3]
 .simp[h1]
theorem Yj9 {m:Zd} (h:Yq m):∃b,Zra m=some (Xz m,b):=by
 have hb:=Ja h;unfold Zra Zi7 Xz;rw[Zou m h.sm,ZZa,Z5l h,ZZa,Yn (a:=m.done) (by omega) (by omega),Yn (by omega) (by omega)];unfold Zo5;by_cases h1:m.beat < Zy m
 .by_cases h2:m.beat=m.done+2<;>simp[h1,h2]
 .simp[h1]
theorem Yjt {m:Zd} (h:Yq m):∃b,Zq5 m=some (Xz m,b):=by
 have hb:=Ja h;unfold Zq5 Zim Xz;rw[Zmi m h.sm,ZZa,Z5r h,ZZa,Yn (a:=m.done) (by omega) (by omega),Yn (by omega) (by omega)];unfold Zo5;by_cases h1:m.beat < Zy m
 .by_cases h2:m.beat=m.done+2<;>simp[h1,h2]
 .simp[h1]
theorem Yl4 {m:Zd} (h:Yq m):∃b,Zt7 m=some (Zbj m,b):=by
 have hb:=Ja h;unfold Zt7 Zlo Zbj;rw[Zou m h.sm,ZZa,Zbm m h.sm,ZZa,K1.2 h,Xa (by omega) (by omega)];by_cases h1:m.beat=m.done<;>simp[h1]
theorem Yk0 {m:Zd} (h:Yq m):∃b,Zui m=some (Zbj m,b):=by
 have hb:=Ja h;unfold Zui Zkq Zbj;rw[Zmi m h.sm,ZZa,Zfi m h.sm,ZZa,K1.2 h,Xa (by omega) (by omega)];by_cases h1:m.beat=m.done<;>simp[h1]
theorem Zw7 {α:Type} (xs:List α) (h:xs≠[]) (hl:xs.length < 1048577):J4 xs 1 (xs.length:Int)=some xs.tail:=by
 have h1:0 < xs.length:=Van.2 h;unfold J4;rw[ZZj ⟨by omega,by omega,by omega⟩]
 congr 1
 rw[Vbi (by simp),<-List.drop_one];rfl
theorem Zgu {m:Zd} (h:Yq m) (hb:m.beat≠m.done):m.queue≠[]:=by
 intro hq;have:=h.none hq;omega
theorem Ypd {m:Zd} (h:Yq m):∃b,Zw8 m=some (K2 m,b):=by
 have hb:=Ja h;have hl:=h.len;unfold Zw8 Znd K2;rw[Zou m h.sm,ZZa,Zbm m h.sm,ZZa,K1.2 h,Yn (by omega) (by omega),Zwt,ZZa];have e:Zy {m with done:=m.done+1}=Zy m:=rfl;rw[e];by_cases h1:m.beat=m.done
 .simp[h1]
 .rw[Zw7 _ (Zgu h h1) (by omega),ZZa]
  by_cases h2:m.done+1=Zy m<;>simp[h1,h2]
theorem Yph {m:Zd} (h:Yq m):∃b,Zw4 m=some (K2 m,b):=by
 have hb:=Ja h;have hl:=h.len;unfold Zw4 Zoc K2;rw[Zmi m h.sm,ZZa,Zfi m h.sm,ZZa,K1.2 h,Yn (by omega) (by omega),Zw9,ZZa];by_cases h1:m.beat=m.done
 .simp[h1]
 .rw[Zw7 _ (Zgu h h1) (by omega),ZZa]
  by_cases h2:m.done+1=Zy m<;>simp[h1,h2]
theorem Yaz {m:Zd} {r:Zb} (h:m.queue≠[]):atI (m.queue++[r]) 0=atI m.queue 0:=by
 cases hq:m.queue with
 | nil=>exact absurd hq h
 | cons a l=>rfl
theorem Yuk {m:Zd} {r:Zb} (h:Yq m):Yq (Ju m r):=by
 unfold Ju;split
 .rename_i h1
  have hl:=h.len;have Yf:m.queue++[r]≠[]:=by simp
  refine⟨by simp;omega,h.tries,λx hx=>?_,λhx=>absurd hx Yf,λ_=>?_⟩
  .rcases Vat.1 hx with hx|hx
   .exact h.reqs x hx
   .rw[List.mem_singleton.1 hx];exact h1.1
  .by_cases hq:m.queue=[]
   .obtain⟨h2,h3,h4,h5,h6⟩:=h.none hq
    have hm:Zy {m with queue:=m.queue++[r]}=Xs r.burst:=by
     unfold Zy;rw[ZZi Yf];simp[hq,atI]
    have:=(Zqb (Zib h1.1).1).2;rw[hm];simp only[h2,h3];omega
   .have h2:=h.some hq
    have hm:Zy {m with queue:=m.queue++[r]}=Zy m:=by
     unfold Zy;rw[ZZi Yf,ZZi hq];simp only[Yaz hq]
    rw[hm];exact h2
 .exact h
theorem Ypb {m:Zd} (h:Yq m):Yq (Xz m):=by
 unfold Xz;split
 .rename_i h1
  have hq:m.queue≠[]:=by
   intro hq;unfold Zy at h1;rw[ZZj hq] at h1;have:=Ja h;omega
  have h2:=h.some hq;refine⟨h.len,h.tries,h.reqs,λhx=>absurd hx hq,λ_=>?_⟩;have hm:Zy {m with beat:=m.beat+1}=Zy m:=rfl;rw[hm];simp only;omega
 .exact h
theorem Yd1 {m:Zd} (h:Yq m):Yq (Zbj m):=by
 unfold Zbj;split
 .exact h
 .rename_i h1
  have hq:=Zgu h h1;have h2:=h.some hq;refine⟨h.len,h.tries,h.reqs,λhx=>absurd hx hq,λ_=>?_⟩;have hm:Zy {m with beat:=m.beat - 1}=Zy m:=rfl;rw[hm];simp only;omega
theorem Yyl {m:Zd} (h:Yq m):Yq (K2 m):=by
 unfold K2;split
 .exact h
 .rename_i h1
  have hq:=Zgu h h1;have h2:=h.some hq;split
  .have hr:∀r∈m.queue.tail,Jz r=true:=λr hr=>h.reqs r (List.mem_of_mem_tail hr)
   refine⟨by have:=h.len;simp;omega,by simp,hr,λ_=>by simp,λhx=>?_⟩;have h3:Yq (Zd.mk m.queue.tail 0 0 0 false false)->True:=λ_=>trivial;have h4:0 < m.queue.tail.length:=Van.2 hx;have h5:Jz (atI m.queue.tail 0)=true:=hr _ (Zjr (by omega) (by omega));have h6:=(Zqb (Zib h5).1).2;have hm:Zy (Zd.mk m.queue.tail 0 0 0 false false)=Xs (atI m.queue.tail 0).burst:=by
    unfold Zy;rw[ZZi hx]
   rw[hm];simp only;omega
  .rename_i h3
   refine⟨h.len,by simp,h.reqs,λhx=>absurd hx hq,λ_=>?_⟩;have hm:Zy (Zd.mk m.queue m.beat (m.done+1) 0 false m.broken)=Zy m:=rfl;rw[hm];simp only;omega
theorem Y26 {a b:Int} {k:Nat} (h0:0<=a) (h1:a < 2^k) (hb:0<=b) (hk:b*2^k+a < 9223372036854775808):orW a (b*2^k)=a+b*2^k:=by
 obtain⟨a,rfl⟩:=Vda h0;obtain⟨b,rfl⟩:=Vda hb;have e1:(b:Int)*2^k=((b*2^k:Nat):Int):=by simp
 rw[e1] at hk ⊢;have h1':a < 2^k:=by
  have:((a:Nat):Int) < ((2^k:Nat):Int):=by simpa using h1
  exact Int.ofNat_lt.1 this
 have h2:a+b*2^k < 18446744073709551616:=by omega
 unfold orW;show IntKind.i64.wrap (((BitVec.ofInt 64 ((a:Nat):Int) ||| BitVec.ofInt 64 ((b*2^k:Nat):Int)).toNat:Nat):Int)=_;rw[Vc0,Vc0,BitVec.toNat_or,Vc6,Vc6,Vdh (by omega),Vdh (by omega)];have h3:a ||| b*2^k=a+b*2^k:=by
  rw[Nat.or_comm,<-Nat.shiftLeft_eq,<-Nat.shiftLeft_add_eq_or_of_lt h1',Vdi]
 rw[h3,Zxt (by omega) (by omega)];simp
theorem Yzh {a:Int} (h0:0<=a) (h1:a < 9223372036854775808):andW a 255=a % 256:=by
 obtain⟨a,rfl⟩:=Vda h0;unfold andW;show IntKind.i64.wrap (((BitVec.ofInt 64 ((a:Nat):Int) &&& BitVec.ofInt 64 ((255:Nat):Int)).toNat:Nat):Int)=_;rw[Vc0,Vc0,BitVec.toNat_and,Vc6,Vc6,Vdh (by omega),Vdh (by omega)];have h3:a &&& 255=a % 256:=Nat.and_two_pow_sub_one_eq_mod a 8;rw[h3,Zxt (by omega) (by omega)];omega
theorem Y1n {a:Int} {k:Nat} (hk:k<=64) (h0:0<=a) (h1:a*2^k < 9223372036854775808):Ybx a (k:Int)=a*2^k:=by
 unfold Ybx;have:min ((k:Int).toNat) IntKind.i64.bits=k:=by
  show min ((k:Int).toNat) 64=k;omega
 rw[this];have:0<=a*2^k:=Vei h0 (Int.pow_nonneg (by omega));exact Zxt (by omega) h1
theorem Y28 {a:Int} {k:Nat} (hk:k<=64) (h0:0<=a):shrW a (k:Int)=a / 2^k:=by
 unfold shrW;have:min ((k:Int).toNat) IntKind.i64.bits=k:=by
  show min ((k:Int).toNat) 64=k;omega
 rw[this,Int.fdiv_eq_ediv_of_nonneg _ (Int.pow_nonneg (by omega))]
def Zbu (n:Int):Bool:=decide (0<=n/\n<=255)
def Z13 (mem:List Int):Bool:=decide (mem.length<=512)&&mem.all Zbu
def Zk9 (mem:List Int) (a s:Int):Bool:=Z13 mem&&(X6 a s&&decide (a<=(mem.length:Int) - Yv s))
theorem Z7p (mem:List Int) (a s:Int) (hl:mem.length < 1048577):Ztj mem a s=some (Zk9 mem a s):=by
 have hb:=Zid s;have hf:Wv mem=some (!mem.all Zbu):=by
  unfold Wv K6;refine Zvm mem (by omega) Zwp Zbu (λr hr=>?_) _ (λm i=>rfl);unfold Zwp;rw[X2];rfl
 unfold Ztj Zk9 Z13;rw[hf,ZZa,Zsm,ZZa,Zhw,ZZa,Xa (by omega) (by omega)];by_cases h1:mem.length<=512
 .have h2:(mem.length:Int)<=512:=by omega
  by_cases h3:mem.all Zbu=true
  .by_cases h4:X6 a s=true<;>simp only[h1,h2,h3,h4,decide_true,if_true,Va5,Vbf,Vbx,Vcc,Vbs,ZZf,if_false]
  .simp[h1,h2,h3]
 .have h2:¬(mem.length:Int)<=512:=by omega
  simp[h1,h2]
theorem Z6j (mem:List Int) (hl:mem.length < 1048577):Zop mem=some (Z13 mem):=by
 unfold Zop Z13;have key:∀(n k:Nat),k<=mem.length->mem.length - k < n->Zlf mem n k=some (decide (mem.length<=512)&&(mem.drop k).all Zbu):=by
  intro n
  induction n with
  | zero=>intro k _ h;omega
  | succ n ih=>
   intro k hk hm;show Zp1 mem _ k=_;unfold Zp1;by_cases hc:k < mem.length
   .rw[ZZj (by simpa using hc),Xp hc,ZZa,Xf,ZZa,Va2 hc,Va6]
    by_cases hq:0<=mem[k]/\mem[k]<=255
    .rw[ZZi (by simp[hq]),X4 (by omega),ih (k+1) (by omega) (by omega)]
     simp[hq,Zbu]
    .rw[ZZj (by simp[hq])]
     simp[hq,Zbu]
   .rw[ZZi (by simpa using hc),Vba (by omega)]
    by_cases h1:mem.length<=512
    .have h2:(mem.length:Int)<=512:=by omega
     simp[h1,h2]
    .have h2:¬(mem.length:Int)<=512:=by omega
     simp[h1,h2]
 have:=key FU 0 (Vbj _) (by have:=Qe;omega);simpa using this
theorem Z93 (mem:List Int) (a s:Int) (hl:mem.length < 1048577):Zqu mem a s=some (Zk9 mem a s):=by
 have hb:=Zid s;unfold Zqu Zk9;rw[Z6j mem hl,ZZa,Zrq,ZZa,Zbg,ZZa,Xa (by omega) (by omega)];by_cases h3:Z13 mem=true
 .by_cases h4:X6 a s=true<;>simp only[h3,h4,if_true,Vbx,Vbs,ZZf,if_false]
 .simp[h3]
def Zhs (mem:List Int):Nat->Int->Int
 | 0,_=>0
 | n+1,a=>atI mem a+256*Zhs mem n (a+1)
def Z4v:Nat->List Int->Int->Int->List Int
 | 0,l,_,_=>l
 | n+1,l,a,v=>Z4v n (l.set a.toNat (v % 256)) (a+1) (v / 256)
theorem Yyy:∀(n:Nat) (l:List Int) (a v:Int),(Z4v n l a v).length=l.length:=by
 intro n
 induction n with
 | zero=>intro l a v;rfl
 | succ n ih=>intro l a v;simp only[Z4v,ih,Vbh]
theorem Yu8:∀(n:Nat) (l:List Int) (a v:Int),l.all Zbu=true->(Z4v n l a v).all Zbu=true:=by
 intro n
 induction n with
 | zero=>intro l a v h;exact h
 | succ n ih=>
  intro l a v h;refine ih _ _ _ ?_;rw[ZZk] at h ⊢;intro x hx;rcases Vb9 hx with hx|rfl
  .exact h x hx
  .have h1:0<=v % 256:=Vc3 _ (by omega)
   have h2:v % 256 < 256:=Vcp _ (by omega);simp[Zbu];omega
theorem Yit (mem:List Int):∀(n:Nat) (a:Int),Zhs mem (n+1) a=Zhs mem n a+256^n*atI mem (a+n):=by
 intro n
 induction n with
 | zero=>intro a;simp[Zhs]
 | succ n ih=>
  intro a;rw[Zhs,ih (a+1),Zhs];rw[Int.mul_add,<-Int.mul_assoc,show (256:Int)*256^n=256^(n+1) by rw[Int.pow_succ,Vc5],show a+1+(n:Int)=a+((n+1:Nat):Int) by omega];omega
theorem Ysu {mem:List Int} (h:mem.all Zbu=true):∀(n:Nat) (a:Int),0<=a->a+n<=(mem.length:Int)->0<=Zhs mem n a/\Zhs mem n a < 256^n:=by
 intro n
 induction n with
 | zero=>intro a _ _;simp[Zhs]
 | succ n ih=>
  intro a h0 h1;have h2:=ih (a+1) (by omega) (by omega);have h3:=ZZk.1 h _ (Zjr h0 (by omega:a < (mem.length:Int)));simp only[Zbu,ZZl] at h3;simp only[Zhs];have e:(256:Int)^(n+1)=256*256^n:=by rw[Int.pow_succ,Vc5]
  rw[e];omega
def Z6p (mem:List Int) (a s:Int):Int:=Zhs mem (Yv s).toNat a
def Z6v (mem:List Int) (a s v:Int):List Int:=Z4v (Yv s).toNat mem a v
theorem Zre {mem:List Int} {a s:Int} (h:Zk9 mem a s=true):mem.length<=512/\mem.all Zbu=true/\0 < Yv s/\0<=a/\a+Yv s<=(mem.length:Int):=by
 simp only[Zk9,Z13,ZZg,ZZl] at h;have:=Zbn h.2.1;exact⟨h.1.1,h.1.2,this.1,this.2.1,by omega⟩
theorem Ymd (k:Nat) (h:k<=4):(256:Int)^k=2^(8*k)/\(256:Int)^k<=4294967296:=by
 have:k=0\/k=1\/k=2\/k=3\/k=4:=by omega
 rcases this with rfl|rfl|rfl|rfl|rfl<;>decide
theorem Yqv {mem:List Int} {a s:Int} (h:Zk9 mem a s=true):Zxb mem a s=some (Z6p mem a s,true):=by
 obtain⟨h1,h2,h3,h4,h5⟩:=Zre h;have hb:=Zid s;unfold Zxb Z6p;rw[Z7p mem a s (by omega),ZZa,h,ZZi (by simp),Zhw,ZZa];have key:∀(r n k:Nat),r < n->(k:Int)+r=Yv s->Znq mem a s n (Zhs mem k a) (Yv s) k=some (Zhs mem (k+r) a,true):=by
  intro r
  induction r with
  | zero=>
   intro n k hn hk;obtain⟨n,rfl⟩:∃m',n=m'+1:=⟨n - 1,by omega⟩;show Zfm mem a s _ (Zhs mem k a) (Yv s) k=_;unfold Zfm;rw[ZZi (by simp;omega)];rfl
  | succ r ih=>
   intro n k hn hk;obtain⟨n,rfl⟩:∃m',n=m'+1:=⟨n - 1,by omega⟩;show Zfm mem a s _ (Zhs mem k a) (Yv s) k=_;unfold Zfm;have h6:0<=a+(k:Int):=by omega
   have h7:a+(k:Int) < (mem.length:Int):=by omega
   have h8:=ZZk.1 h2 _ (Zjr h6 h7);simp only[Zbu,ZZl] at h8;have h9:=Ysu h2 k a h4 (by omega);have hp:=Ymd k (by omega);have hp1:(0:Int) < 2^(8*k):=Int.pow_pos (by omega);have h10:atI mem (a+k)*2^(8*k)<=255*4294967296:=by
    rw[<-hp.1];exact Int.mul_le_mul h8.2 hp.2 (by rw[hp.1];omega) (by omega)
   rw[ZZj (by simp;omega),Yn (by omega) (by omega),Xj h6 h7,ZZa,Zfh (by omega) (by omega),Ywm (by omega),ZZa,show (8:Int)*(k:Int)=((8*k:Nat):Int) by omega,Y1n (by omega) h8.1 (by omega),Y26 h9.1 (by rw[<-hp.1];exact h9.2) h8.1 (by have:=h9.2;rw[hp.1] at this;have:=hp.2;rw[hp.1] at this;omega),X4 (by omega)];have e:Zhs mem k a+atI mem (a+k)*2^(8*k)=Zhs mem (k+1) a:=by
    rw[Yit,hp.1,Vc5]
   rw[e,ih n (k+1) (by omega) (by omega),show k+1+r=k+(r+1) by omega]
 have:=key (Yv s).toNat FU 0 (by have:=Qe;omega) (by omega);simpa [Zhs] using this
theorem Yrn {mem:List Int} {a s:Int} (h:Zk9 mem a s=true):Zwm mem a s=some (Z6p mem a s,true):=by
 obtain⟨h1,h2,h3,h4,h5⟩:=Zre h;have hb:=Zid s;unfold Zwm Z6p;rw[Z93 mem a s (by omega),ZZa,h,ZZi (by simp),Zbg,ZZa,Xa (by omega) (by omega)];have key:∀(r n j:Nat) (v:Int),r < n->(r:Int)<=Yv s->j+r<=4->0<=v->v < 256^j->Zod mem a s n v ((r:Int) - 1)=some (v*256^r+Zhs mem r a,true):=by
  intro r
  induction r with
  | zero=>
   intro n j v hn hk _ _ _;obtain⟨n,rfl⟩:∃m',n=m'+1:=⟨n - 1,by omega⟩;show Zgd mem a s _ v _=_;unfold Zgd;rw[ZZi (by simp)];simp[Zhs]
  | succ r ih=>
   intro n j v hn hk hj hv hv2;obtain⟨n,rfl⟩:∃m',n=m'+1:=⟨n - 1,by omega⟩;show Zgd mem a s _ v _=_;unfold Zgd;have h6:0<=a+(r:Int):=by omega
   have h7:a+(r:Int) < (mem.length:Int):=by omega
   have h8:=ZZk.1 h2 _ (Zjr h6 h7);simp only[Zbu,ZZl] at h8;have hp:=(Ymd j (by omega)).2;have e1:(256:Int)^(r+1)=256^r*256:=Int.pow_succ ..;have e3:(256:Int)^(j+1)=256^j*256:=Int.pow_succ ..;have e2:(((r+1:Nat):Int) - 1)=(r:Int):=by omega
   rw[e2,ZZj (by simp),Yn (by omega) (by omega),Xj h6 h7,ZZa,Zfh (by omega) (by omega),Yn (by omega) (by omega),Xa (by omega) (by omega),ih n (j+1) _ (by omega) (by omega) (by omega) (by omega) (by rw[e3];omega)];rw[Yit,Int.add_mul,e1,Vc5 (256^r) 256,<-Int.mul_assoc,Vc5 (256^r) (atI mem (a+r))]
   congr 2
   omega
 have:=key (Yv s).toNat FU 0 0 (by have:=Qe;omega) (by omega) (by omega) (by omega) (by simp);rw[show ((Yv s).toNat:Int)=Yv s by omega] at this;simpa using this
theorem Zs4 (xs:List Int) (h:xs.length < 1048577):Y5 xs=some xs:=by
 unfold Y5;rw[Wa (by simp;omega) (by simp;omega)];rfl
theorem Z2h (xs:List Int) (h:xs.length < 1048577):Xt 8 [] xs=some xs:=by
 rw[Wa (by simp;omega) (by simp;omega)];rfl
theorem Yqj {mem:List Int} {a s v:Int} (h:Zk9 mem a s=true) (hv:Xm v s=true):Zwy mem a s v=some (Z6v mem a s v,true):=by
 obtain⟨h1,h2,h3,h4,h5⟩:=Zre h;have hb:=Zid s;have hl:=Z0b s;simp only[Xm,ZZl] at hv;unfold Zwy Zn9 Z6v;rw[Zs4 mem (by omega),ZZa,Z7p mem a s (by omega),ZZa,h,ZZi (by simp),Ziw,ZZa,Zhw,ZZa];have hn:Xm v s=true:=by simp[Xm,hv]
 rw[hn,ZZi (by simp)];have key:∀(r n k:Nat) (l:List Int),r < n->(k:Int)+r=Yv s->l.length=mem.length->Znh mem a s v n l (Yv s) k=some (Z4v r l (a+k) (v / 256^k),true):=by
  intro r
  induction r with
  | zero=>
   intro n k l hn hk _;obtain⟨n,rfl⟩:∃m',n=m'+1:=⟨n - 1,by omega⟩;show Zf8 mem a s v _ l (Yv s) k=_;unfold Zf8;rw[ZZi (by simp;omega)];rfl
  | succ r ih=>
   intro n k l hn hk hl2;obtain⟨n,rfl⟩:∃m',n=m'+1:=⟨n - 1,by omega⟩;show Zf8 mem a s v _ l (Yv s) k=_;unfold Zf8;have h6:0<=a+(k:Int):=by omega
   have h7:a+(k:Int) < (l.length:Int):=by omega
   have hp:=Ymd k (by omega);have hp1:(0:Int) < 256^k:=Int.pow_pos (by omega);have h8:0<=v / 256^k:=Int.ediv_nonneg hv.1 (by omega);have h9:v / 256^k<=v:=Int.ediv_le_self _ hv.1;rw[ZZj (by simp;omega),Zfh (by omega) (by omega),Ywm (by omega),ZZa,Yn (a:=a) (by omega) (by omega),Xj h6 h7,ZZa,Wt,ZZa,show (8:Int)*(k:Int)=((8*k:Nat):Int) by omega,Y28 (by omega) hv.1,<-hp.1,Yzh h8 (by omega),X4 (by omega),ih n (k+1) _ (by omega) (by omega) (by simp[hl2])];simp only[Z4v];rw[Int.ediv_ediv_of_nonneg (by omega),<-Int.pow_succ,show a+((k+1:Nat):Int)=a+k+1 by omega]
 have:=key (Yv s).toNat FU 0 mem (by have:=Qe;omega) (by omega) rfl;simpa using this
theorem Ypn {mem:List Int} {a s v:Int} (h:Zk9 mem a s=true) (hv:Xm v s=true):Zwd mem a s v=some (Z6v mem a s v,true):=by
 obtain⟨h1,h2,h3,h4,h5⟩:=Zre h;have hb:=Zid s;have hl:=Z0b s;unfold Zwd Zn1 Z6v;rw[Z2h mem (by omega),ZZa,Z93 mem a s (by omega),ZZa,h,ZZi (by simp),Zba,ZZa,Zp0,ZZa,hv,ZZi (by simp)];simp only[Xm,ZZl] at hv;have key:∀(r n k:Nat) (l:List Int) (x:Int),r < n->(k:Int)+r=Yv s->l.length=mem.length->0<=x->x < 9223372036854775808->Zm7 mem a s v n x l k=some (Z4v r l (a+k) x,true):=by
  intro r
  induction r with
  | zero=>
   intro n k l x hn hk _ _ _;obtain⟨n,rfl⟩:∃m',n=m'+1:=⟨n - 1,by omega⟩;show Zfr mem a s v _ x l k=_;unfold Zfr;rw[Zbg,ZZa,ZZi (by simp;omega)];rfl
  | succ r ih=>
   intro n k l x hn hk hl2 hx hx2;obtain⟨n,rfl⟩:∃m',n=m'+1:=⟨n - 1,by omega⟩;show Zfr mem a s v _ x l k=_;unfold Zfr;have h6:0<=a+(k:Int):=by omega
   have h7:a+(k:Int) < (l.length:Int):=by omega
   rw[Zbg,ZZa,ZZj (by simp;omega),Yn (a:=a) (by omega) (by omega),Xj h6 h7,ZZa,Wt,ZZa,Zd9 hx,Z9a hx hx2 (by omega),X4 (by omega),ih n (k+1) _ _ (by omega) (by omega) (by simp[hl2]) (by omega) (by omega)];simp only[Z4v];rw[show a+((k+1:Nat):Int)=a+k+1 by omega]
 have:=key (Yv s).toNat FU 0 mem v (by have:=Qe;omega) (by omega) rfl hv.1 (by omega);simpa using this
def Zl.sm (d:Zl):Prop:=d.regs.length < 1048577/\d.fifo.length < 1048577
def Ybo (d:Zl):Bool:=decide (d.regs.length=4)&&(d.regs.all (λv=>Xm v 2)&&(Xm d.timer 2&&(decide (d.fifo.length<=4)&&d.fifo.all λv=>Xm v 2)))
theorem Ydo (d:Zl) (hs:d.sm):Zu5 d=some (Ybo d):=by
 have hf:∀xs:List Int,xs.length < 1048577->Xr xs=some (!xs.all λv=>Xm v 2):=by
  intro xs hl;unfold Xr Ky;refine Zvm xs (by omega) Ztz (λv=>Xm v 2) (λr hr=>?_) _ (λm i=>rfl);unfold Ztz;rw[Ziw];rfl
 unfold Zu5 Ybo;rw[hf _ hs.1,ZZa,hf _ hs.2,ZZa,Ziw,ZZa];by_cases h1:d.regs.length=4
 .have h2:(d.regs.length:Int)=4:=by omega
  by_cases h3:d.fifo.length<=4
  .have h4:(d.fifo.length:Int)<=4:=by omega
   cases h5:(d.regs.all λv=>Xm v 2)<;>cases h6:(d.fifo.all λv=>Xm v 2)<;>cases h7:Xm d.timer 2<;>simp[h1,h2,h3,h4]
  .have h4:¬(d.fifo.length:Int)<=4:=by omega
   simp[h1,h2,h3,h4]
 .have h2:¬(d.regs.length:Int)=4:=by omega
  simp[h1,h2]
theorem Z6u (xs:List Int) (hl:xs.length < 1048577):Zo7 xs=some (xs.all λv=>Xm v 2):=by
 unfold Zo7;have key:∀(n k:Nat),k<=xs.length->xs.length - k < n->Zkp xs n k=some ((xs.drop k).all λv=>Xm v 2):=by
  intro n
  induction n with
  | zero=>intro k _ h;omega
  | succ n ih=>
   intro k hk hm;show Zp6 xs _ k=_;unfold Zp6;by_cases hc:k < xs.length
   .rw[ZZj (by simpa using hc),Xp hc,ZZa,Zba,ZZa,Zp0,ZZa,Va2 hc,Va6]
    by_cases hq:Xm xs[k] 2=true
    .rw[ZZi (by simp[hq]),X4 (by omega),ih (k+1) (by omega) (by omega)]
     simp[hq]
    .rw[ZZj (by simp[hq])]
     simp[hq]
   .rw[ZZi (by simpa using hc),Vba (by omega)]
    rfl
 have:=key FU 0 (Vbj _) (by have:=Qe;omega);simpa using this
theorem Yey (d:Zl) (hs:d.sm):Zvo d=some (Ybo d):=by
 unfold Zvo Ybo;rw[Z6u _ hs.1,ZZa,Z6u _ hs.2,ZZa,Zba,ZZa,Zp0,ZZa];by_cases h1:d.regs.length=4
 .have h2:(d.regs.length:Int)=4:=by omega
  by_cases h3:d.fifo.length<=4
  .have h4:(d.fifo.length:Int)<=4:=by omega
   cases h5:(d.regs.all λv=>Xm v 2)<;>cases h6:(d.fifo.all λv=>Xm v 2)<;>cases h7:Xm d.timer 2<;>simp[h1,h2,h3,h4]
  .have h4:¬(d.fifo.length:Int)<=4:=by omega
   cases h5:(d.regs.all λv=>Xm v 2)<;>cases h7:Xm d.timer 2<;>simp[h1,h2,h3,h4]
 .have h2:¬(d.regs.length:Int)=4:=by omega
  simp[h1,h2]
structure Z6l (d:Zl):Prop where
 regs:d.regs.length=4
 nums:∀v∈d.regs,Xm v 2=true
 timer:Xm d.timer 2=true
 len:d.fifo.length<=4
 fifo:∀v∈d.fifo,Xm v 2=true
theorem Ygb {d:Zl}:Ybo d=true↔Z6l d:=by
 simp only[Ybo,ZZg,ZZl,ZZk];constructor
 .intro h;exact⟨h.1,h.2.1,h.2.2.1,h.2.2.2.1,h.2.2.2.2⟩
 .intro h;exact⟨h.regs,h.nums,h.timer,h.len,h.fifo⟩
theorem Z6l.sm {d:Zl} (h:Z6l d):d.sm:=⟨by have:=h.regs;omega,by have:=h.len;omega⟩
theorem Yaw (d:Zl) (hs:d.sm):Zrf d=some d:=by
 unfold Zrf;rw[Zs4 _ hs.1,ZZa,Zs4 _ hs.2];rfl
theorem Yah (d:Zl) (hs:d.sm):Zrw d=some d:=by
 unfold Zrw;rw[Z2h _ hs.1,ZZa,Z2h _ hs.2];rfl
def Za8 (d:Zl) (w:Bool) (a v:Int):Zl×Int×Bool:=
 if (w&&!Xm v 2)=true then (d,0,false) else
 if a=16 then (if w then ({d with timer:=v},v,true) else ({d with timer:=(d.timer+1) % 4294967296},d.timer,true)) else
 if a=20 then (if w then (if d.fifo.length < 4 then ({d with fifo:=d.fifo++[v]},v,true) else (d,0,false)) else (if d.fifo=[] then (d,0,false) else ({d with fifo:=d.fifo.tail},atI d.fifo 0,true))) else
 if (0<=a/\a < 16)/\a % 4=0 then (if w then ({d with regs:=d.regs.set (a / 4).toNat v},v,true) else (d,atI d.regs (a / 4),true)) else (d,0,false)
theorem num2 {v:Int} (h:Xm v 2=true):0<=v/\v < 4294967296:=by
 simpa [Xm,Zfk] using h
theorem Yu3 {d:Zl} (w:Bool) (a v:Int) (h:Z6l d):Z00 d w a v=some (Za8 d w a v):=by
 have ht:=num2 h.timer;have hl:=h.len;have hr:=h.regs;unfold Z00;rw[Yaw d h.sm,ZZa,Ydo d h.sm,ZZa,Ygb.2 h,Ziw,ZZa];have hJ:Zdf d w a v d false=some (if a=16 then (if w then ({d with timer:=v},v,true) else ({d with timer:=(d.timer+1) % 4294967296},d.timer,true)) else
 if a=20 then (if w then (if d.fifo.length < 4 then ({d with fifo:=d.fifo++[v]},v,true) else (d,0,false)) else (if d.fifo=[] then (d,0,false) else ({d with fifo:=d.fifo.tail},atI d.fifo 0,true))) else
 if (0<=a/\a < 16)/\a % 4=0 then (if w then ({d with regs:=d.regs.set (a / 4).toNat v},v,true) else (d,atI d.regs (a / 4),true)) else (d,0,false)):=by
  unfold Zdf Zpr Zj5 Zjv Zjy;by_cases h16:a=16
  .subst h16
   rw[Z7b,ZZa,show Zfk 2=4294967296 from rfl,Zu3 (by omega),Yn (by omega) (by omega),Zd9 (by omega)];cases w<;>simp
  .by_cases h20:a=20
   .subst h20
    cases w with
    | true=>
     by_cases h3:d.fifo.length < 4
     .have h4:(d.fifo.length:Int) < 4:=by omega
      rw[Wa (by simp;omega) (by simp;omega)];simp[h3,h4]
     .have h4:¬(d.fifo.length:Int) < 4:=by omega
      simp[h3,h4]
    | false=>
     by_cases h3:d.fifo=[]
     .simp[h3]
     .have h4:0 < d.fifo.length:=Van.2 h3
      have h5:(d.fifo.length:Int) > 0:=by omega
      rw[Xj (by omega) (by omega),ZZa,Zw7 _ h3 (by omega),ZZa,Zs4 _ (by simp;omega)];simp[h3,h5]
   .by_cases h3:(0<=a/\a < 16)/\a % 4=0
    .obtain⟨⟨h4,h5⟩,h6⟩:=h3
     have h7:¬a≥16:=by omega
     have h8:¬a < 0:=by omega
     rw[Z9a h4 (by omega) (by omega),Xj (xs:=d.regs) (by omega) (by omega),ZZa,ZZa,Wt,Zd9 h4];cases w<;>simp[h16,h20,h4,h5,h6,h7,h8]
    .by_cases h4:a≥16
     .have h5:¬a < 16:=by omega
      cases w<;>simp[h16,h20,h4,h5]
     .by_cases h5:a < 0
      .have h6:¬0<=a:=by omega
       cases w<;>simp[h16,h20,h4,h5,h6]
      .have h6:a % 4≠0:=λh=>h3 ⟨by omega,h⟩
       rw[Zd9 (by omega)];cases w<;>simp[h16,h20,h4,h5,h6]
 unfold Za8;cases w with
 | false=>simp only[Va5,ZZf,if_false,Vbs];exact hJ
 | true=>
  by_cases hv:Xm v 2=true
  .simp only[hv,Va5,ZZf,if_false,if_true,Vc8]
   exact hJ
  .simp[hv,Zdf]
theorem Yuj {d:Zl} (w:Bool) (a v:Int) (h:Z6l d):Zz4 d w a v=some (Za8 d w a v):=by
 have ht:=num2 h.timer;have hl:=h.len;have hr:=h.regs;unfold Zz4;rw[Yah d h.sm,ZZa,Yey d h.sm,ZZa,Ygb.2 h,Zba,ZZa,Zp0,ZZa];have hJ:∀_:Zdh a 4=0,Zaa d w a v d false=some (if a=16 then (if w then ({d with timer:=v},v,true) else ({d with timer:=(d.timer+1) % 4294967296},d.timer,true)) else
 if a=20 then (if w then (if d.fifo.length < 4 then ({d with fifo:=d.fifo++[v]},v,true) else (d,0,false)) else (if d.fifo=[] then (d,0,false) else ({d with fifo:=d.fifo.tail},atI d.fifo 0,true))) else
 if (0<=a/\a < 16)/\a % 4=0 then (if w then ({d with regs:=d.regs.set (a / 4).toNat v},v,true) else (d,atI d.regs (a / 4),true)) else (d,0,false)):=by
  intro Z14;unfold Zaa Zpq Zpl Zj3 Zjz;rw[Xf,ZZa,ZZa];by_cases h16:a=16
  .subst h16
   rw[Zba,ZZa,show Zfk 2=4294967296 from rfl,Zu3 (by omega),Yn (by omega) (by omega),Zd9 (by omega)];cases w<;>simp
  .by_cases h20:a=20
   .subst h20
    cases w with
    | true=>
     by_cases h3:d.fifo.length < 4
     .have h4:(d.fifo.length:Int) < 4:=by omega
      rw[Wa (by simp;omega) (by simp;omega)];simp[h3,h4]
     .have h4:¬(d.fifo.length:Int) < 4:=by omega
      simp[h3,h4]
    | false=>
     by_cases h3:d.fifo=[]
     .simp[h3]
     .have h4:0 < d.fifo.length:=Van.2 h3
      have h5:(d.fifo.length:Int) > 0:=by omega
      rw[Xj (xs:=d.fifo) (by omega) (by omega),ZZa,Zw7 _ h3 (by omega),ZZa];simp[h3,h5]
   .by_cases h3:0<=a/\a < 16
    .rw[Zd9 h3.1] at Z14
     have h4:0<=a/\a<=12:=by omega
     rw[Z9a h3.1 (by omega) (by omega),Xj (xs:=d.regs) (by omega) (by omega),ZZa,ZZa,Wt];cases w<;>simp[h16,h20,h3,h4,Z14]
    .have h4:¬(0<=a/\a<=12):=by omega
     cases w<;>simp[h16,h20,h3,h4]
 unfold Za8;by_cases Z14:Zdh a 4=0
 .rw[ZZi (by simp),ZZi (by simp[Z14])]
  cases w with
  | false=>simp only[ZZf,if_false,Vbs];exact hJ Z14
  | true=>
   by_cases hv:Xm v 2=true
   .simp only[hv,Va5,ZZf,if_false,if_true,Vc8]
    exact hJ Z14
   .simp[hv,Zaa]
 .have h16:a≠16:=λh=>Z14 (by subst h;rfl)
  have h20:a≠20:=λh=>Z14 (by subst h;rfl);have h3:¬((0<=a/\a < 16)/\a % 4=0):=λh=>Z14 (by rw[Zd9 h.1.1];exact h.2);rw[ZZi (by simp),ZZj (by simp[Z14])];simp only[h16,h20,h3,if_false,Zaa,if_true];split<;>rfl
theorem Y1v {xs:List Int} {p:Int->Prop} (h:∀x∈xs,p x) {k:Nat} {v:Int} (hv:p v):∀x∈xs.set k v,p x:=by
 intro x hx;rcases Vb9 hx with hx|rfl
 .exact h x hx
 .exact hv
theorem Yy8 {d:Zl} {w:Bool} {a v:Int} (h:Z6l d):Z6l (Za8 d w a v).1/\((Za8 d w a v).2.2=true->Xm (Za8 d w a v).2.1 2=true):=by
 have ht:=num2 h.timer;have hl:=h.len;unfold Za8;split
 .exact⟨h,by simp⟩
 .rename_i hw
  have hv:w=true->Xm v 2=true:=by
   intro h1;rw[h1] at hw;simpa using hw
  split
  .split
   .rename_i h1
    exact⟨⟨h.regs,h.nums,hv h1,h.len,h.fifo⟩,λ_=>hv h1⟩
   .refine⟨⟨h.regs,h.nums,?_,h.len,h.fifo⟩,λ_=>h.timer⟩
    have:Zfk 2=4294967296:=rfl;simp only[Xm,this,ZZl];omega
  .split
   .split
    .rename_i h1
     split
     .rename_i h2
      refine⟨⟨h.regs,h.nums,h.timer,by simp;omega,λx hx=>?_⟩,λ_=>hv h1⟩;rcases Vat.1 hx with hx|hx
      .exact h.fifo x hx
      .rw[List.mem_singleton.1 hx];exact hv h1
     .exact⟨h,by simp⟩
    .split
     .exact⟨h,by simp⟩
     .rename_i h2
      have h4:0 < d.fifo.length:=Van.2 h2;refine⟨⟨h.regs,h.nums,h.timer,by simp;omega,λx hx=>h.fifo x (List.mem_of_mem_tail hx)⟩,λ_=>h.fifo _ (Zjr (by omega) (by omega))⟩
   .split
    .rename_i h3
     split
     .rename_i h1
      exact⟨⟨by simp[h.regs],Y1v h.nums (hv h1),h.timer,h.len,h.fifo⟩,λ_=>hv h1⟩
     .refine⟨h,λ_=>h.nums _ (Zjr (by omega) (by have:=h.regs;omega))⟩
    .exact⟨h,by simp⟩
def Yu (a:Int):Int:=if a < 0\/224<=a then 0 else if a < 128 then 1 else if a < 192 then 2 else 3
theorem Zy1 (a:Int):Zov a=some (Yu a):=by
 unfold Zov Zk6 Yu;by_cases h1:a < 0
 .simp[h1]
 .by_cases h2:a≥224
  .simp[h1,h2]
  .by_cases h3:a < 128
   .simp[h1,h2,h3]
   .by_cases h4:a < 192<;>simp[h1,h2,h3,h4]
theorem Z7m (a:Int):Zts a=some (Yu a):=by
 rw[<-Zy1];rfl
def Zj.sm (m:Zj):Prop:=m.mem.length < 1048577/\m.dev.sm
def Zzg (m:Zj):Bool:=decide (m.mem.length=192)&&(m.mem.all Zbu&&Ybo m.dev)
structure Zdj (m:Zj):Prop where
 len:m.mem.length=192
 bytes:m.mem.all Zbu=true
 dev:Z6l m.dev
theorem Zu9 {m:Zj}:Zzg m=true↔Zdj m:=by
 simp only[Zzg,ZZg,ZZl,Ygb];constructor
 .intro h;exact⟨h.1,h.2.1,h.2.2⟩
 .intro h;exact⟨h.len,h.bytes,h.dev⟩
theorem Zdj.sm {m:Zj} (h:Zdj m):m.sm:=⟨by have:=h.len;omega,h.dev.sm⟩
theorem Z6f (m:Zj) (hs:m.sm):Zgy m=some (Zzg m):=by
 unfold Zgy Zzg;rw[Z7p m.mem 0 0 hs.1,ZZa,Ydo m.dev hs.2,ZZa];by_cases h1:m.mem.length=192
 .have h2:(m.mem.length:Int)=192:=by omega
  have h3:Zk9 m.mem 0 0=m.mem.all Zbu:=by
   simp[Zk9,Z13,h1,X6,Yv]
  rw[h3];cases h4:m.mem.all Zbu<;>simp[h1,h2]
 .have h2:¬(m.mem.length:Int)=192:=by omega
  simp[h1,h2]
theorem Z7z (m:Zj) (hs:m.sm):Zoz m=some (Zzg m):=by
 unfold Zoz Zzg;rw[Z6j m.mem hs.1,ZZa,Yey m.dev hs.2,ZZa];by_cases h1:m.mem.length=192
 .have h2:(m.mem.length:Int)=192:=by omega
  have h3:Z13 m.mem=m.mem.all Zbu:=by
   simp[Z13,h1]
  rw[h3];cases h4:m.mem.all Zbu<;>simp[h1,h2]
 .have h2:¬(m.mem.length:Int)=192:=by omega
  simp[h1,h2]
theorem Zvy (m:Zj) (hs:m.sm):Zhq m=some m:=by
 unfold Zhq;rw[Zs4 _ hs.1,ZZa,Yaw _ hs.2];rfl
theorem Yae (m:Zj) (hs:m.sm):Zrk m=some m:=by
 unfold Zrk;rw[Z2h _ hs.1,ZZa,Yah _ hs.2];rfl
def Zek (m:Zj) (w:Bool) (a s v:Int):Zj×Int×Int:=
 if (X6 a s&&!(w&&!Xm v s))=true then
  (if Yu a=1\/Yu a=2 then (if w then ({m with mem:=Z6v m.mem a s v},v,0) else (m,Z6p m.mem a s,0))
  else if Yu a=3/\s=2 then (if (Za8 m.dev w (a - 192) v).2.2=true then ({m with dev:=(Za8 m.dev w (a - 192) v).1},(Za8 m.dev w (a - 192) v).2.1,0) else (m,0,1))
  else (m,0,1))
 else (m,0,1)
theorem Ywb {a:Int} (h:Yu a=1\/Yu a=2):0<=a/\a < 192:=by
 unfold Yu at h
 repeat' split at h
 all_goals omega
theorem Yia {a:Int} (h:Yu a=3):192<=a/\a < 224:=by
 unfold Yu at h
 repeat' split at h
 all_goals omega
theorem Ycf {m:Zj} {a s:Int} (h:Zdj m) (ha:X6 a s=true) (hs:Yu a=1\/Yu a=2):Zk9 m.mem a s=true:=by
 have h1:=Ywb hs;have h2:=h.len;have h3:=Zbn ha;have h4:a+Yv s<=192:=by
  have h5:=(Zqe s).1 h3.1;have h6:s=0\/s=1\/s=2:=by omega
  have h7:=h3.2.2;rcases h6 with rfl|rfl|rfl<;>simp[Yv] at h7 ⊢<;>omega
 simp only[Zk9,Z13,ZZg,ZZl];exact⟨⟨by omega,h.bytes⟩,ha,by omega⟩
theorem Yng {m:Zj} (w:Bool) (a s v:Int) (h:Zdj m):Zun m w a s v=some (Zek m w a s v):=by
 unfold Zun Zek;rw[Zvy m h.sm,ZZa,Z6f m h.sm,ZZa,Zu9.2 h,Zsm,ZZa,Ziw,ZZa,ZZi (by simp)];by_cases ha:X6 a s=true
 .rw[ha,ZZi (by simp)]
  have hJ:(w=true->Xm v s=true)->Kq m w a s v m false=some (if Yu a=1\/Yu a=2 then (if w then ({m with mem:=Z6v m.mem a s v},v,0) else (m,Z6p m.mem a s,0))
  else if Yu a=3/\s=2 then (if (Za8 m.dev w (a - 192) v).2.2=true then ({m with dev:=(Za8 m.dev w (a - 192) v).1},(Za8 m.dev w (a - 192) v).2.1,0) else (m,0,1))
  else (m,0,1)):=by
   intro hw;unfold Kq;rw[ZZi (by simp),Zy1,ZZa];unfold Zky Zln Zc5;rw[Zvy m h.sm,ZZa];by_cases h1:Yu a=1\/Yu a=2
   .have h3:¬Yu a=3:=by omega
    have hf:=Ycf h ha h1;cases w with
    | true=>
     rw[Yqj hf (hw rfl),ZZa];rcases h1 with h1|h1<;>simp[h1,h3]
    | false=>
     rw[Yqv hf,ZZa];rcases h1 with h1|h1<;>simp[h1,h3]
   .have h2:¬Yu a=1:=λh=>h1 (.inl h)
    have h4:¬Yu a=2:=λh=>h1 (.inr h);by_cases h3:Yu a=3
    .have h5:=Yia h3
     rw[Xa (by omega) (by omega),Yu3 w _ v h.dev,ZZa];by_cases h6:s=2
     .by_cases h7:(Za8 m.dev w (a - 192) v).2.2=true<;>simp[h3,h6,h7]
     .simp[h3,h6]
    .simp[h2,h3,h4]
  cases w with
  | false=>
   simp only[ZZf,if_false,Vbs,Vbf,Vch,if_true];exact hJ (by simp)
  | true=>
   by_cases hv:Xm v s=true
   .simp only[hv,Va5,if_true,Vc8,Vbf,Vch]
    exact hJ (λ_=>hv)
   .simp[hv,Kq]
 .simp[ha,Kq]
theorem Z6b {m:Zj} (w:Bool) (a s v:Int) (h:Zdj m):Zom m w a s v=some (Zek m w a s v):=by
 unfold Zom Zek;rw[Yae m h.sm,ZZa,Z7z m h.sm,ZZa,Zu9.2 h,Zrq,ZZa,Zba,ZZa,Zp0,ZZa,ZZi (by simp)];by_cases ha:X6 a s=true
 .rw[ha,ZZi (by simp)]
  have hJ:(w=true->Xm v s=true)->Kt m w a s v m false=some (if Yu a=1\/Yu a=2 then (if w then ({m with mem:=Z6v m.mem a s v},v,0) else (m,Z6p m.mem a s,0))
  else if Yu a=3/\s=2 then (if (Za8 m.dev w (a - 192) v).2.2=true then ({m with dev:=(Za8 m.dev w (a - 192) v).1},(Za8 m.dev w (a - 192) v).2.1,0) else (m,0,1))
  else (m,0,1)):=by
   intro hw;unfold Kt;rw[ZZi (by simp),Z7m,ZZa];unfold Zlb Zlp;by_cases h1:Yu a=1\/Yu a=2
   .have h3:¬Yu a=3:=by omega
    have hf:=Ycf h ha h1;cases w with
    | true=>
     rw[Ypn hf (hw rfl),ZZa];rcases h1 with h1|h1<;>simp[h1,h3]
    | false=>
     rw[Yrn hf,ZZa];rcases h1 with h1|h1<;>simp[h1,h3]
   .have h2:¬Yu a=1:=λh=>h1 (.inl h)
    have h4:¬Yu a=2:=λh=>h1 (.inr h);by_cases h3:Yu a=3
    .have h5:=Yia h3
     rw[Xa (by omega) (by omega),Yuj w _ v h.dev,ZZa];by_cases h6:s=2
     .by_cases h7:(Za8 m.dev w (a - 192) v).2.2=true<;>simp[h3,h6,h7]
     .simp[h3,h6]
    .simp[h2,h3,h4]
  cases w with
  | false=>
   simp only[ZZf,if_false,Vbs,Vbf,Vch,if_true];exact hJ (by simp)
  | true=>
   by_cases hv:Xm v s=true
   .simp only[hv,Va5,if_true,Vc8,Vbf,Vch]
    exact hJ (λ_=>hv)
   .simp[hv,Kt]
 .simp[ha,Kt]
theorem Yx8 (s:Int) (h:0 < Yv s):(256:Int)^(Yv s).toNat=Zfk s:=by
 have h1:=(Zqe s).1 h;have:s=0\/s=1\/s=2:=by omega
 rcases this with rfl|rfl|rfl<;>decide
theorem Ydi {m:Zj} {w:Bool} {a s v:Int} (h:Zdj m) (hs:X6 a s=true):Zdj (Zek m w a s v).1/\Xm (Zek m w a s v).2.1 s=true/\((Zek m w a s v).2.2=0\/(Zek m w a s v).2.2=1):=by
 have hp:=Zbn hs;have hz:Xm 0 s=true:=by
  have h1:=(Zqe s).1 hp.1;have:s=0\/s=1\/s=2:=by omega
  rcases this with rfl|rfl|rfl<;>decide
 unfold Zek;split
 .rename_i h1
  split
  .rename_i h2
   have hf:=Ycf h hs h2;split
   .rename_i hw
    have hv:Xm v s=true:=by
     rw[hw] at h1;simpa [hs] using h1
    exact⟨⟨by simp only[Z6v,Yyy,h.len],Yu8 _ _ _ _ h.bytes,h.dev⟩,hv,.inl rfl⟩
   .obtain⟨h3,h4,h5,h6,h7⟩:=Zre hf
    have h8:=Ysu h4 (Yv s).toNat a h6 (by omega);rw[Yx8 s h5] at h8;exact⟨h,by simp only[Xm,Z6p];exact decide_eq_true h8,.inl rfl⟩
  .split
   .rename_i h3
    split
    .rename_i h4
     have h5:=Yy8 (w:=w) (a:=a - 192) (v:=v) h.dev;have h6:=h5.2 h4;rw[h3.2];exact⟨⟨h.len,h.bytes,h5.1⟩,h6,.inl rfl⟩
    .exact⟨h,hz,.inr rfl⟩
   .exact⟨h,hz,.inr rfl⟩
 .exact⟨h,hz,.inr rfl⟩
def Yz (p:Option Bool) (P:Prop):Prop:=∃r,p=some r/\(r=true↔P)
theorem Yz.of {b:Bool} {P:Prop} (h:b=true↔P):Yz (some b) P:=⟨b,rfl,h⟩
theorem Yz.iff {p:Option Bool} {P Q:Prop} (h:Yz p P) (e:P↔Q):Yz p Q:=by
 obtain⟨r,h1,h2⟩:=h;exact⟨r,h1,h2.trans e⟩
theorem Yz.yes {P:Prop} (h:P):Yz (some true) P:=⟨true,rfl,by simp[h]⟩
theorem Yz.no {P:Prop} (h:¬P):Yz (some false) P:=⟨false,rfl,by simp[h]⟩
theorem Yz.eq {p q:Option Bool} {P:Prop} (h:Yz p P) (h':Yz q P):∃r,p=some r/\q=some r/\(r=true↔P):=by
 obtain⟨r,h1,h2⟩:=h;obtain⟨r',h3,h4⟩:=h';have:r=r':=by
  cases r<;>cases r'<;>simp_all
 subst this;exact⟨r,h1,h3,h2⟩
theorem Yz.bnd {x:Option Bool} {P Q:Prop} {f:Bool->Option Bool} (h:Yz x P) (h1:P->Yz (f true) Q) (h2:¬P->Yz (f false) Q):Yz (x.bind f) Q:=by
 obtain⟨r,rfl,hr⟩:=h;rw[ZZa];cases r with
 | true=>exact h1 (hr.1 rfl)
 | false=>exact h2 (λhp=>by simpa using hr.2 hp)
theorem Yz.and {x y:Option Bool} {P Q:Prop} (h:Yz x P) (h1:P->Yz y Q):Yz (x.bind λr=>if r=true then y else some false) (P/\Q):=by
 refine h.bnd (λhp=>?_) (λhp=>?_)
 .rw[ZZj rfl];exact (h1 hp).iff ⟨λq=>⟨hp,q⟩,λq=>q.2⟩
 .rw[ZZi (by simp)];exact .no λq=>hp q.1
section
variable {σ:Type}
theorem Zwe {n:Nat} (hn:n < 4611686018427387904) {P:Nat->Prop} {Q:Prop} (st:Nat->σ) {B:(σ->Int->Option Bool)->σ->Int->Option Bool} {L:Nat->σ->Int->Option Bool} (hL:∀m s i,L (m+1) s i=B (L m) s i)
  (hs:∀k,k < n->(P k/\∀κ,B κ (st k) (k:Int)=κ (st (k+1)) (Zu (k:Int) 1))\/(¬P k/\∀κ,B κ (st k) (k:Int)=some false))
  (hf:(∀k,k < n->P k)->∃r,(∀κ,B κ (st n) (n:Int)=some r)/\(r=true↔Q)):Yz (L FU (st 0) 0) ((∀k,k < n->P k)/\Q):=by
 have key:∀(m k:Nat),k<=n->n - k < m->(∀j,j < k->P j)->Yz (L m (st k) (k:Int)) ((∀j,j < n->P j)/\Q):=by
  intro m
  induction m with
  | zero=>intro k _ h;omega
  | succ m ih=>
   intro k hk hm hp;rw[hL];by_cases hc:k < n
   .rcases hs k hc with⟨h1,h2⟩|⟨h1,h2⟩
    .rw[h2,X4 (by omega)]
     refine ih (k+1) (by omega) (by omega) λj hj=>?_;by_cases hjk:j=k
     .subst hjk;exact h1
     .exact hp j (by omega)
    .rw[h2];exact .no λq=>h1 (q.1 k hc)
   .have:k=n:=by omega
    subst this;obtain⟨r,hr,hq⟩:=hf hp;rw[hr];exact .of ⟨λh=>⟨hp,hq.1 h⟩,λh=>hq.2 h.2⟩
 have:=key FU 0 (Vbj _) (by have:=Qe;omega) (λj hj=>by omega);simpa using this
theorem Zo1 {n:Nat} (hn:n < 4611686018427387904) {P:Nat->Prop} {Q:Prop} {B:(Int->Option Bool)->Int->Option Bool} {L:Nat->Int->Option Bool} (hL:∀m i,L (m+1) i=B (L m) i)
  (hs:∀k,k < n->(P k/\∀κ,B κ (k:Int)=κ (Zu (k:Int) 1))\/(¬P k/\∀κ,B κ (k:Int)=some false))
  (hf:(∀k,k < n->P k)->∃r,(∀κ,B κ (n:Int)=some r)/\(r=true↔Q)):Yz (L FU 0) ((∀k,k < n->P k)/\Q):=
 Zwe (σ:=Unit) hn (λ_=>()) (B:=λκ _ i=>B (κ ()) i) (L:=λm _ i=>L m i) (λm _ i=>hL m i) (λk hk=>(hs k hk).imp (λh=>⟨h.1,λκ=>h.2 _⟩) λh=>⟨h.1,λκ=>h.2 _⟩)
  (λh=>by obtain⟨r,h1,h2⟩:=hf h;exact⟨r,λκ=>h1 _,h2⟩)
end
instance:Inhabited Zm:=⟨Zm.z0⟩
instance:Inhabited Zf:=⟨Zf.z0⟩
def Yi (m:Zd):Bool:=decide (m.queue≠[])&&((atI m.queue 0).lock&&!m.broken)
def Kp (b:Za) (i:Int):Int:=(if b.addr.live=true/\b.addr.who=i then 1 else 0)+(if b.data_.live=true/\b.data_.who=i then 1 else 0)
structure Zvt (c:Zh) (b:Za) (i:Int):Prop where
 right:Yq (atI b.m i)
 tries:(atI b.m i).tries<=c.maxRetry
 bucket:Yr (atI b.buckets i) (atI c.masters i)=true
 split:0<=atI b.splits i/\atI b.splits i<=c.maxSplit
def Zab (b:Za) (x:Zf):Prop:=Zr b.conf x.who=true/\(1<=x.by_/\x.by_<=3)/\atI b.splits x.who=0
def Km (b:Za):Prop:=if b.addr.live=true then b.addr.beat=(atI b.m b.addr.who).beat - 1/\b.addr.left=0/\b.addr.resp=0/\b.addr.second=false else b.addr=Zf.z0
def Qz (b:Za):Prop:=if b.data_.live=true then
  (b.data_.beat=(atI b.m b.data_.who).done/\(0<=b.data_.left/\b.data_.left<=b.conf.maxWait+2)/\(0<=b.data_.resp/\b.data_.resp<=3))/\
  (b.data_.resp=2->(atI b.m b.data_.who).tries < b.conf.maxRetry)/\(b.data_.resp=3->(atI b.m b.data_.who).parted=false/\b.data_.who≠b.holder)/\
  (b.data_.second=true->b.data_.left=0/\b.data_.resp≠0/\b.addr.live=false)
 else b.data_=Zf.z0
def Ziy (b:Za):Prop:=(∀i,Zr b.conf i=true->(atI b.m i).beat > 0->Yi (atI b.m i)=true->b.holder=i)/\
 (if b.holder=-1 then b.held=0 else Zr b.conf b.holder=true/\Yi (atI b.m b.holder)=true/\atI b.splits b.holder=0/\(0<=b.held/\b.held<=b.conf.lockMost))
def Z36 (c:Zh) (now:Int) (d:Zm):Prop:=(0<=d.cycle/\d.cycle < now)/\Zr c d.who=true/\X6 d.addr d.size=true/\d.addr < 512/\Xm d.value d.size=true/\(d.resp=0\/d.resp=1)
def Z3i (b:Za):Prop:=(∀d∈b.log,Z36 b.conf b.now d)/\b.log.Pairwise λx y=>x.cycle < y.cycle
structure Zgr (b:Za):Prop where
 conf:Y6 b.conf=true
 now:0<=b.now/\b.now<=4000
 ml:b.m.length=b.conf.masters.length
 bl:b.buckets.length=b.conf.masters.length
 sl:b.splits.length=b.conf.masters.length
 mst:∀i,Zr b.conf i=true->Zvt b.conf b i
 arb:J2 b.arb b.conf=true
 last:b.last=-1\/Zr b.conf b.last=true
 model:Zdj b.model
 picks:0<=b.picks/\b.picks<=b.now
 alive:b.addr.live=true->Zab b b.addr
 dlive:b.data_.live=true->Zab b b.data_
 fly:∀i,Zr b.conf i=true->(atI b.m i).beat - (atI b.m i).done=Kp b i
 addr:Km b
 data:Qz b
 held:Ziy b
 log:Z3i b
structure Za.sm (b:Za):Prop where
 conf:b.conf.masters.length < 1048577
 ml:b.m.length < 1048577
 mst:∀x∈b.m,x.sm
 bl:b.buckets.length < 1048577
 sl:b.splits.length < 1048577
 model:b.model.sm
 log:b.log.length < 1048577
theorem mas {c:Zh} {k:Nat} (h:k < c.masters.length):Zr c (k:Int)=true:=by simp[Zr,h]
theorem Z20 {c:Zh} {i:Int} (h:Zr c i=true):∃k:Nat,i=(k:Int)/\k < c.masters.length:=by
 simp only[Zr,ZZl] at h;exact⟨i.toNat,by omega,by omega⟩
theorem Zxl {c:Zh} {P:Int->Prop}:(∀i,Zr c i=true->P i)↔∀k:Nat,k < c.masters.length->P (k:Int):=by
 constructor
 .intro h k hk;exact h _ (mas hk)
 .intro h i hi
  obtain⟨k,rfl,hk⟩:=Z20 hi;exact h k hk
theorem X7 {b:Za} (hl:b.m.length=b.conf.masters.length) {i:Int} (h:Zr b.conf i=true):idx b.m i=some (atI b.m i):=by
 simp only[Zr,ZZl] at h;exact Xj h.1 (by omega)
theorem Z83 {b:Za} (hl:b.buckets.length=b.conf.masters.length) {i:Int} (h:Zr b.conf i=true):idx b.buckets i=some (atI b.buckets i):=by
 simp only[Zr,ZZl] at h;exact Xj h.1 (by omega)
theorem Zpm {b:Za} (hl:b.splits.length=b.conf.masters.length) {i:Int} (h:Zr b.conf i=true):idx b.splits i=some (atI b.splits i):=by
 simp only[Zr,ZZl] at h;exact Xj h.1 (by omega)
theorem Zzv {c:Zh} {i:Int} (h:Zr c i=true):idx c.masters i=some (atI c.masters i):=by
 simp only[Zr,ZZl] at h;exact Xj h.1 h.2
theorem mem_m {b:Za} (hl:b.m.length=b.conf.masters.length) {i:Int} (h:Zr b.conf i=true):atI b.m i∈b.m:=by
 simp only[Zr,ZZl] at h;exact Zjr h.1 (by omega)
theorem Yc9 (x:Zf):((x.live == false)&&(decide (x.who=0)&&(decide (x.beat=0)&&((x.first == false)&&(decide (x.by_=0)&&(decide (x.left=0)&&(decide (x.resp=0)&&((x.second == false)&&true))))))))=true↔x=Zf.z0:=by
 obtain⟨a1,a2,a3,a4,a5,a6,a7,a8⟩:=x;simp only[ZZg,beq_iff_eq,ZZl,Zf.mk.injEq,and_true]
theorem Z5e (m:Zd):Zqc m=some (Yi m):=by
 unfold Zqc Yi;by_cases h:m.queue=[]
 .simp[h]
 .have h1:0 < m.queue.length:=Van.2 h
  rw[Xj (by omega) (by omega),ZZa,ZZj (by simp;omega)];cases h2:(atI m.queue 0).lock<;>simp[h]
theorem Zvn (b:Za) (hs:b.sm) (hc:Y6 b.conf=true):Yz (Zfz b) (b.m.length=b.conf.masters.length/\b.buckets.length=b.conf.masters.length/\b.splits.length=b.conf.masters.length/\∀i,Zr b.conf i=true->Zvt b.conf b i):=by
 unfold Zfz;by_cases h1:b.m.length=b.conf.masters.length
 .rw[ZZi (by simp;omega)]
  by_cases h2:b.buckets.length=b.conf.masters.length
  .rw[ZZi (by simp;omega)]
   unfold Qm;by_cases h3:b.splits.length=b.conf.masters.length
   .rw[ZZi (by simp;omega)]
    have:=Jr hc;refine (Zo1 (n:=b.m.length) (P:=λk=>Zvt b.conf b (k:Int)) (Q:=True) (by omega) (B:=Zbt b) (λm i=>rfl) (λk hk=>?_) λ_=>⟨true,λκ=>?_,by simp⟩).iff ?_
    .have hm:=mas (c:=b.conf) (k:=k) (by omega)
     have hms:=hs.mst _ (mem_m h1 hm);unfold Zbt;simp only[ZZj (show decide ((k:Int) < (b.m.length:Int))=true by simpa using hk),X7 h1 hm,Z83 h2 hm,Zpm h3 hm,Zzv hm,ZZa,Zbm _ hms,Z5o,X2];by_cases e1:Zu1 (atI b.m (k:Int))=true
     .by_cases e2:(atI b.m (k:Int)).tries<=b.conf.maxRetry
      .by_cases e3:Yr (atI b.buckets (k:Int)) (atI b.conf.masters (k:Int))=true
       .by_cases e4:0<=atI b.splits (k:Int)/\atI b.splits (k:Int)<=b.conf.maxSplit
        .refine .inl ⟨⟨K1.1 e1,e2,e3,e4⟩,λκ=>?_⟩
         have e5:¬(atI b.m (k:Int)).tries > b.conf.maxRetry:=by omega
         simp[e1,e3,e4,e5]
        .refine .inr ⟨λh=>e4 h.split,λκ=>?_⟩
         simp[e1,e3,e4]
       .refine .inr ⟨λh=>e3 h.bucket,λκ=>?_⟩
        simp[e1,e3]
      .refine .inr ⟨λh=>e2 h.tries,λκ=>?_⟩
       have e5:(atI b.m (k:Int)).tries > b.conf.maxRetry:=by omega
       simp[e1,e5]
     .refine .inr ⟨λh=>e1 (K1.2 h.right),λκ=>?_⟩
      simp[e1]
    .unfold Zbt
     rw[ZZi (by simp)]
    .rw[and_true,h1,<-Zxl]
     exact⟨λh=>⟨rfl,h2,h3,h⟩,λh=>h.2.2.2⟩
   .rw[ZZj (by simp;omega)]
    exact .no λh=>h3 h.2.2.1
  .rw[ZZj (by simp;omega)]
   unfold Qm;rw[ZZj rfl];exact .no λh=>h2 h.2.1
 .rw[ZZj (by simp;omega)]
  unfold Qm;rw[ZZj rfl];exact .no λh=>h1 h.1
theorem Ywi (b:Za):Zst b=some ([b.addr,b.data_].filter (·.live)):=by
 unfold Zst;have:We [b.addr,b.data_]=some ([b.addr,b.data_].filter (·.live)):=by
  unfold We Qu;exact Yps [b.addr,b.data_] Zf.z0 (by simp) Zn5 (·.live) (λa _=>rfl) _ (λm i=>rfl) _ (λm v i j=>rfl)
 rw[this];rfl
def Zfb:List Zf->List Int->List Int
 | [],l=>l
 | x::xs,l=>Zfb xs (l.set x.who.toNat (atI l x.who+1))
theorem Ywv:∀(xs:List Zf) (x:Zf) (l:List Int),Zfb (xs++[x]) l=(Zfb xs l).set x.who.toNat (atI (Zfb xs l) x.who+1):=by
 intro xs
 induction xs with
 | nil=>intro x l;rfl
 | cons y xs ih=>intro x l;exact ih x _
theorem Yk9:∀(xs:List Zf) (l:List Int),(Zfb xs l).length=l.length:=by
 intro xs
 induction xs with
 | nil=>intro l;rfl
 | cons y xs ih=>intro l;rw[Zfb,ih,Vbh]
theorem Y27:∀(xs:List Zf) (l:List Int) (i:Int),0<=i->i < (l.length:Int)->(∀x∈xs,0<=x.who/\x.who < (l.length:Int))->atI (Zfb xs l) i=atI l i+(xs.countP λx=>decide (x.who=i):Nat):=by
 intro xs
 induction xs with
 | nil=>intro l i _ _ _;simp[Zfb]
 | cons y xs ih=>
  intro l i h0 h1 hx;have hy:=hx y (Vab ..);rw[Zfb,ih _ i h0 (by simpa using h1) (λx hxm=>by simpa using hx x (Vad _ hxm)),List.countP_cons];by_cases h:y.who=i
  .subst h
   rw[Zo6 _ hy.1 hy.2];simp;omega
  .rw[Yih _ hy.1 h0 h]
   simp[h]
theorem Yyj (b:Za) (i:Int):(([b.addr,b.data_].filter (·.live)).countP λx=>decide (x.who=i):Nat)=Kp b i:=by
 unfold Kp;by_cases h1:b.addr.live=true<;>by_cases h2:b.data_.live=true<;>by_cases h3:b.addr.who=i<;>by_cases h4:b.data_.who=i<;>simp[h1,h2,h3,h4]
theorem Yz9 {b:Za} {P:Zf->Prop}:(∀k (h:k < ([b.addr,b.data_].filter (·.live)).length),P (([b.addr,b.data_].filter (·.live))[k]))↔(b.addr.live=true->P b.addr)/\(b.data_.live=true->P b.data_):=by
 have:(∀k (h:k < ([b.addr,b.data_].filter (·.live)).length),P (([b.addr,b.data_].filter (·.live))[k]))↔∀x∈[b.addr,b.data_].filter (·.live),P x:=by
  constructor
  .intro h x hx
   obtain⟨k,hk,rfl⟩:=Vbt hx;exact h k hk
  .intro h k hk;exact h _ (Vao hk)
 rw[this];constructor
 .intro h;exact⟨λh1=>h _ (by simp[h1]),λh1=>h _ (by simp[h1])⟩
 .intro h x hx
  simp only[Vb3,Vav,List.not_mem_nil,or_false] at hx;rcases hx with⟨rfl|rfl,hx⟩
  .exact h.1 hx
  .exact h.2 hx
theorem Yet (b:Za):Yz (Qh b false) (b.data_.second=true->b.data_.left=0/\b.data_.resp≠0/\b.addr.live=false):=by
 unfold Qh;rw[ZZi (by simp)];by_cases h1:b.data_.second=true
 .rw[ZZi (by simp[h1])]
  by_cases h2:b.data_.left=0
  .rw[ZZj (by simpa using h2)]
   by_cases h3:b.data_.resp=0
   .rw[ZZi (by simpa using h3)];exact .no λh=>(h h1).2.1 h3
   .rw[ZZj (by simpa using h3)]
    exact .of (by simp[h1,h2,h3])
  .rw[ZZi (by simpa using h2)];exact .no λh=>h2 (h h1).1
 .rw[ZZj (by simpa using h1)];exact .yes λh=>absurd h h1
theorem Wz {c:Zh} (hc:Y6 c=true):(0<=c.maxRetry/\c.maxRetry<=3)/\(0<=c.maxWait/\c.maxWait<=3)/\(1<=c.lockMost/\c.lockMost<=40)/\(1<=c.maxSplit/\c.maxSplit<=12):=by
 simp only[Y6,ZZg,ZZl] at hc;have h3:=hc.1.2;have h4:Zi2 c≠0:=λh=>h3 (by unfold Kl;rw[ZZj h]);have h5:1<=c.lockMost/\c.lockMost<=40:=by
  unfold Kl at h3;rw[ZZi h4] at h3;by_cases h6:1<=c.lockMost/\c.lockMost<=40
  .exact h6
  .rw[ZZi h6] at h3;exact absurd rfl h3
 have h6:(0<=c.maxRetry/\c.maxRetry<=3)/\(0<=c.maxWait/\c.maxWait<=3):=by
  unfold Zi2 at h4;by_cases h7:(0<=c.maxRetry/\c.maxRetry<=3)/\(0<=c.maxWait/\c.maxWait<=3)
  .exact h7
  .rw[ZZi h7] at h4;exact absurd rfl h4
 exact⟨h6.1,h6.2,h5,hc.1.1.2⟩
theorem Yuh (b:Za) (hc:Y6 b.conf=true) (h1:b.m.length=b.conf.masters.length) (hl:b.data_.live=true->Zab b b.data_):Yz (Y8 b false) (Qz b):=by
 have hw:=(Wz hc).2.1;unfold Y8 Qz;rw[ZZi (by simp)];by_cases hd:b.data_.live=true
 .obtain⟨hm,hby,hsp⟩:=hl hd
  rw[ZZi (by simp[hd]),X7 h1 hm,ZZa,ZZj hd,X2,ZZa,X2,ZZa,Yn (by omega) (by omega)];have hJ6:∀v,Yz (Zbd b (atI b.m b.data_.who) v) (v=false/\(b.data_.resp=3->(atI b.m b.data_.who).parted=false/\b.data_.who≠b.holder)/\(b.data_.second=true->b.data_.left=0/\b.data_.resp≠0/\b.addr.live=false)):=by
   intro v;unfold Zbd;cases v with
   | true=>rw[ZZj rfl];exact .no λh=>by simp at h
   | false=>
    rw[ZZi (by simp)];by_cases h3:b.data_.resp=3
    .rw[ZZj (by simpa using h3)]
     by_cases h4:(atI b.m b.data_.who).parted=true
     .rw[ZZj h4]
      unfold Qh;rw[ZZj rfl];exact .no λh=>by have:=(h.2.1 h3).1;rw[h4] at this;cases this
     .rw[ZZi h4]
      by_cases h5:b.data_.who=b.holder
      .rw[decide_eq_true h5]
       unfold Qh;rw[ZZj rfl];exact .no λh=>(h.2.1 h3).2 h5
      .rw[decide_eq_false h5]
       exact (Yet b).iff ⟨λh=>⟨rfl,λ_=>⟨by simpa using h4,h5⟩,h⟩,λh=>h.2.2⟩
    .rw[ZZi (by simpa using h3)]
     exact (Yet b).iff ⟨λh=>⟨rfl,λh6=>absurd h6 h3,h⟩,λh=>h.2.2⟩
  have hJ5:∀v,Yz (Jn b (atI b.m b.data_.who) v) (v=false/\(b.data_.resp=2->(atI b.m b.data_.who).tries < b.conf.maxRetry)/\(b.data_.resp=3->(atI b.m b.data_.who).parted=false/\b.data_.who≠b.holder)/\(b.data_.second=true->b.data_.left=0/\b.data_.resp≠0/\b.addr.live=false)):=by
   intro v;unfold Jn;cases v with
   | true=>rw[ZZj rfl];exact .no λh=>by simp at h
   | false=>
    rw[ZZi (by simp)];by_cases h3:b.data_.resp=2
    .rw[ZZj (by simpa using h3)]
     refine (hJ6 _).iff ?_;simp[h3]
    .rw[ZZi (by simpa using h3)]
     refine (hJ6 _).iff ?_;simp[h3]
  by_cases h3:b.data_.beat=(atI b.m b.data_.who).done
  .rw[ZZi (by simpa using h3)]
   by_cases h4:0<=b.data_.left/\b.data_.left<=b.conf.maxWait+2
   .rw[ZZi (by simpa using h4)]
    refine (hJ5 _).iff ?_;simp[h3,h4]
   .rw[ZZj (by rw[decide_eq_false h4];rfl)]
    exact (hJ5 _).iff ⟨λh=>by simp at h,λh=>absurd h.1.2.1 h4⟩
  .rw[ZZj (by simpa using h3)]
   exact (hJ5 _).iff ⟨λh=>by simp at h,λh=>absurd h.1.1 h3⟩
 .rw[ZZj (by simpa using hd),ZZi hd]
  exact .of (Yc9 _)
theorem Yw2 {l:List Int} {N:Int} (hN:0<=N) (h:∀v∈l,0<=v/\v<=N) (i:Int):0<=atI l i/\atI l i<=N:=by
 unfold atI;rw[Vax];cases hg:l[i.toNat]? with
 | none=>exact⟨Vcj _,hN⟩
 | some v=>exact h v (Vag hg)
theorem Yz7:∀(xs:List Zf) (l:List Int) (N:Int),0<=N->(∀v∈l,0<=v/\v<=N)->∀v∈Zfb xs l,0<=v/\v<=N+xs.length:=by
 intro xs
 induction xs with
 | nil=>intro l N _ h v hv;have:=h v hv;simpa using this
 | cons x xs ih=>
  intro l N hN h v hv;have h2:=Yw2 hN h x.who;have:=ih (l.set x.who.toNat (atI l x.who+1)) (N+1) (by omega) (λy hy=>by
   rcases Vb9 hy with hy|rfl
   .have:=h y hy;omega
   .omega) v hv
  simp only[Vaa];omega
theorem Yb6 (b:Za) (hc:Y6 b.conf=true) (h1:b.m.length=b.conf.masters.length) (h3:b.splits.length=b.conf.masters.length) (hr:∀i,Zr b.conf i=true->Yq (atI b.m i)):
  Yz (Zcc b) (((b.addr.live=true->Zab b b.addr)/\(b.data_.live=true->Zab b b.data_))/\(∀i,Zr b.conf i=true->(atI b.m i).beat - (atI b.m i).done=Kp b i)/\Km b/\Qz b):=by
 have Yl:=Jr hc;have Z5:=Zb9 hc;unfold Zcc;rw[Z2e (by omega) (by omega),ZZa,Ywi,ZZa];generalize hLs:[b.addr,b.data_].filter (·.live)=ls;have hls:ls.length<=2:=by
  rw[<-hLs];exact Vb4 (Vbu ..) (by simp)
 have Y06:∀x:Zf,Zr b.conf x.who=true->0<=x.who/\x.who < (b.m.length:Int):=λx h=>by
  simp only[Zr,ZZl] at h;omega
 have hL2:(∀x∈ls,Zr b.conf x.who=true)->((b.addr.live=true->Zab b b.addr)/\(b.data_.live=true->Zab b b.data_))->Yz (Zbf b FU (Zfb ls (List.replicate b.m.length 0)) 0) ((∀i,Zr b.conf i=true->(atI b.m i).beat - (atI b.m i).done=Kp b i)/\Km b/\Qz b):=by
  intro hml Y07;have hfa:∀i,Zr b.conf i=true->atI (Zfb ls (List.replicate b.m.length 0)) i=Kp b i:=by
   intro i hi;simp only[Zr,ZZl] at hi;rw[Y27 _ _ i hi.1 (by simp;omega) (λx hx=>by have:=Y06 x (hml x hx);simpa using this),<-Yyj,hLs];have:atI (List.replicate b.m.length (0:Int)) i=0:=by
    unfold atI;rw[Vax,Vd6];split<;>rfl
   rw[this];simp
  have hQ:∃r,(∀κ,Wh b κ (Zfb ls (List.replicate b.m.length 0)) (b.m.length:Int)=some r)/\(r=true↔Km b/\Qz b):=by
   obtain⟨r,h4,h5⟩:=Yuh b hc h1 Y07.2;have Yot:Y8 b true=some false:=by unfold Y8;rw[ZZj rfl]
   by_cases ha:b.addr.live=true
   .obtain⟨hm,hby,hsp⟩:=Y07.1 ha
    have hrb:=Ja (hr _ hm);by_cases e1:b.addr.beat=(atI b.m b.addr.who).beat - 1/\b.addr.left=0/\b.addr.resp=0/\b.addr.second=false
    .refine⟨r,λκ=>?_,?_⟩
     .unfold Wh
      obtain⟨f1,f2,f3,f4⟩:=e1;rw[ZZi (by simp),ZZj ha,X7 h1 hm,ZZa,Xa (by omega) (by omega)];simp only[f1,f2,f3,f4,ha,ne_eq,not_true_eq_false,decide_false,ZZf,if_false,Va5,h4]
     .rw[h5];unfold Km;rw[ZZj ha];exact⟨λh=>⟨e1,h⟩,λh=>h.2⟩
    .refine⟨false,λκ=>?_,?_⟩
     .unfold Wh
      rw[ZZi (by simp),ZZj ha,X7 h1 hm,ZZa,Xa (by omega) (by omega)];by_cases f1:b.addr.beat=(atI b.m b.addr.who).beat - 1
      .by_cases f2:b.addr.left=0
       .by_cases f3:b.addr.resp=0
        .have f4:b.addr.second=true:=by
          cases hs:b.addr.second with
          | true=>rfl
          | false=>exact absurd ⟨f1,f2,f3,hs⟩ e1
         rw[ZZi (by simpa using f1),ZZi (by simpa using f2),ZZi (by simpa using f3),ZZj f4,Yot]
        .rw[ZZi (by simpa using f1),ZZi (by simpa using f2),ZZj (by simpa using f3),Yot]
       .rw[ZZi (by simpa using f1),ZZj (by simpa using f2),Yot]
      .rw[ZZj (by simpa using f1),Yot]
     .unfold Km;rw[ZZj ha];simp[e1]
   .by_cases e1:b.addr=Zf.z0
    .refine⟨r,λκ=>?_,?_⟩
     .unfold Wh
      rw[ZZi (by simp),ZZi ha,ZZj (by simpa using ha),(Yc9 b.addr).2 e1];exact h4
     .rw[h5];unfold Km;rw[ZZi ha];exact⟨λh=>⟨e1,h⟩,λh=>h.2⟩
    .refine⟨false,λκ=>?_,?_⟩
     .unfold Wh
      rw[ZZi (by simp),ZZi ha,ZZj (by simpa using ha)];have:((b.addr.live == false)&&(decide (b.addr.who=0)&&(decide (b.addr.beat=0)&&((b.addr.first == false)&&(decide (b.addr.by_=0)&&(decide (b.addr.left=0)&&(decide (b.addr.resp=0)&&((b.addr.second == false)&&true))))))))=false:=by
       rw[<-Bool.not_eq_true,Yc9];exact e1
      rw[this,Vbf,Yot]
     .unfold Km;rw[ZZi ha];simp[e1]
  obtain⟨r,Zz,Z8⟩:=hQ;refine (Zwe (σ:=List Int) (n:=b.m.length) (by omega) (P:=λk=>(atI b.m (k:Int)).beat - (atI b.m (k:Int)).done=Kp b (k:Int)) (Q:=Km b/\Qz b) (λ_=>Zfb ls (List.replicate b.m.length 0)) (B:=Wh b) (L:=Zbf b) (λm s i=>rfl) (λk hk=>?_) λ_=>⟨r,Zz,Z8⟩).iff ?_
  .have hm:=mas (c:=b.conf) (k:=k) (by omega)
   have hrb:=Ja (hr _ hm);have Q9:=Yk9 ls (List.replicate b.m.length 0);rw[Vcw] at Q9;have hi:idx (Zfb ls (List.replicate b.m.length 0)) (k:Int)=some (Kp b (k:Int)):=by
    rw[Xj (by omega) (by omega),hfa _ hm]
   by_cases e1:(atI b.m (k:Int)).beat - (atI b.m (k:Int)).done=Kp b (k:Int)
   .refine .inl ⟨e1,λκ=>?_⟩
    unfold Wh;rw[ZZj (by simpa using hk),X7 h1 hm,ZZa,hi,ZZa,Xa (by omega) (by omega),ZZi (by simpa using e1)]
   .refine .inr ⟨e1,λκ=>?_⟩
    unfold Wh;rw[ZZj (by simpa using hk),X7 h1 hm,ZZa,hi,ZZa,Xa (by omega) (by omega),ZZj (by simpa using e1)]
  .rw[h1,<-Zxl (P:=λi=>(atI b.m i).beat - (atI b.m i).done=Kp b i)]
 have hlv:(∀k,k < ls.length->Zab b (atI ls (k:Int)))↔((b.addr.live=true->Zab b b.addr)/\(b.data_.live=true->Zab b b.data_)):=by
  rw[<-Yz9 (P:=Zab b),hLs];constructor
  .intro h k hk;have:=h k hk;rwa [Wk hk] at this
  .intro h k hk;rw[Wk hk];exact h k hk
 have hstep:∀k,k < ls.length->(Zab b (atI ls (k:Int))/\∀κ,Wi b κ (Zfb (ls.take k) (List.replicate b.m.length 0)) ls (ls.length:Int) (k:Int)=κ (Zfb (ls.take (k+1)) (List.replicate b.m.length 0)) ls (ls.length:Int) (Zu (k:Int) 1))\/(¬Zab b (atI ls (k:Int))/\∀κ,Wi b κ (Zfb (ls.take k) (List.replicate b.m.length 0)) ls (ls.length:Int) (k:Int)=some false):=by
  intro k hk;have Q9:=Yk9 (ls.take k) (List.replicate b.m.length 0);rw[Vcw] at Q9;have hJ3:∀κ x,Kc b κ x (Zfb (ls.take k) (List.replicate b.m.length 0)) ls (ls.length:Int) (k:Int) true=some false:=λκ x=>by unfold Kc;rw[ZZj rfl]
  by_cases e1:Zr b.conf (atI ls (k:Int)).who=true
  .by_cases e2:1<=(atI ls (k:Int)).by_/\(atI ls (k:Int)).by_<=3
   .by_cases e3:atI b.splits (atI ls (k:Int)).who=0
    .refine .inl ⟨⟨e1,e2,e3⟩,λκ=>?_⟩
     unfold Wi;have hw:=Y06 _ e1;rw[ZZj (by simpa using hk),Xj (by omega) (by omega),ZZa,Jf _ _ Z5,ZZa,e1,ZZi (by simp),X2,ZZa,ZZi (by simpa using e2),Zpm h3 e1,ZZa,e3];unfold Kc;have hb:=Yw2 (by omega) (Yz7 (ls.take k) (List.replicate b.m.length 0) 0 (by omega) (λv hv=>by rw[List.eq_of_mem_replicate hv];omega)) (atI ls (k:Int)).who;have hk2:(ls.take k).length<=2:=by rw[Vbr];omega
     rw[ZZi (by simp),Xj hw.1 (by omega),ZZa,Yn (a:=atI (Zfb (ls.take k) (List.replicate b.m.length 0)) (atI ls (k:Int)).who) (by omega) (by omega),Wt,ZZa,List.take_succ_eq_append_getElem hk,Ywv,Wk hk]
    .refine .inr ⟨λh=>e3 h.2.2,λκ=>?_⟩
     unfold Wi;rw[ZZj (by simpa using hk),Xj (by omega) (by omega),ZZa,Jf _ _ Z5,ZZa,e1,ZZi (by simp),X2,ZZa,ZZi (by simpa using e2),Zpm h3 e1,ZZa,decide_eq_true e3,hJ3]
   .refine .inr ⟨λh=>e2 h.2.1,λκ=>?_⟩
    unfold Wi;rw[ZZj (by simpa using hk),Xj (by omega) (by omega),ZZa,Jf _ _ Z5,ZZa,e1,ZZi (by simp),X2,ZZa,ZZj (by rw[decide_eq_false e2];rfl),hJ3]
  .refine .inr ⟨λh=>e1 h.1,λκ=>?_⟩
   unfold Wi;rw[ZZj (by simpa using hk),Xj (by omega) (by omega),ZZa,Jf _ _ Z5,ZZa,ZZj (by simpa using e1),hJ3]
 have hl1:=Zwe (σ:=List Int×List Zf×Int) (n:=ls.length) (by omega) (P:=λk=>Zab b (atI ls (k:Int)))
  (Q:=(∀i,Zr b.conf i=true->(atI b.m i).beat - (atI b.m i).done=Kp b i)/\Km b/\Qz b)
  (λk=>(Zfb (ls.take k) (List.replicate b.m.length 0),ls,(ls.length:Int))) (B:=λκ s i=>Wi b (λv l n i=>κ (v,l,n) i) s.1 s.2.1 s.2.2 i) (L:=λm s i=>Zdv b m s.1 s.2.1 s.2.2 i) (λm s i=>rfl)
  (λk hk=>(hstep k hk).imp (λh=>⟨h.1,λκ=>h.2 _⟩) λh=>⟨h.1,λκ=>h.2 _⟩)
 have hml:(∀k,k < ls.length->Zab b (atI ls (k:Int)))->∀x∈ls,Zr b.conf x.who=true:=by
  intro h x hx;obtain⟨k,hk,rfl⟩:=Vbt hx;have:=(h k hk).1
  rwa [Wk hk] at this
 have hl2:=hl1 λQy=>by
  obtain⟨r,Zz,Z8⟩:=hL2 (hml Qy) (hlv.1 Qy);refine⟨r,λκ=>?_,Z8⟩;unfold Wi;rw[ZZi (by simp),Vbl];exact Zz
 simp only[List.take_zero,Zfb] at hl2;exact hl2.iff (by rw[hlv])
theorem Yhj (b:Za) (hc:Y6 b.conf=true) (h1:b.m.length=b.conf.masters.length) (h3:b.splits.length=b.conf.masters.length):Yz (Zd8 b) (Ziy b):=by
 have Yl:=Jr hc;have Z5:=Zb9 hc;unfold Zd8 Ziy;refine (Zo1 (n:=b.m.length) (by omega) (P:=λk=>(atI b.m (k:Int)).beat > 0->Yi (atI b.m (k:Int))=true->b.holder=(k:Int))
  (Q:=if b.holder=-1 then b.held=0 else Zr b.conf b.holder=true/\Yi (atI b.m b.holder)=true/\atI b.splits b.holder=0/\(0<=b.held/\b.held<=b.conf.lockMost))
  (B:=Ze0 b) (λm i=>rfl) (λk hk=>?_) λ_=>?_).iff ?_
 .have hm:=mas (c:=b.conf) (k:=k) (by omega)
  unfold Ze0;simp only[ZZj (show decide ((k:Int) < (b.m.length:Int))=true by simpa using hk),X7 h1 hm,ZZa,Z5e];by_cases e1:(atI b.m (k:Int)).beat > 0
  .by_cases e2:Yi (atI b.m (k:Int))=true
   .by_cases e3:b.holder=(k:Int)
    .exact .inl ⟨λ_ _=>e3,λκ=>by simp[e1,e2,e3]⟩
    .exact .inr ⟨λh=>e3 (h e1 e2),λκ=>by simp[e1,e2,e3]⟩
   .exact .inl ⟨λ_ h=>absurd h e2,λκ=>by simp[e1,e2]⟩
  .exact .inl ⟨λh=>absurd h e1,λκ=>by simp[e1]⟩
 .unfold Ze0
  simp only[Int.lt_irrefl,decide_false,ZZf,if_false];by_cases e1:b.holder=-1
  .exact⟨decide (b.held=0),λκ=>by simp[e1],by simp[e1]⟩
  .simp only[e1,decide_false,ZZf,if_false,Jf _ _ Z5,ZZa]
   by_cases e2:Zr b.conf b.holder=true
   .simp only[e2,if_true,X7 h1 e2,Zpm h3 e2,ZZa,Z5e,X2]
    by_cases e3:Yi (atI b.m b.holder)=true
    .by_cases e4:atI b.splits b.holder=0
     .exact⟨decide (0<=b.held/\b.held<=b.conf.lockMost),λκ=>by simp only[e3,e4,decide_true,if_true],by simp[e3,e4]⟩
     .exact⟨false,λκ=>by simp[e3,e4],by simp[e4]⟩
    .exact⟨false,λκ=>by simp[e3],by simp[e3]⟩
   .exact⟨false,λκ=>by simp[e2],by simp[e2]⟩
 .rw[h1,<-Zxl (P:=λi=>(atI b.m i).beat > 0->Yi (atI b.m i)=true->b.holder=i)]
def Zc4 (l:List Zm):Nat->Int
 | 0=>-1
 | k+1=>(atI l (k:Int)).cycle
theorem Yn0 {l:List Zm}:(l.Pairwise λx y=>x.cycle < y.cycle)↔∀k,k+1 < l.length->(atI l (k:Int)).cycle < (atI l ((k+1:Nat):Int)).cycle:=by
 constructor
 .intro h k hk
  rw[Wk (by omega),Wk hk];exact Vd0.1 h k (k+1) (by omega) hk (by omega)
 .intro h
  rw[Vd0];have key:∀(d i:Nat) (hj:i+d+1 < l.length),(l[i]'(by omega)).cycle < (l[i+d+1]'hj).cycle:=by
   intro d
   induction d with
   | zero=>
    intro i hj;have:=h i hj;rw[Wk (by omega),Wk hj] at this;exact this
   | succ d ih=>
    intro i hj;have h4:=ih i (by omega);have h5:=h (i+d+1) (by omega);rw[Wk (by omega),Wk (by omega)] at h5;exact Int.lt_trans h4 h5
  intro i j hi hj hij;have:=key (j - i - 1) i (by omega);have e:i+(j - i - 1)+1=j:=by omega
  simp only[e] at this;exact this
theorem Ysz {b:Za}:Z3i b↔∀k,k < b.log.length->Z36 b.conf b.now (atI b.log (k:Int))/\Zc4 b.log k < (atI b.log (k:Int)).cycle:=by
 unfold Z3i;constructor
 .intro h k hk
  have h1:=h.1 _ (Zjr (xs:=b.log) (i:=(k:Int)) (by omega) (by omega));refine⟨h1,?_⟩;cases k with
  | zero=>have:=h1.1.1;simp only[Zc4];omega
  | succ k=>exact Yn0.1 h.2 k hk
 .intro h
  refine⟨λd hd=>?_,Yn0.2 λk hk=>?_⟩
  .obtain⟨k,hk,rfl⟩:=Vbt hd
   have:=(h k hk).1
   rwa [Wk hk] at this
  .exact (h (k+1) hk).2
def doneQ (c:Zh) (now:Int) (d:Zm):Prop:=d.cycle < now/\Zr c d.who=true/\X6 d.addr d.size=true/\d.addr < 512/\Xm d.value d.size=true/\(d.resp=0\/d.resp=1)
theorem Y0m {b:Za}:Z3i b↔∀k,k < b.log.length->doneQ b.conf b.now (atI b.log (k:Int))/\Zc4 b.log k < (atI b.log (k:Int)).cycle:=by
 rw[Ysz];constructor
 .intro h k hk
  have:=h k hk;exact⟨⟨this.1.1.2,this.1.2⟩,this.2⟩
 .intro h
  have h0:∀k,k<=b.log.length->-1<=Zc4 b.log k:=by
   intro k
   induction k with
   | zero=>intro _;simp[Zc4]
   | succ k ih=>
    intro hk;have h1:=ih (by omega);have h2:=(h k (by omega)).2;simp only[Zc4];omega
  intro k hk;have h1:=h k hk;have h2:=h0 k (by omega);exact⟨⟨⟨by omega,h1.1.1⟩,h1.1.2⟩,h1.2⟩
theorem Ybj (b:Za) (hc:Y6 b.conf=true) (hl:b.log.length < 1048577) (hn:0<=b.now/\b.now<=4000):Yz (Zch b) (Z3i b):=by
 have Z5:=Zb9 hc;unfold Zch;have:=Zwe (σ:=Int) (n:=b.log.length) (by omega) (P:=λk=>doneQ b.conf b.now (atI b.log (k:Int))/\Zc4 b.log k < (atI b.log (k:Int)).cycle) (Q:=True)
  (Zc4 b.log) (B:=Zc7 b) (L:=Zdr b) (λm s i=>rfl) (λk hk=>?_) λ_=>⟨true,λκ=>?_,by simp⟩
 .exact this.iff (by rw[and_true,Y0m])
 .have e0:Zc4 b.log (k+1)=(atI b.log (k:Int)).cycle:=rfl
  rw[e0];unfold Zc7;simp only[ZZj (show decide ((k:Int) < (b.log.length:Int))=true by simpa using hk),Xj (xs:=b.log) (i:=(k:Int)) (by omega) (by omega),ZZa,Jf _ _ Z5,Zsm,Ziw];generalize atI b.log (k:Int)=d;by_cases e1:Zc4 b.log k < d.cycle
  .have e1':¬d.cycle<=Zc4 b.log k:=by omega
   by_cases e2:d.cycle < b.now
   .have e2':¬d.cycle≥b.now:=by omega
    by_cases e3:Zr b.conf d.who=true
    .by_cases e4:X6 d.addr d.size=true
     .by_cases e5:d.addr < 512
      .have e5':¬d.addr≥512:=by omega
       by_cases e6:Xm d.value d.size=true
       .by_cases e7:d.resp=0
        .exact .inl ⟨⟨⟨e2,e3,e4,e5,e6,.inl e7⟩,e1⟩,λκ=>by simp[e1',e2',e3,e4,e5',e6,e7]⟩
        .by_cases e8:d.resp=1
         .exact .inl ⟨⟨⟨e2,e3,e4,e5,e6,.inr e8⟩,e1⟩,λκ=>by simp[e1',e2',e3,e4,e5',e6,e8]⟩
         .exact .inr ⟨λh=>by have:=h.1.2.2.2.2.2;omega,λκ=>by simp[e1',e2',e3,e4,e5',e6,e7,e8]⟩
       .exact .inr ⟨λh=>e6 h.1.2.2.2.2.1,λκ=>by simp[e1',e2',e3,e4,e5',e6]⟩
      .have e5':d.addr≥512:=by omega
       exact .inr ⟨λh=>e5 h.1.2.2.2.1,λκ=>by simp[e1',e2',e3,e4,e5']⟩
     .exact .inr ⟨λh=>e4 h.1.2.2.1,λκ=>by simp[e1',e2',e3,e4]⟩
    .exact .inr ⟨λh=>e3 h.1.2.1,λκ=>by simp[e1',e2',e3]⟩
   .have e2':d.cycle≥b.now:=by omega
    exact .inr ⟨λh=>e2 h.1.1,λκ=>by simp[e1',e2']⟩
  .have e1':d.cycle<=Zc4 b.log k:=by omega
   exact .inr ⟨λh=>e1 h.2,λκ=>by simp[e1']⟩
 .unfold Zc7
  rw[ZZi (by simp)]
theorem Yjs (b:Za) (hs:b.sm):Yz (Zqf b) (Zgr b):=by
 unfold Zqf;rw[Zub _ hs.conf,ZZa];by_cases hc:Y6 b.conf=true
 .rw[ZZj hc,X2,ZZa]
  by_cases hn:0<=b.now/\b.now<=4000
  .rw[ZZj (decide_eq_true hn)]
   have Y08:b.m.length=b.conf.masters.length->b.buckets.length=b.conf.masters.length->b.splits.length=b.conf.masters.length->(∀i,Zr b.conf i=true->Zvt b.conf b i)->
     Yz ((Zgy b.model).bind λr133=>if r133=true then (Ys b.picks 0 b.now).bind λr140=>if r140=true then (Zcc b).bind λr143=>if r143=true then (Zd8 b).bind λr146=>if r146=true then (Zch b).bind λr149=>some r149 else some false else some false else some false else some false)
      (Zdj b.model/\(0<=b.picks/\b.picks<=b.now)/\(((b.addr.live=true->Zab b b.addr)/\(b.data_.live=true->Zab b b.data_))/\(∀i,Zr b.conf i=true->(atI b.m i).beat - (atI b.m i).done=Kp b i)/\Km b/\Qz b)/\Ziy b/\Z3i b):=by
    intro h1 h2 h3 hm;rw[Z6f _ hs.model];refine Yz.and (Yz.of Zu9) λ_=>?_;rw[X2];refine Yz.and (Yz.of (decide_eq_true_iff)) λ_=>?_;refine Yz.and (Yb6 b hc h1 h3 λi hi=>(hm i hi).right) λ_=>?_;refine Yz.and (Yhj b hc h1 h3) λ_=>?_;obtain⟨r,h4,h5⟩:=Ybj b hc hs.log hn;rw[h4];exact .of h5
   have hw:Yz (Zl3 b.arb b.conf) (J2 b.arb b.conf=true):=by rw[Z3k _ _ hs.conf];exact .of Iff.rfl
   by_cases hla:b.last=-1
   .simp only[hla,decide_true,if_true]
    refine (Yz.and (Zvn b hs hc) λhm=>Yz.and hw λ_=>Y08 hm.1 hm.2.1 hm.2.2.1 hm.2.2.2).iff ⟨λh=>?_,λh=>?_⟩
    .obtain⟨⟨h1,h2,h3,h4⟩,h5,h6,h7,⟨⟨h8,h9⟩,h10,h11,h12⟩,h13,h14⟩:=h
     exact⟨hc,hn,h1,h2,h3,h4,h5,.inl hla,h6,h7,h8,h9,h10,h11,h12,h13,h14⟩
    .exact⟨⟨h.ml,h.bl,h.sl,h.mst⟩,h.arb,h.model,h.picks,⟨⟨h.alive,h.dlive⟩,h.fly,h.addr,h.data⟩,h.held,h.log⟩
   .have e:decide (b.last=-1)=false:=decide_eq_false hla
    simp only[e,ZZf,if_false];have hi:Yz (K0 b.conf b.last) (Zr b.conf b.last=true):=by rw[Jf _ _ hs.conf];exact .of Iff.rfl
    refine (Yz.and (Zvn b hs hc) λhm=>Yz.and hw λ_=>Yz.and hi λ_=>Y08 hm.1 hm.2.1 hm.2.2.1 hm.2.2.2).iff ⟨λh=>?_,λh=>?_⟩
    .obtain⟨⟨h1,h2,h3,h4⟩,h5,hx,h6,h7,⟨⟨h8,h9⟩,h10,h11,h12⟩,h13,h14⟩:=h
     exact⟨hc,hn,h1,h2,h3,h4,h5,.inr hx,h6,h7,h8,h9,h10,h11,h12,h13,h14⟩
    .exact⟨⟨h.ml,h.bl,h.sl,h.mst⟩,h.arb,h.last.resolve_left hla,h.model,h.picks,⟨⟨h.alive,h.dlive⟩,h.fly,h.addr,h.data⟩,h.held,h.log⟩
  .rw[ZZi (by simpa using hn)]
   exact .no λh=>hn h.now
 .rw[ZZi hc]
  exact .no λh=>hc h.conf
theorem Yw5 (b:Za) (i:Int):Zt1 b i=some (Kp b i):=by
 unfold Zt1 Zkt Zkw Kp;by_cases h1:b.addr.live=true<;>by_cases h2:b.data_.live=true<;>by_cases h3:b.addr.who=i<;>by_cases h4:b.data_.who=i<;>simp[h1,h2,h3,h4]<;>rfl
theorem Yjn (n:Int):∃w,Zsq n=some w/\((!(w.toList == ByteArray.empty.toList))=true↔(0<=n/\n<=3)):=by
 unfold Zsq;rw[Xf,ZZa];by_cases h:0<=n/\n<=3
 .have:n=0\/n=1\/n=2\/n=3:=by omega
  rcases this with rfl|rfl|rfl|rfl<;>exact⟨_,rfl,by rw[Yig,Yig];decide⟩
 .rw[ZZj (by rw[decide_eq_false h];rfl)]
  exact⟨_,rfl,by simp[h]⟩
theorem Zjs {b:Za} (h1:b.m.length=b.conf.masters.length) (Z5:b.conf.masters.length < 1048577) (i:Int):Z4 i 0 (Y9 (b.m.length:Int) 1)=some (Zr b.conf i):=by
 rw[Xf,h1,Z18 i Z5]
theorem Ygy (b:Za) (hs:b.sm) (hc:Y6 b.conf=true) (h1:b.m.length=b.conf.masters.length) (h3:b.splits.length=b.conf.masters.length) (hm:∀i,Zr b.conf i=true->Zvt b.conf b i):
  Yz (Zcl b b.addr false) ((b.addr.live=true->Zab b b.addr)/\Km b):=by
 have Z5:=Zb9 hc;have hJ1:Q0 b b.addr false true=some false:=by unfold Q0;rw[ZZj rfl]
 unfold Zcl Km;by_cases ha:b.addr.live=true
 .rw[ZZi (by simp[ha]),ZZj ha,Zjs h1 Z5,ZZa,Xf,ZZa]
  by_cases e1:Zr b.conf b.addr.who=true
  .rw[e1,ZZi (by simp)]
   by_cases e2:1<=b.addr.by_/\b.addr.by_<=3
   .rw[ZZi (by simpa using e2),Zpm h3 e1,ZZa]
    have hsp:=(hm _ e1).split;by_cases e3:atI b.splits b.addr.who=0
    .rw[decide_eq_false (by omega)]
     have hrb:=Ja (hm _ e1).right;unfold Q0;rw[ZZi (by simp),X7 h1 e1,ZZa,ZZj (by simp),Xa (by omega) (by omega)];by_cases f1:b.addr.beat=(atI b.m b.addr.who).beat - 1
     .by_cases f2:b.addr.left=0
      .by_cases f3:b.addr.resp=0
       .rw[ZZj (by simpa using f1),ZZj (by simpa using f2),ZZj (by simpa using f3)]
        refine .of ⟨λh=>⟨λ_=>⟨e1,e2,e3⟩,f1,f2,f3,by simpa using h⟩,λh=>by simpa using h.2.2.2.2⟩
       .rw[ZZj (by simpa using f1),ZZj (by simpa using f2),ZZi (by simpa using f3)]
        exact .no λh=>f3 h.2.2.2.1
      .rw[ZZj (by simpa using f1),ZZi (by simpa using f2)]
       exact .no λh=>f2 h.2.2.1
     .rw[ZZi (by simpa using f1)]
      exact .no λh=>f1 h.2.1
    .rw[decide_eq_true (by omega),hJ1]
     exact .no λh=>e3 (h.1 ha).2.2
   .rw[ZZj (by rw[decide_eq_false e2];rfl),hJ1]
    exact .no λh=>e2 (h.1 ha).2.1
  .rw[ZZj (by simpa using e1),hJ1]
   exact .no λh=>e1 (h.1 ha).1
 .rw[ZZj (by simpa using ha),ZZi ha]
  exact (Yz.of (Yc9 _)).iff ⟨λh=>⟨λh2=>absurd h2 ha,h⟩,λh=>h.2⟩
theorem Ygq (b:Za) (hs:b.sm) (hc:Y6 b.conf=true) (h1:b.m.length=b.conf.masters.length) (h3:b.splits.length=b.conf.masters.length) (hm:∀i,Zr b.conf i=true->Zvt b.conf b i):
  Yz (Zcl b b.data_ true) ((b.data_.live=true->Zab b b.data_)/\Qz b):=by
 have Z5:=Zb9 hc;have hw:=(Wz hc).2.1;have hJ1:Q0 b b.data_ true true=some false:=by unfold Q0;rw[ZZj rfl]
 unfold Zcl Qz;by_cases ha:b.data_.live=true
 .rw[ZZi (by simp[ha]),ZZj ha,Zjs h1 Z5,ZZa,Xf,ZZa]
  by_cases e1:Zr b.conf b.data_.who=true
  .rw[e1,ZZi (by simp)]
   by_cases e2:1<=b.data_.by_/\b.data_.by_<=3
   .rw[ZZi (by simpa using e2),Zpm h3 e1,ZZa]
    have hsp:=(hm _ e1).split;by_cases e3:atI b.splits b.data_.who=0
    .rw[decide_eq_false (by omega)]
     have hrb:=Ja (hm _ e1).right;have hJ2:Yz (Ye b b.data_ true (atI b.m b.data_.who) false) ((b.data_.beat=(atI b.m b.data_.who).done/\(0<=b.data_.left/\b.data_.left<=b.conf.maxWait+2)/\(0<=b.data_.resp/\b.data_.resp<=3))/\(b.data_.second=true->b.data_.left=0/\b.data_.resp≠0)):=by
      unfold Ye;obtain⟨w,hw1,hw2⟩:=Yjn b.data_.resp;rw[ZZi (by simp),Xf,ZZa,hw1,ZZa,Yn (by omega) (by omega)];by_cases f1:b.data_.beat=(atI b.m b.data_.who).done
      .rw[ZZj (by simpa using f1)]
       by_cases f2:0<=b.data_.left/\b.data_.left<=b.conf.maxWait+2
       .rw[ZZj (by simpa using f2)]
        by_cases f3:0<=b.data_.resp/\b.data_.resp<=3
        .rw[ZZj (hw2.2 f3)]
         by_cases f4:b.data_.second=true
         .rw[ZZi (by simp[f4])]
          by_cases f5:b.data_.resp=0
          .rw[ZZi (by simpa using f5)]
           exact .no λh=>(h.2 f4).2 f5
          .rw[ZZj (by simpa using f5)]
           refine .of ⟨λh=>⟨⟨f1,f2,f3⟩,λ_=>⟨by simpa using h,f5⟩⟩,λh=>by simpa using (h.2 f4).1⟩
         .rw[ZZj (by simpa using f4)]
          exact .yes ⟨⟨f1,f2,f3⟩,λh=>absurd h f4⟩
        .rw[ZZi (λh=>f3 (hw2.1 h))]
         exact .no λh=>f3 h.1.2.2
       .rw[ZZi (by rw[decide_eq_false f2];simp)]
        exact .no λh=>f2 h.1.2.1
      .rw[ZZi (by simpa using f1)]
       exact .no λh=>f1 h.1.1
     have Yv1:Ye b b.data_ true (atI b.m b.data_.who) true=some false:=by unfold Ye;rw[ZZj rfl]
     have hS:Yz (if b.data_.second=true then Ye b b.data_ true (atI b.m b.data_.who) b.addr.live else Ye b b.data_ true (atI b.m b.data_.who) false)
       ((b.data_.beat=(atI b.m b.data_.who).done/\(0<=b.data_.left/\b.data_.left<=b.conf.maxWait+2)/\(0<=b.data_.resp/\b.data_.resp<=3))/\(b.data_.second=true->b.data_.left=0/\b.data_.resp≠0/\b.addr.live=false)):=by
      by_cases f4:b.data_.second=true
      .rw[ZZj f4]
       by_cases f5:b.addr.live=true
       .rw[f5,Yv1]
        exact .no λh=>by have:=(h.2 f4).2.2;cases this
       .have f6:b.addr.live=false:=by simpa using f5
        rw[f6];exact hJ2.iff ⟨λh=>⟨h.1,λh2=>⟨(h.2 h2).1,(h.2 h2).2,rfl⟩⟩,λh=>⟨h.1,λh2=>⟨(h.2 h2).1,(h.2 h2).2.1⟩⟩⟩
      .rw[ZZi f4]
       exact hJ2.iff ⟨λh=>⟨h.1,λh2=>absurd h2 f4⟩,λh=>⟨h.1,λh2=>absurd h2 f4⟩⟩
     have hT:Yz (if decide (b.data_.resp=3)=true then if (atI b.m b.data_.who).parted=true then Ye b b.data_ true (atI b.m b.data_.who) true else if decide (b.holder=b.data_.who)=true then Ye b b.data_ true (atI b.m b.data_.who) true else if b.data_.second=true then Ye b b.data_ true (atI b.m b.data_.who) b.addr.live else Ye b b.data_ true (atI b.m b.data_.who) false
       else if b.data_.second=true then Ye b b.data_ true (atI b.m b.data_.who) b.addr.live else Ye b b.data_ true (atI b.m b.data_.who) false)
       ((b.data_.resp=3->(atI b.m b.data_.who).parted=false/\b.data_.who≠b.holder)/\(b.data_.beat=(atI b.m b.data_.who).done/\(0<=b.data_.left/\b.data_.left<=b.conf.maxWait+2)/\(0<=b.data_.resp/\b.data_.resp<=3))/\(b.data_.second=true->b.data_.left=0/\b.data_.resp≠0/\b.addr.live=false)):=by
      by_cases f3:b.data_.resp=3
      .rw[ZZj (by simpa using f3)]
       by_cases f4:(atI b.m b.data_.who).parted=true
       .rw[ZZj f4,Yv1]
        exact .no λh=>by have:=(h.1 f3).1;rw[f4] at this;cases this
       .rw[ZZi f4]
        by_cases f5:b.holder=b.data_.who
        .rw[ZZj (by simpa using f5),Yv1]
         exact .no λh=>(h.1 f3).2 f5.symm
        .rw[ZZi (by simpa using f5)]
         exact hS.iff ⟨λh=>⟨λ_=>⟨by simpa using f4,λh2=>f5 h2.symm⟩,h⟩,λh=>h.2⟩
      .rw[ZZi (by simpa using f3)]
       exact hS.iff ⟨λh=>⟨λh2=>absurd h2 f3,h⟩,λh=>h.2⟩
     unfold Q0;rw[ZZi (by simp),X7 h1 e1,ZZa,ZZi (by simp)];by_cases f2:b.data_.resp=2
     .rw[ZZj (by simpa using f2)]
      by_cases f3:(atI b.m b.data_.who).tries≥b.conf.maxRetry
      .rw[ZZj (by simpa using f3),Yv1]
       exact .no λh=>by have:=h.2.2.1 f2;omega
      .rw[ZZi (by simpa using f3)]
       exact hT.iff ⟨λh=>⟨λ_=>⟨e1,e2,e3⟩,h.2.1,λ_=>by omega,h.1,h.2.2⟩,λh=>⟨h.2.2.2.1,h.2.1,h.2.2.2.2⟩⟩
     .rw[ZZi (by simpa using f2)]
      exact hT.iff ⟨λh=>⟨λ_=>⟨e1,e2,e3⟩,h.2.1,λh2=>absurd h2 f2,h.1,h.2.2⟩,λh=>⟨h.2.2.2.1,h.2.1,h.2.2.2.2⟩⟩
    .rw[decide_eq_true (by omega),hJ1]
     exact .no λh=>e3 (h.1 ha).2.2
   .rw[ZZj (by rw[decide_eq_false e2];rfl),hJ1]
    exact .no λh=>e2 (h.1 ha).2.1
  .rw[ZZj (by simpa using e1),hJ1]
   exact .no λh=>e1 (h.1 ha).1
 .rw[ZZj (by simpa using ha),ZZi ha]
  exact (Yz.of (Yc9 _)).iff ⟨λh=>⟨λh2=>absurd h2 ha,h⟩,λh=>h.2⟩
theorem Ye9 (b:Za) (hc:Y6 b.conf=true) (h1:b.m.length=b.conf.masters.length) (h3:b.splits.length=b.conf.masters.length) (hm:∀i,Zr b.conf i=true->Zvt b.conf b i):Yz (Zot b) (Ziy b):=by
 have Yl:=Jr hc;have Z5:=Zb9 hc;unfold Zot Ziy;refine (Zo1 (n:=b.m.length) (by omega) (P:=λk=>(atI b.m (k:Int)).beat > 0->Yi (atI b.m (k:Int))=true->b.holder=(k:Int))
  (Q:=if b.holder=-1 then b.held=0 else Zr b.conf b.holder=true/\Yi (atI b.m b.holder)=true/\atI b.splits b.holder=0/\(0<=b.held/\b.held<=b.conf.lockMost))
  (B:=Zit b) (λm i=>rfl) (λk hk=>?_) λ_=>?_).iff ?_
 .have hmk:=mas (c:=b.conf) (k:=k) (by omega)
  have hr:=(hm _ hmk).right;unfold Zit;simp only[ZZj (show decide ((k:Int) < (b.m.length:Int))=true by simpa using hk),X7 h1 hmk,ZZa];by_cases e1:(atI b.m (k:Int)).beat > 0
  .have hq:(atI b.m (k:Int)).queue≠[]:=by
    intro hq;have:=hr.none hq;omega
   have hq2:0 < (atI b.m (k:Int)).queue.length:=Van.2 hq;rw[Xj (xs:=(atI b.m (k:Int)).queue) (by omega) (by omega)];simp only[ZZa,e1,decide_true,if_true];by_cases e2:(atI (atI b.m (k:Int)).queue 0).lock=true
   .by_cases e4:(atI b.m (k:Int)).broken=true
    .exact .inl ⟨λ_ h=>by simp[Yi,e4] at h,λκ=>by simp[e2,e4]⟩
    .by_cases e3:b.holder=(k:Int)
     .exact .inl ⟨λ_ _=>e3,λκ=>by simp[e2,e3,e4]⟩
     .exact .inr ⟨λh=>e3 (h trivial (by simp[Yi,hq,e2,e4])),λκ=>by simp[e2,e3,e4]⟩
   .exact .inl ⟨λ_ h=>by simp[Yi,e2] at h,λκ=>by simp[e2]⟩
  .exact .inl ⟨λh=>absurd h e1,λκ=>by simp[e1]⟩
 .unfold Zit
  simp only[Int.lt_irrefl,decide_false,ZZf,if_false];by_cases e1:b.holder=-1
  .exact⟨decide (b.held=0),λκ=>by simp[e1],by simp[e1]⟩
  .simp only[e1,decide_false,ZZf,if_false,Zjs h1 Z5,ZZa,Xf]
   have hJt:Zbe b true=some false:=by unfold Zbe;rw[ZZj rfl]
   by_cases e2:Zr b.conf b.holder=true
   .simp only[e2,Va5,ZZf,if_false]
    by_cases e5:0<=b.held/\b.held<=b.conf.lockMost
    .have hJ:Yz (Zbe b false) (Yi (atI b.m b.holder)=true/\atI b.splits b.holder=0):=by
      unfold Zbe;rw[ZZi (by simp),X7 h1 e2,ZZa];by_cases hq:(atI b.m b.holder).queue=[]
      .rw[ZZi (by simp[hq])]
       exact .no λh=>by simp[Yi,hq] at h
      .have hq2:0 < (atI b.m b.holder).queue.length:=Van.2 hq
       rw[ZZj (by simp;omega),Xj (xs:=(atI b.m b.holder).queue) (by omega) (by omega),ZZa,Zpm h3 e2,ZZa];by_cases e6:(atI (atI b.m b.holder).queue 0).lock=true
       .rw[ZZj e6]
        by_cases e7:(atI b.m b.holder).broken=true
        .rw[ZZi (by simp[e7])]
         exact .no λh=>by simp[Yi,e7] at h
        .rw[ZZj (by simp[e7])]
         exact .of (by simp[Yi,hq,e6,e7])
       .rw[ZZi e6]
        exact .no λh=>by simp[Yi,e6] at h
     obtain⟨r,Zz,Z8⟩:=hJ;refine⟨r,λκ=>by rw[decide_eq_true e5,Va5,Zz],?_⟩;rw[Z8];exact⟨λh=>⟨trivial,h.1,h.2,e5⟩,λh=>⟨h.2.1,h.2.2.1⟩⟩
    .refine⟨false,λκ=>by rw[decide_eq_false e5,Vbf,hJt],by simp[e5]⟩
   .exact⟨false,λκ=>by simp[e2,hJt],by simp[e2]⟩
 .rw[h1,<-Zxl (P:=λi=>(atI b.m i).beat > 0->Yi (atI b.m i)=true->b.holder=i)]
def doneR (c:Zh) (d:Zm):Prop:=Zr c d.who=true/\X6 d.addr d.size=true/\d.addr < 512/\Xm d.value d.size=true/\(d.resp=0\/d.resp=1)
theorem Yaa {b:Za} (h1:b.m.length=b.conf.masters.length) (Z5:b.conf.masters.length < 1048577) (d:Zm):(doneR b.conf d/\∀x:Option Bool,((Z4 d.who 0 (Y9 (b.m.length:Int) 1)).bind λr530=>if (!r530)=true then some false else (Za0 d.addr d.size).bind λr538=>if (!r538)=true then some false else (Z4 d.addr 0 511).bind λr544=>if (!r544)=true then some false else (Qk d.size).bind λr552=>(Z4 d.value 0 (Y9 r552 1)).bind λr554=>if (!r554)=true then some false else (Z4 d.resp 0 1).bind λr560=>if (!r560)=true then some false else x)=x)
  \/ (¬doneR b.conf d/\∀x:Option Bool,((Z4 d.who 0 (Y9 (b.m.length:Int) 1)).bind λr530=>if (!r530)=true then some false else (Za0 d.addr d.size).bind λr538=>if (!r538)=true then some false else (Z4 d.addr 0 511).bind λr544=>if (!r544)=true then some false else (Qk d.size).bind λr552=>(Z4 d.value 0 (Y9 r552 1)).bind λr554=>if (!r554)=true then some false else (Z4 d.resp 0 1).bind λr560=>if (!r560)=true then some false else x)=some false):=by
 simp only[Zjs h1 Z5,Zrq,Zba,Zp0,Xf d.addr,Xf d.resp,ZZa];by_cases e3:Zr b.conf d.who=true
 .by_cases e4:X6 d.addr d.size=true
  .have e0:=(Zbn e4).2.1
   by_cases e5:d.addr < 512
   .have e5':0<=d.addr/\d.addr<=511:=by omega
    by_cases e6:Xm d.value d.size=true
    .by_cases e7:d.resp=0\/d.resp=1
     .have e7':0<=d.resp/\d.resp<=1:=by omega
      exact .inl ⟨⟨e3,e4,e5,e6,e7⟩,λx=>by simp[e3,e4,e5',e6,e7']⟩
     .have e7':¬(0<=d.resp/\d.resp<=1):=by omega
      exact .inr ⟨λh=>e7 h.2.2.2.2,λx=>by simp only[e3,e4,e5',e6,decide_eq_false e7',Va5,Vbf,ZZf,if_false,if_true,and_self,decide_true]⟩
    .exact .inr ⟨λh=>e6 h.2.2.2.1,λx=>by simp[e3,e4,e5',e6]⟩
   .have e5':¬(0<=d.addr/\d.addr<=511):=by omega
    exact .inr ⟨λh=>e5 h.2.2.1,λx=>by simp only[e3,e4,decide_eq_false e5',Va5,Vbf,ZZf,if_false,if_true]⟩
  .exact .inr ⟨λh=>e4 h.2.1,λx=>by simp[e3,e4]⟩
 .exact .inr ⟨λh=>e3 h.1,λx=>by simp[e3]⟩
theorem Yhx (b:Za) (hc:Y6 b.conf=true) (h1:b.m.length=b.conf.masters.length) (hl:b.log.length < 1048577) (hn:0<=b.now/\b.now<=4000):Yz (Zrz b) (Z3i b):=by
 have Z5:=Zb9 hc;unfold Zrz;have:=Zo1 (n:=b.log.length) (by omega) (P:=λk=>Z36 b.conf b.now (atI b.log (k:Int))/\(0 < k->Zc4 b.log k < (atI b.log (k:Int)).cycle)) (Q:=True)
  (B:=Zk2 b) (L:=Znv b) (λm i=>rfl) (λk hk=>?_) λ_=>⟨true,λκ=>?_,by simp⟩
 .refine this.iff ?_
  rw[and_true,Ysz];constructor
  .intro h k hk
   refine⟨(h k hk).1,?_⟩;cases k with
   | zero=>have:=(h 0 hk).1.1.1;simp only[Zc4];omega
   | succ k=>exact (h (k+1) hk).2 (by omega)
  .intro h k hk
   exact⟨(h k hk).1,λ_=>(h k hk).2⟩
 .unfold Zk2
  simp only[ZZj (show decide ((k:Int) < (b.log.length:Int))=true by simpa using hk),Xj (xs:=b.log) (i:=(k:Int)) (by omega) (by omega),ZZa,Xf (atI b.log (k:Int)).cycle,Xa (a:=b.now) (b:=1) (by omega) (by omega)];by_cases e1:0<=(atI b.log (k:Int)).cycle/\(atI b.log (k:Int)).cycle < b.now
  .have e1':0<=(atI b.log (k:Int)).cycle/\(atI b.log (k:Int)).cycle<=b.now - 1:=by omega
   simp only[e1',and_self,decide_true,Va5,ZZf,if_false];cases k with
   | zero=>
    simp only[show ¬(((0:Nat):Int) > 0) by omega,decide_false,ZZf,if_false];rcases Yaa h1 Z5 (atI b.log ((0:Nat):Int)) with⟨h2,h3⟩|⟨h2,h3⟩
    .exact .inl ⟨⟨⟨e1,h2⟩,λh=>by omega⟩,λκ=>h3 _⟩
    .exact .inr ⟨λh=>h2 h.1.2,λκ=>h3 _⟩
   | succ k=>
    have ek:((k+1:Nat):Int) - 1=(k:Int):=by omega
    simp only[show ((k+1:Nat):Int) > 0 by omega,decide_true,if_true,Xa (a:=((k+1:Nat):Int)) (b:=1) (by omega) (by omega),ek,Xj (xs:=b.log) (i:=(k:Int)) (by omega) (by omega),ZZa];by_cases e2:(atI b.log (k:Int)).cycle < (atI b.log ((k+1:Nat):Int)).cycle
    .have e2':¬(atI b.log ((k+1:Nat):Int)).cycle<=(atI b.log (k:Int)).cycle:=by omega
     simp only[e2',decide_false,ZZf,if_false];rcases Yaa h1 Z5 (atI b.log ((k+1:Nat):Int)) with⟨h2,h3⟩|⟨h2,h3⟩
     .exact .inl ⟨⟨⟨e1,h2⟩,λh=>e2⟩,λκ=>h3 _⟩
     .exact .inr ⟨λh=>h2 h.1.2,λκ=>h3 _⟩
    .have e2':(atI b.log ((k+1:Nat):Int)).cycle<=(atI b.log (k:Int)).cycle:=by omega
     exact .inr ⟨λh=>e2 (h.2 (by omega)),λκ=>by simp only[e2',decide_true,if_true]⟩
  .have e1':¬(0<=(atI b.log (k:Int)).cycle/\(atI b.log (k:Int)).cycle<=b.now - 1):=by omega
   exact .inr ⟨λh=>e1 h.1.1,λκ=>by simp only[decide_eq_false e1',Vbf,if_true]⟩
 .unfold Zk2
  rw[ZZi (by simp)]
theorem Yjr (b:Za) (hs:b.sm):Yz (Zmv b) (Zgr b):=by
 have hJt:Wu b true=some false:=by unfold Wu;rw[ZZj rfl]
 unfold Zmv;rw[Zgp _ hs.conf,ZZa];by_cases hc:Y6 b.conf=true
 .have Yl:=Jr hc
  rw[hc,ZZi (by simp),Xf,ZZa];by_cases hn:0<=b.now/\b.now<=4000
  .rw[ZZi (by simpa using hn)]
   by_cases h1:b.m.length=b.conf.masters.length
   .rw[ZZi (by simp;omega)]
    by_cases h2:b.buckets.length=b.conf.masters.length
    .rw[ZZi (by simp;omega)]
     by_cases h3:b.splits.length=b.conf.masters.length
     .rw[ZZi (by simp;omega),Z4w _ _ hs.conf,ZZa]
      by_cases h4:J2 b.arb b.conf=true
      .rw[h4,ZZi (by simp),Xf,ZZa,Xa (by omega) (by omega)]
       by_cases h5:b.last=-1\/Zr b.conf b.last=true
       .have h5':-1<=b.last/\b.last<=(b.conf.masters.length:Int) - 1:=by
         rcases h5 with h5|h5
         .omega
         .simp only[Zr,ZZl] at h5;omega
        rw[ZZi (by simpa using h5'),Z7z _ hs.model,ZZa];by_cases h6:Zzg b.model=true
        .rw[h6,ZZi (by simp)]
         by_cases h7:0<=b.picks
         .rw[ZZi (by simpa using h7)]
          by_cases h8:b.picks<=b.now
          .rw[decide_eq_false (by omega)]
           unfold Wu;rw[ZZi (by simp)];have Yv2:=Zo1 (n:=b.conf.masters.length) (by omega) (P:=λk=>Zvt b.conf b (k:Int)/\(atI b.m (k:Int)).beat - (atI b.m (k:Int)).done=Kp b (k:Int))
            (Q:=((b.data_.live=true->Zab b b.data_)/\Qz b)/\((b.addr.live=true->Zab b b.addr)/\Km b)/\Ziy b/\Z3i b) (B:=Zng b) (L:=Zpd b) (λm i=>rfl) (λk hk=>?_) λhP=>?_
           .refine Yv2.iff ⟨λh=>?_,λh=>?_⟩
            .obtain⟨h9,h10,h11,h12,h13⟩:=h
             have hm:=(Zxl (c:=b.conf) (P:=λi=>Zvt b.conf b i/\(atI b.m i).beat - (atI b.m i).done=Kp b i)).2 h9;exact⟨hc,hn,h1,h2,h3,λi hi=>(hm i hi).1,h4,h5,Zu9.1 h6,⟨h7,h8⟩,h11.1,h10.1,λi hi=>(hm i hi).2,h11.2,h10.2,h12,h13⟩
            .exact⟨λk hk=>⟨h.mst _ (mas hk),h.fly _ (mas hk)⟩,⟨h.dlive,h.data⟩,⟨h.alive,h.addr⟩,h.held,h.log⟩
           .have hm:=mas (c:=b.conf) (k:=k) hk
            have hms:=hs.mst _ (mem_m h1 hm);have hme:=Zd1 (Zhi hc hm);unfold Zng;simp only[ZZj (show decide ((k:Int) < (b.conf.masters.length:Int))=true by simpa using hk),X7 h1 hm,Z83 h2 hm,Zpm h3 hm,Zzv hm,ZZa,Zps _ ⟨hme.1,hme.2.1⟩,Xf,Yw5];unfold Z7c;simp only[Zgp _ hs.conf,hc,if_true,ZZa,Zfi _ hms];by_cases e1:Zu1 (atI b.m (k:Int))=true
            .by_cases e2:(atI b.m (k:Int)).tries<=b.conf.maxRetry
             .by_cases e3:Yr (atI b.buckets (k:Int)) (atI b.conf.masters (k:Int))=true
              .by_cases e4:0<=atI b.splits (k:Int)/\atI b.splits (k:Int)<=b.conf.maxSplit
               .have hrb:=Ja (K1.1 e1)
                rw[Xa (by omega) (by omega)];by_cases e5:(atI b.m (k:Int)).beat - (atI b.m (k:Int)).done=Kp b (k:Int)
                .refine .inl ⟨⟨⟨K1.1 e1,e2,e3,e4⟩,e5⟩,λκ=>?_⟩
                 simp[e1,e2,e3,e4,e5]
                .refine .inr ⟨λh=>e5 h.2,λκ=>?_⟩
                 simp[e1,e2,e3,e4,e5]
               .refine .inr ⟨λh=>e4 h.1.split,λκ=>?_⟩
                simp[e1,e2,e3,e4]
              .refine .inr ⟨λh=>e3 h.1.bucket,λκ=>?_⟩
               simp[e1,e2,e3]
             .refine .inr ⟨λh=>e2 h.1.tries,λκ=>?_⟩
              simp[e1,e2]
            .refine .inr ⟨λh=>e1 (K1.2 h.1.right),λκ=>?_⟩
             simp[e1]
           .have hm:=(Zxl (c:=b.conf) (P:=λi=>Zvt b.conf b i/\(atI b.m i).beat - (atI b.m i).done=Kp b i)).2 hP
            have hm1:∀i,Zr b.conf i=true->Zvt b.conf b i:=λi hi=>(hm i hi).1;have hT:Yz ((Zcl b b.data_ true).bind λr903=>if r903=true then (Zcl b b.addr false).bind λr908=>if r908=true then (Zot b).bind λr912=>if r912=true then (Zrz b).bind λr916=>some r916 else some false else some false else some false)
              (((b.data_.live=true->Zab b b.data_)/\Qz b)/\((b.addr.live=true->Zab b b.addr)/\Km b)/\Ziy b/\Z3i b):=by
             refine Yz.and (Ygq b hs hc h1 h3 hm1) λ_=>?_;refine Yz.and (Ygy b hs hc h1 h3 hm1) λ_=>?_;refine Yz.and (Ye9 b hc h1 h3 hm1) λ_=>?_;obtain⟨r,h9,h10⟩:=Yhx b hc h1 hs.log hn;rw[h9];exact .of h10
            obtain⟨r,h9,h10⟩:=hT;refine⟨r,λκ=>?_,h10⟩;unfold Zng;rw[ZZi (by simp)];exact h9
          .rw[decide_eq_true (by omega),hJt]
           exact .no λh=>h8 h.picks.2
         .rw[ZZj (by simpa using h7),hJt]
          exact .no λh=>h7 h.picks.1
        .rw[ZZj (by simpa using h6),hJt]
         exact .no λh=>h6 (Zu9.2 h.model)
       .have h5':¬(-1<=b.last/\b.last<=(b.conf.masters.length:Int) - 1):=by
         intro h6;apply h5;simp only[Zr,ZZl];omega
        rw[ZZj (by rw[decide_eq_false h5'];rfl),hJt];exact .no λh=>h5 h.last
      .rw[ZZj (by simpa using h4),hJt]
       exact .no λh=>h4 h.arb
     .rw[ZZj (by simp;omega),hJt]
      exact .no λh=>h3 h.sl
    .rw[ZZj (by simp;omega),hJt]
     exact .no λh=>h2 h.bl
   .rw[ZZj (by simp;omega),hJt]
    exact .no λh=>h1 h.ml
  .rw[ZZj (by rw[decide_eq_false hn];rfl),hJt]
   exact .no λh=>hn h.now
 .rw[ZZj (by simpa using hc),hJt]
  exact .no λh=>hc h.conf
theorem Yb4 (b:Za) (hs:b.sm):∃r,Zqf b=some r/\Zmv b=some r/\(r=true↔Zgr b):=(Yjs b hs).eq (Yjr b hs)
def Zik (l:List Int) (k:Int):Int:=if l=[]\/k < 0 then 0 else atI l (k % (l.length:Int))
def Zpt (c:Zh) (s:Zg) (k:Int):Int:=max 0 (min (Zik s.waits k) c.maxWait)
def Zg3 (s:Zg) (k:Int):Int:=if Zik s.says k=2\/Zik s.says k=3 then Zik s.says k else 0
def Zhn (c:Zh) (s:Zg) (k:Int):Int:=max 1 (min (max 0 (min (Zik s.waits k) 99)+1) c.maxSplit)
def Zkx (b:Za):Zq:=
 Zq.mk b.now (if b.addr.live then X0 (atI b.m b.addr.who) b.addr.beat else -1) (if b.addr.live then (if b.addr.first then 2 else 3) else 0) (if b.addr.live then b.addr.who else -1)
  (if b.data_.live then X0 (atI b.m b.data_.who) b.data_.beat else -1) (if b.data_.live then b.data_.who else -1) true 0 (-1)
def Za7 (s:Zg) (t:Int):List Zv:=s.posts.filter λp=>decide (p.at_=t)
def Ko (b:Za) (p:Zv):Za:=if Zr b.conf p.who=true then {b with m:=b.m.set p.who.toNat (Ju (atI b.m p.who) p.req)} else b
def Xo (b:Za) (ps:List Zv):Za:=ps.foldl Ko b
def Xc (b:Za):Za:={b with splits:=b.splits.map λn=>max (n - 1) 0,buckets:=List.zipWith Zrn b.buckets b.conf.masters}
def Jl (b:Za):Za:=if b.holder=-1 then b else {b with held:=min (b.held+1) b.conf.lockMost}
def Ytf (b:Za):Za:={b with holder:=-1,held:=0}
def Wc (b:Za) (x:Zf):Za:=
 if x.by_=1 then {b with m:=b.m.set x.who.toNat (Zbj (atI b.m x.who)),buckets:=b.buckets.set x.who.toNat (Zyc (atI b.buckets x.who) (atI b.conf.masters x.who))}
 else if x.by_=2 then {b with m:=b.m.set x.who.toNat (Zbj (atI b.m x.who)),arb:=Zy9 b.arb b.conf x.who}
 else {b with m:=b.m.set x.who.toNat (Zbj (atI b.m x.who))}
def Zqj (m:Zd) (k:Int):Int:=if (atI m.queue 0).write then atI (atI m.queue 0).data_ k else 0
def doG (b:Za) (x:Zf):Zj×Int×Int:=Zek b.model (atI (atI b.m x.who).queue 0).write (X0 (atI b.m x.who) x.beat) (atI (atI b.m x.who).queue 0).size (Zqj (atI b.m x.who) x.beat)
def Yen (b:Za) (x:Zf):Zm:=Zm.mk b.now x.who (atI (atI b.m x.who).queue 0).write (X0 (atI b.m x.who) x.beat) (atI (atI b.m x.who).queue 0).size (if x.resp=0 then (doG b x).2.1 else 0) x.resp
def Zfs (b:Za) (x:Zf):Za:=
 {b with model:=if x.resp=0 then (doG b x).1 else b.model,log:=b.log++[Yen b x],m:=b.m.set x.who.toNat (K2 (atI b.m x.who)),holder:=if b.holder=x.who/\(atI b.m x.who).done+1=Zy (atI b.m x.who) then -1 else b.holder,held:=if b.holder=x.who/\(atI b.m x.who).done+1=Zy (atI b.m x.who) then 0 else b.held}
def Ya (b:Za) (s:Zg):Za×Bool×Int:=
 if b.data_.live=false then (b,true,0)
 else if b.data_.left > 0 then ({b with data_:={b.data_ with left:=b.data_.left - 1}},false,0)
 else if b.data_.resp≠0/\b.data_.second=false then
  (if b.addr.live then {Wc {b with data_:={b.data_ with second:=true}} b.addr with addr:=Zf.z0} else {b with data_:={b.data_ with second:=true}},false,b.data_.resp)
 else if b.data_.resp=2 then (Wc {b with data_:=Zf.z0,m:=b.m.set b.data_.who.toNat {atI b.m b.data_.who with tries:=(atI b.m b.data_.who).tries+1}} b.data_,true,b.data_.resp)
 else if b.data_.resp=3 then (Wc {b with data_:=Zf.z0,m:=b.m.set b.data_.who.toNat {atI b.m b.data_.who with parted:=true},splits:=b.splits.set b.data_.who.toNat (Zhn b.conf s b.picks)} b.data_,true,b.data_.resp)
 else (Zfs {b with data_:=Zf.z0} b.data_,true,b.data_.resp)
def Y7 (b:Za):Za:=if b.holder≠-1/\b.held=b.conf.lockMost then Ytf {b with m:=b.m.set b.holder.toNat {atI b.m b.holder with broken:=true}} else b
def Zda (b:Za) (s:Zg) (x:Zf):Int×Int:=
 if (atI b.m x.who).broken=true\/Yu (X0 (atI b.m x.who) x.beat)=0 then (1,0) else
 (if Zg3 s b.picks=2/\Yu (X0 (atI b.m x.who) x.beat)≠3/\(atI b.m x.who).tries < b.conf.maxRetry then 2
  else if Zg3 s b.picks=3/\Yu (X0 (atI b.m x.who) x.beat)=2/\(atI b.m x.who).parted=false/\x.who≠b.holder then 3 else (doG b x).2.2,if Yu (X0 (atI b.m x.who) x.beat)=3 then Zpt b.conf s b.picks+2 else Zpt b.conf s b.picks)
def Qt (b:Za) (s:Zg):Za:=if b.addr.live then {b with data_:={b.addr with left:=(Zda b s b.addr).2,resp:=(Zda b s b.addr).1},addr:=Zf.z0,picks:=b.picks+1} else b
def Kh (b:Za) (i:Int):Bool:=Zo5 (atI b.m i)&&(decide (atI b.splits i=0)&&(decide (b.holder=-1)||decide (b.holder=i)))
def Qr (b:Za):List Bool:=(List.range b.m.length).map λk:Nat=>Kh b (k:Int)
def Zat (b:Za) (k:Nat):Bool:=Kh b (k:Int)&&(Zf6 (atI b.buckets (k:Int)) (atI b.conf.masters (k:Int))).2
def Zac (b:Za):Int×Int×Za:=
 if b.holder≠-1/\Kh b b.holder=true then (b.holder,3,b)
 else match (List.range b.m.length).find? (Zat b) with
  | some k=>((k:Int),1,{b with buckets:=b.buckets.set k (Zf6 (atI b.buckets (k:Int)) (atI b.conf.masters (k:Int))).1})
  | none=>if b.holder≠-1 then (-1,0,b) else ((Zcz b.arb b.conf (Qr b)).2,2,{b with arb:=(Zcz b.arb b.conf (Qr b)).1})
def Z5c (b:Za) (who by_:Int):Za:=
 {b with addr:=Zf.mk true who (atI b.m who).beat (decide ((atI b.m who).beat=0)||decide (b.last≠who)) by_ 0 0 false,holder:=if Yi (atI b.m who)=true/\b.holder=-1 then who else b.holder,held:=if Yi (atI b.m who)=true/\b.holder=-1 then 0 else b.held,m:=b.m.set who.toNat (Xz (atI b.m who)),last:=who}
def K7 (b:Za):Int×Za:=if (Zac b).1 < 0 then (-1,(Zac b).2.2) else ((Zac b).1,Z5c (Zac b).2.2 (Zac b).1 (Zac b).2.1)
def Wr (b:Za) (s:Zg):Int×Za:=K7 (Qt (Y7 b) s)
def Kn (b:Za) (s:Zg):Za:=Jl (Xc (Xo b (Za7 s b.now)))
def Zdt (b:Za) (s:Zg):Za×Zq:=
 if (Ya (Kn b s) s).2.1=true then
  ({(Wr (Ya (Kn b s) s).1 s).2 with now:=b.now+1},{Zkx b with resp:=(Ya (Kn b s) s).2.2,got:=(Wr (Ya (Kn b s) s).1 s).1})
 else ({(Ya (Kn b s) s).1 with now:=b.now+1},{Zkx b with ready:=false,resp:=(Ya (Kn b s) s).2.2})
structure Yw (n:Int) (b:Za):Prop where
 conf:Y6 b.conf=true
 ml:b.m.length=b.conf.masters.length
 bl:b.buckets.length=b.conf.masters.length
 sl:b.splits.length=b.conf.masters.length
 mst:∀i,Zr b.conf i=true->Zvt b.conf b i
 arb:J2 b.arb b.conf=true
 last:b.last=-1\/Zr b.conf b.last=true
 model:Zdj b.model
 alive:b.addr.live=true->Zab b b.addr
 dlive:b.data_.live=true->Zab b b.data_
 fly:∀i,Zr b.conf i=true->(atI b.m i).beat - (atI b.m i).done=Kp b i
 addr:Km b
 data:Qz b
 held:Ziy b
 log:(∀d∈b.log,Z36 b.conf n d)/\b.log.Pairwise λx y=>x.cycle < y.cycle
theorem Zgr.i {b:Za} (h:Zgr b):Yw b.now b:=⟨h.conf,h.ml,h.bl,h.sl,h.mst,h.arb,h.last,h.model,h.alive,h.dlive,h.fly,h.addr,h.data,h.held,h.log⟩
theorem Z7s {α:Type} [Inhabited α] {xs:List α} {w i:Int} (a:α) (h0:0<=w) (h1:w < (xs.length:Int)) (hi:0<=i):atI (xs.set w.toNat a) i=if i=w then a else atI xs i:=by
 split
 .rename_i h;subst h;exact Zo6 a h0 h1
 .rename_i h;exact Yih a h0 hi (λh2=>h h2.symm)
theorem X5 {c:Zh} {i:Int} (h:Zr c i=true):0<=i/\i < (c.masters.length:Int):=by simpa [Zr] using h
theorem Yw.at_m {n:Int} {b:Za} (h:Yw n b) {w:Int} (hw:Zr b.conf w=true) (x:Zd) {i:Int} (hi:Zr b.conf i=true):atI (b.m.set w.toNat x) i=if i=w then x else atI b.m i:=by
 have h1:=X5 hw;have h2:=X5 hi;exact Z7s x h1.1 (by have:=h.ml;omega) h2.1
theorem Za3 {n:Int} {b:Za} (h:Yw n b) (hl:b.addr.live=true):Zr b.conf b.addr.who=true:=(h.alive hl).1
theorem Qs {n:Int} {b:Za} (h:Yw n b) (hl:b.data_.live=true):Zr b.conf b.data_.who=true:=(h.dlive hl).1
theorem Yws {m:Zd} {r:Zb} (hq:m.queue≠[]):(Ju m r).queue≠[]/\atI (Ju m r).queue 0=atI m.queue 0:=by
 unfold Ju;split
 .exact⟨by simp,Yaz hq⟩
 .exact⟨hq,rfl⟩
theorem Yiq (m:Zd) (r:Zb):(Ju m r).beat=m.beat/\(Ju m r).done=m.done/\(Ju m r).tries=m.tries/\(Ju m r).parted=m.parted/\(Ju m r).broken=m.broken:=by
 unfold Ju;split<;>exact⟨rfl,rfl,rfl,rfl,rfl⟩
theorem Yus {m:Zd} {r:Zb} (hq:m.queue≠[]):Yi (Ju m r)=Yi m:=by
 have h:=Yws (r:=r) hq;have h2:=Yiq m r;unfold Yi;rw[h.2,h2.2.2.2.2];simp[h.1,hq]
theorem Ynx {m:Zd} (h:Yi m=true):m.queue≠[]:=by
 intro hq;simp[Yi,hq] at h
theorem Yva {n:Int} {b:Za} {p:Zv} (h:Yw n b):Yw n (Ko b p):=by
 unfold Ko;split
 .rename_i hw
  have ha:=λ{i} hi=>h.at_m hw (Ju (atI b.m p.who) p.req) (i:=i) hi;have hs:=Yiq (atI b.m p.who) p.req;have hbd:∀i,Zr b.conf i=true->(atI (b.m.set p.who.toNat (Ju (atI b.m p.who) p.req)) i).beat=(atI b.m i).beat/\(atI (b.m.set p.who.toNat (Ju (atI b.m p.who) p.req)) i).done=(atI b.m i).done/\(atI (b.m.set p.who.toNat (Ju (atI b.m p.who) p.req)) i).tries=(atI b.m i).tries/\(atI (b.m.set p.who.toNat (Ju (atI b.m p.who) p.req)) i).parted=(atI b.m i).parted:=by
   intro i hi;rw[ha hi];split
   .rename_i e;subst e;exact⟨hs.1,hs.2.1,hs.2.2.1,hs.2.2.2.1⟩
   .exact⟨rfl,rfl,rfl,rfl⟩
  have hlk:∀i,Zr b.conf i=true->(atI b.m i).queue≠[]->Yi (atI (b.m.set p.who.toNat (Ju (atI b.m p.who) p.req)) i)=Yi (atI b.m i):=by
   intro i hi hq;rw[ha hi];split
   .rename_i e;subst e;exact Yus hq
   .rfl
  refine⟨h.conf,by simp[h.ml],h.bl,h.sl,λi hi=>?_,h.arb,h.last,h.model,h.alive,h.dlive,λi hi=>?_,?_,?_,?_,h.log⟩
  .have hm:=h.mst i hi
   refine⟨?_,by have:=(hbd i hi).2.2.1;simp only at this ⊢;rw[this];exact hm.tries,hm.bucket,hm.split⟩;show Yq (atI (b.m.set p.who.toNat (Ju (atI b.m p.who) p.req)) i);rw[ha hi];split
   .exact Yuk (h.mst _ hw).right
   .exact hm.right
  .show (atI (b.m.set p.who.toNat (Ju (atI b.m p.who) p.req)) i).beat - (atI (b.m.set p.who.toNat (Ju (atI b.m p.who) p.req)) i).done=Kp b i
   rw[(hbd i hi).1,(hbd i hi).2.1];exact h.fly i hi
  .have:=h.addr
   unfold Km at this ⊢;simp only;by_cases hl:b.addr.live=true
   .rw[ZZj hl] at this ⊢
    rw[(hbd _ (Za3 h hl)).1];exact this
   .rw[ZZi hl] at this ⊢;exact this
  .have:=h.data
   unfold Qz at this ⊢;simp only;by_cases hl:b.data_.live=true
   .rw[ZZj hl] at this ⊢
    have e:=hbd _ (Qs h hl);rw[e.2.1,e.2.2.1,e.2.2.2];exact this
   .rw[ZZi hl] at this ⊢;exact this
  .obtain⟨h1,h2⟩:=h.held
   refine⟨λi hi hb hk=>?_,?_⟩
   .simp only at hb hk
    have hi2:Zr b.conf i=true:=hi;rw[(hbd i hi2).1] at hb;have hq:(atI b.m i).queue≠[]:=by
     intro hq;have:=(h.mst i hi2).right.none hq;omega
    rw[hlk i hi2 hq] at hk;exact h1 i hi2 hb hk
   .simp only
    split
    .rename_i e;rw[ZZj e] at h2;exact h2
    .rename_i e
     rw[ZZi e] at h2;exact⟨h2.1,by rw[hlk _ h2.1 (Ynx h2.2.1)];exact h2.2.1,h2.2.2⟩
 .exact h
theorem Zrt {n:Int} {b:Za} (h:Yw n b) (ps:List Zv):Yw n (Xo b ps):=by
 induction ps generalizing b with
 | nil=>exact h
 | cons p ps ih=>exact ih (Yva h)
theorem Yn7 (b:Za) (p:Zv):(Ko b p).conf=b.conf/\(Ko b p).now=b.now/\(Ko b p).picks=b.picks/\(Ko b p).log=b.log/\(Ko b p).model=b.model/\(Ko b p).holder=b.holder/\(Ko b p).held=b.held/\(Ko b p).addr=b.addr/\(Ko b p).data_=b.data_/\(Ko b p).splits=b.splits/\(Ko b p).buckets=b.buckets/\(Ko b p).arb=b.arb/\(Ko b p).last=b.last:=by
 unfold Ko;split<;>exact⟨rfl,rfl,rfl,rfl,rfl,rfl,rfl,rfl,rfl,rfl,rfl,rfl,rfl⟩
theorem Zl8 (b:Za) (ps:List Zv):(Xo b ps).conf=b.conf/\(Xo b ps).now=b.now/\(Xo b ps).picks=b.picks/\(Xo b ps).log=b.log/\(Xo b ps).model=b.model/\(Xo b ps).holder=b.holder/\(Xo b ps).held=b.held/\(Xo b ps).addr=b.addr/\(Xo b ps).data_=b.data_/\(Xo b ps).splits=b.splits/\(Xo b ps).buckets=b.buckets/\(Xo b ps).arb=b.arb/\(Xo b ps).last=b.last:=by
 induction ps generalizing b with
 | nil=>exact⟨rfl,rfl,rfl,rfl,rfl,rfl,rfl,rfl,rfl,rfl,rfl,rfl,rfl⟩
 | cons p ps ih=>
  have h1:=ih (Ko b p);have h2:=Yn7 b p;simp only[h2] at h1;exact h1
theorem at_map {α β:Type} [Inhabited α] [Inhabited β] (f:α->β) {xs:List α} {i:Int} (h0:0<=i) (h1:i < (xs.length:Int)):atI (xs.map f) i=f (atI xs i):=by
 obtain⟨k,rfl⟩:∃k:Nat,i=k:=⟨i.toNat,by omega⟩;have hk:k < xs.length:=by omega
 rw[Wk hk,Wk (by simpa using hk)];simp
theorem at_zip {α β γ:Type} [Inhabited α] [Inhabited β] [Inhabited γ] (f:α->β->γ) {xs:List α} {ys:List β} {i:Int} (h0:0<=i) (h1:i < (xs.length:Int)) (h2:i < (ys.length:Int)):atI (List.zipWith f xs ys) i=f (atI xs i) (atI ys i):=by
 obtain⟨k,rfl⟩:∃k:Nat,i=k:=⟨i.toNat,by omega⟩;have hk:k < xs.length:=by omega
 have hk2:k < ys.length:=by omega
 rw[Wk hk,Wk hk2,Wk (by simp;omega)];simp
theorem Z5d {n:Int} {b:Za} (h:Yw n b):Yw n (Xc b):=by
 have hsp:∀i,Zr b.conf i=true->atI (b.splits.map λn=>max (n - 1) 0) i=max (atI b.splits i - 1) 0:=λi hi=>by
  have:=X5 hi;exact at_map _ this.1 (by have:=h.sl;omega)
 have hbu:∀i,Zr b.conf i=true->atI (List.zipWith Zrn b.buckets b.conf.masters) i=Zrn (atI b.buckets i) (atI b.conf.masters i):=λi hi=>by
  have:=X5 hi;exact at_zip _ this.1 (by have:=h.bl;omega) this.2
 have h0:∀i,Zr b.conf i=true->atI b.splits i=0->atI (b.splits.map λn=>max (n - 1) 0) i=0:=λi hi e=>by rw[hsp i hi,e];rfl
 refine⟨h.conf,h.ml,by simp[Xc,h.bl],by simp[Xc,h.sl],λi hi=>?_,h.arb,h.last,h.model,λhl=>?_,λhl=>?_,h.fly,h.addr,h.data,?_,h.log⟩
 .have hm:=h.mst i hi
  refine⟨hm.right,hm.tries,?_,?_⟩
  .show Yr (atI (List.zipWith Zrn b.buckets b.conf.masters) i) _=true
   rw[hbu i hi];exact Y1m hm.bucket (Zhi h.conf hi)
  .show 0<=atI (b.splits.map λn=>max (n - 1) 0) i/\_
   have:=hm.split;have hx:=(Wz h.conf).2.2.2;show 0<=atI (b.splits.map λn=>max (n - 1) 0) i/\atI (b.splits.map λn=>max (n - 1) 0) i<=b.conf.maxSplit;rw[hsp i hi];omega
 .obtain⟨h1,h2,h3⟩:=h.alive hl
  exact⟨h1,h2,h0 _ h1 h3⟩
 .obtain⟨h1,h2,h3⟩:=h.dlive hl
  exact⟨h1,h2,h0 _ h1 h3⟩
 .obtain⟨h1,h2⟩:=h.held
  refine⟨h1,?_⟩;show if b.holder=-1 then b.held=0 else _
  split
  .rename_i e;rw[ZZj e] at h2;exact h2
  .rename_i e
   rw[ZZi e] at h2;exact⟨h2.1,h2.2.1,h0 _ h2.1 h2.2.2.1,h2.2.2.2⟩
theorem Yuv {n:Int} {b:Za} (h:Yw n b):Yw n (Jl b):=by
 unfold Jl;split
 .exact h
 .rename_i e
  refine⟨h.conf,h.ml,h.bl,h.sl,λi hi=>?_,h.arb,h.last,h.model,h.alive,h.dlive,h.fly,h.addr,h.data,?_,h.log⟩
  .have hm:=h.mst i hi;exact⟨hm.right,hm.tries,hm.bucket,hm.split⟩
  .obtain⟨h1,h2⟩:=h.held
   refine⟨h1,?_⟩;rw[ZZi e] at h2;show if b.holder=-1 then _ else _
   rw[ZZi e];have hl:=(Wz h.conf).2.2.1;refine⟨h2.1,h2.2.1,h2.2.2.1,?_⟩;have:=h2.2.2.2;show 0<=min (b.held+1) b.conf.lockMost/\min (b.held+1) b.conf.lockMost<=b.conf.lockMost;omega
theorem Yiz {b b':Za} (h:Ziy b) (hc:b'.conf=b.conf) (hh:b'.holder=b.holder) (hd:b'.held=b.held)
  (hm:∀i,Zr b.conf i=true->Yi (atI b'.m i)=Yi (atI b.m i)/\((atI b'.m i).beat > 0->(atI b.m i).beat > 0)) (hs:b.holder≠-1->atI b.splits b.holder=0->atI b'.splits b.holder=0):Ziy b':=by
 obtain⟨h1,h2⟩:=h;unfold Ziy;rw[hc,hh,hd];refine⟨λi hi hb hk=>h1 i hi ((hm i hi).2 hb) (by rw[<-(hm i hi).1];exact hk),?_⟩;split
 .rename_i e;rw[ZZj e] at h2;exact h2
 .rename_i e
  rw[ZZi e] at h2;exact⟨h2.1,by rw[(hm _ h2.1).1];exact h2.2.1,hs e h2.2.2.1,h2.2.2.2⟩
theorem Yiv (m:Zd):(Zbj m).queue=m.queue/\(Zbj m).done=m.done/\(Zbj m).tries=m.tries/\(Zbj m).parted=m.parted/\(Zbj m).broken=m.broken:=by
 unfold Zbj;split<;>exact⟨rfl,rfl,rfl,rfl,rfl⟩
theorem Zqt {m m':Zd} (h1:m'.queue=m.queue) (h2:m'.broken=m.broken):Yi m'=Yi m:=by
 unfold Yi;rw[h1,h2]
structure Y1k (b r:Za) (x:Zf):Prop where
 conf:r.conf=b.conf
 m:r.m=b.m.set x.who.toNat (Zbj (atI b.m x.who))
 bl:r.buckets.length=b.conf.masters.length
 bk:∀i,Zr b.conf i=true->Yr (atI r.buckets i) (atI b.conf.masters i)=true
 arb:J2 r.arb b.conf=true
 splits:r.splits=b.splits
 holder:r.holder=b.holder
 held:r.held=b.held
 addr:r.addr=b.addr
 data:r.data_=b.data_
 model:r.model=b.model
 log:r.log=b.log
 last:r.last=b.last
 now:r.now=b.now
 picks:r.picks=b.picks
theorem Z54 {b:Za} {x:Zf} (hc:Y6 b.conf=true) (hw:Zr b.conf x.who=true) (hbl:b.buckets.length=b.conf.masters.length) (hbk:∀i,Zr b.conf i=true->Yr (atI b.buckets i) (atI b.conf.masters i)=true) (har:J2 b.arb b.conf=true):Y1k b (Wc b x) x:=by
 have hb:=X5 hw;unfold Wc;split
 .refine⟨rfl,rfl,by simp[hbl],λi hi=>?_,har,rfl,rfl,rfl,rfl,rfl,rfl,rfl,rfl,rfl,rfl⟩
  show Yr (atI (b.buckets.set x.who.toNat _) i) _=true;rw[Z7s _ hb.1 (by omega) (X5 hi).1];split
  .rename_i e;subst e;exact Y0p (hbk _ hi) (Zhi hc hi)
  .exact hbk i hi
 .split
  .exact⟨rfl,rfl,hbl,hbk,Yz3 _ har,rfl,rfl,rfl,rfl,rfl,rfl,rfl,rfl,rfl,rfl⟩
  .exact⟨rfl,rfl,hbl,hbk,har,rfl,rfl,rfl,rfl,rfl,rfl,rfl,rfl,rfl,rfl⟩
theorem Yw.mono {n:Int} {b:Za} (h:Yw n b):Yw (n+1) b:=
 ⟨h.conf,h.ml,h.bl,h.sl,h.mst,h.arb,h.last,h.model,h.alive,h.dlive,h.fly,h.addr,h.data,h.held,λd hd=>by have:=h.log.1 d hd;exact⟨⟨this.1.1,by have:=this.1.2;omega⟩,this.2⟩,h.log.2⟩
theorem Ysg {n:Int} {b:Za} (h:Yw n b) (hl:b.addr.live=true):(atI b.m b.addr.who).beat - (atI b.m b.addr.who).done≥1:=by
 rw[h.fly _ (Za3 h hl)];unfold Kp;rw[ZZj ⟨hl,rfl⟩];split<;>omega
theorem Zta {n:Int} {b:Za} (h:Yw n b) (hl:b.data_.live=true):(atI b.m b.data_.who).beat - (atI b.m b.data_.who).done≥1:=by
 rw[h.fly _ (Qs h hl)];unfold Kp;rw[ZZj (⟨hl,rfl⟩:b.data_.live=true/\b.data_.who=b.data_.who)];split<;>omega
theorem Yt6 {n:Int} {b:Za} (h:Yw n b) (hd:b.data_.live=true) (hl:b.data_.left > 0):Yw n {b with data_:={b.data_ with left:=b.data_.left - 1}}:=by
 refine⟨h.conf,h.ml,h.bl,h.sl,λi hi=>?_,h.arb,h.last,h.model,h.alive,λ_=>h.dlive hd,λi hi=>?_,h.addr,?_,h.held,h.log⟩
 .have hm:=h.mst i hi;exact⟨hm.right,hm.tries,hm.bucket,hm.split⟩
 .have:=h.fly i hi
  unfold Kp at this ⊢;exact this
 .have:=h.data
  unfold Qz at this ⊢;rw[ZZj hd] at this;simp only;rw[ZZj hd];refine⟨⟨this.1.1,by have:=this.1.2.1;omega,this.1.2.2⟩,this.2.1,this.2.2.1,λhs=>?_⟩;have:=(this.2.2.2 hs).1;omega
theorem Yve {n:Int} {b:Za} (h:Yw n b) (hd:b.data_.live=true) (hl:b.data_.left=0) (hr:b.data_.resp≠0):
  Yw n (if b.addr.live then {Wc {b with data_:={b.data_ with second:=true}} b.addr with addr:=Zf.z0} else {b with data_:={b.data_ with second:=true}}):=by
 have Zaw:=h.data;unfold Qz at Zaw;rw[ZZj hd] at Zaw;by_cases ha:b.addr.live=true
 .rw[ZZj ha]
  have hw:=Za3 h ha;have hb:=X5 hw;have hf:=Z54 (b:={b with data_:={b.data_ with second:=true}}) (x:=b.addr) h.conf hw h.bl (λi hi=>(h.mst i hi).bucket) h.arb;generalize Wc {b with data_:={b.data_ with second:=true}} b.addr=r at hf;have hat:∀i,Zr b.conf i=true->atI r.m i=if i=b.addr.who then Zbj (atI b.m b.addr.who) else atI b.m i:=λi hi=>by
   rw[hf.m];exact h.at_m hw _ hi
  have hs:=Yiv (atI b.m b.addr.who);have hsm:∀i,Zr b.conf i=true->(atI r.m i).queue=(atI b.m i).queue/\(atI r.m i).done=(atI b.m i).done/\(atI r.m i).tries=(atI b.m i).tries/\(atI r.m i).parted=(atI b.m i).parted/\(atI r.m i).broken=(atI b.m i).broken:=λi hi=>by
   rw[hat i hi];split
   .rename_i e;subst e;exact hs
   .exact⟨rfl,rfl,rfl,rfl,rfl⟩
  have hp:=Ysg h ha;have hbt:(Zbj (atI b.m b.addr.who)).beat=(atI b.m b.addr.who).beat - 1:=by
   unfold Zbj;rw[ZZi (by omega)]
  refine⟨by rw[show ({r with addr:=Zf.z0}:Za).conf=r.conf from rfl,hf.conf];exact h.conf,?_,?_,?_,λi hi=>?_,?_,?_,?_,λhx=>?_,λhx=>?_,λi hi=>?_,?_,?_,?_,?_⟩
  .show r.m.length=r.conf.masters.length
   rw[hf.m,hf.conf];simp[h.ml]
  .show r.buckets.length=r.conf.masters.length
   rw[hf.bl,hf.conf]
  .show r.splits.length=r.conf.masters.length
   rw[hf.splits,hf.conf];exact h.sl
  .have Yj:Zr b.conf i=true:=by rw[<-show r.conf=b.conf from hf.conf];exact hi
   have hm:=h.mst i Yj;refine⟨?_,?_,?_,?_⟩
   .show Yq (atI r.m i)
    rw[hat i Yj];split
    .exact Yd1 (h.mst _ hw).right
    .exact hm.right
   .show (atI r.m i).tries<=r.conf.maxRetry
    rw[(hsm i Yj).2.2.1,hf.conf];exact hm.tries
   .show Yr (atI r.buckets i) (atI r.conf.masters i)=true
    rw[hf.conf];exact hf.bk i Yj
   .show 0<=atI r.splits i/\atI r.splits i<=r.conf.maxSplit
    rw[hf.splits,hf.conf];exact hm.split
  .show J2 r.arb r.conf=true
   rw[hf.conf];exact hf.arb
  .show r.last=-1\/Zr r.conf r.last=true
   rw[hf.last,hf.conf];exact h.last
  .show Zdj r.model
   rw[hf.model];exact h.model
  .cases hx
  .have hx':r.data_.live=true:=hx
   obtain⟨h1,h2,h3⟩:=h.dlive hd;refine⟨?_,?_,?_⟩
   .show Zr r.conf r.data_.who=true
    rw[hf.conf,hf.data];exact h1
   .show 1<=r.data_.by_/\r.data_.by_<=3
    rw[hf.data];exact h2
   .show atI r.splits r.data_.who=0
    rw[hf.splits,hf.data];exact h3
  .have Yj:Zr b.conf i=true:=by rw[<-show r.conf=b.conf from hf.conf];exact hi
   show (atI r.m i).beat - (atI r.m i).done=Kp {r with addr:=Zf.z0} i;have Q9:=h.fly i Yj;unfold Kp at Q9 ⊢;simp only[hf.data];rw[(hsm i Yj).2.1,hat i Yj];by_cases e:i=b.addr.who
   .subst e
    rw[ZZj rfl,hbt];rw[ZZj ⟨ha,rfl⟩] at Q9;simp only[ZZf,false_and,if_false];omega
   .rw[ZZi e]
    rw[ZZi (λhx=>e hx.2.symm)] at Q9;simp only[ZZf,false_and,if_false];exact Q9
  .unfold Km
   simp
  .unfold Qz
   show if r.data_.live=true then _ else _
   simp only[hf.data,hf.conf,hf.holder];rw[ZZj hd];have e:=hsm _ (Qs h hd);rw[e.2.1,e.2.2.1,e.2.2.2.1];exact⟨Zaw.1,Zaw.2.1,Zaw.2.2.1,λ_=>⟨hl,hr,trivial⟩⟩
  .refine Yiz (b:=b) h.held hf.conf hf.holder hf.held (λi hi=>⟨Zqt (hsm i hi).1 (hsm i hi).2.2.2.2,λhx=>?_⟩) (λ_ hx=>by show atI r.splits b.holder=0;rw[hf.splits];exact hx)
   show (atI b.m i).beat > 0;have hx':(atI r.m i).beat > 0:=hx;rw[hat i hi] at hx';split at hx'
   .rename_i e;subst e;rw[hbt] at hx';omega
   .exact hx'
  .show (∀d∈r.log,Z36 r.conf n d)/\r.log.Pairwise _
   rw[hf.log,hf.conf];exact h.log
 .rw[ZZi ha]
  refine⟨h.conf,h.ml,h.bl,h.sl,λi hi=>?_,h.arb,h.last,h.model,h.alive,λ_=>h.dlive hd,λi hi=>?_,h.addr,?_,h.held,h.log⟩
  .have hm:=h.mst i hi;exact⟨hm.right,hm.tries,hm.bucket,hm.split⟩
  .have:=h.fly i hi
   unfold Kp at this ⊢;exact this
  .unfold Qz
   simp only;rw[ZZj hd];exact⟨Zaw.1,Zaw.2.1,Zaw.2.2.1,λ_=>⟨hl,hr,by simpa using ha⟩⟩
theorem Ydy {n:Int} {b:Za} (h:Yw n b) (hd:b.data_.live=true) (ha:b.addr.live=false) (x:Zd) (sp:List Int) (hq:x.queue=(atI b.m b.data_.who).queue) (hbe:x.beat=(atI b.m b.data_.who).beat) (hdo:x.done=(atI b.m b.data_.who).done) (hbr:x.broken=(atI b.m b.data_.who).broken)
  (ht:0<=x.tries/\x.tries<=b.conf.maxRetry) (hsl:sp.length=b.splits.length) (hsp:∀i,Zr b.conf i=true->0<=atI sp i/\atI sp i<=b.conf.maxSplit) (hsh:b.holder≠-1->atI b.splits b.holder=0->atI sp b.holder=0):
  Yw n (Wc {b with data_:=Zf.z0,m:=b.m.set b.data_.who.toNat x,splits:=sp} b.data_):=by
 have hw:=Qs h hd;have hb:=X5 hw;have hf:=Z54 (b:={b with data_:=Zf.z0,m:=b.m.set b.data_.who.toNat x,splits:=sp}) (x:=b.data_) h.conf hw h.bl (λi hi=>(h.mst i hi).bucket) h.arb;generalize Wc {b with data_:=Zf.z0,m:=b.m.set b.data_.who.toNat x,splits:=sp} b.data_=r at hf;have hmw:=(h.mst _ hw).right;have hp:=Zta h hd;have Yf:(atI b.m b.data_.who).queue≠[]:=Zgu hmw (by omega);have hxr:Yq x:=by
  have h2:=hmw.some Yf;refine⟨by rw[hq];exact hmw.len,ht.1,by rw[hq];exact hmw.reqs,λhx=>absurd (by rw[<-hq];exact hx) Yf,λ_=>?_⟩;have:Zy x=Zy (atI b.m b.data_.who):=by unfold Zy;rw[hq]
  rw[this,hbe,hdo];exact h2
 have hxx:atI (b.m.set b.data_.who.toNat x) b.data_.who=x:=Zo6 x hb.1 (by have:=h.ml;omega);have hat:∀i,Zr b.conf i=true->atI r.m i=if i=b.data_.who then Zbj x else atI b.m i:=λi hi=>by
  have Yj:=X5 hi;rw[hf.m];show atI ((b.m.set b.data_.who.toNat x).set b.data_.who.toNat (Zbj (atI (b.m.set b.data_.who.toNat x) b.data_.who))) i=_;rw[hxx,Vek];exact h.at_m hw _ hi
 have hs:=Yiv x;have hbt:(Zbj x).beat=(atI b.m b.data_.who).beat - 1:=by
  unfold Zbj;rw[ZZi (by rw[hbe,hdo];omega)];simp only[hbe]
 have hbz:Zf.z0.live=false:=rfl;refine⟨by rw[hf.conf];exact h.conf,?_,?_,?_,λi hi=>?_,?_,?_,?_,λhx=>?_,λhx=>?_,λi hi=>?_,?_,?_,?_,?_⟩
 .rw[hf.m,hf.conf];simp[h.ml]
 .rw[hf.bl,hf.conf]
 .rw[hf.splits,hf.conf];show sp.length=_;rw[hsl];exact h.sl
 .have Yj:Zr b.conf i=true:=by rw[<-show r.conf=b.conf from hf.conf];exact hi
  have hm:=h.mst i Yj;refine⟨?_,?_,?_,?_⟩
  .rw[hat i Yj]
   split
   .exact Yd1 hxr
   .exact hm.right
  .rw[hat i Yj,hf.conf]
   split
   .rw[hs.2.2.1];exact ht.2
   .exact hm.tries
  .rw[hf.conf];exact hf.bk i Yj
  .rw[hf.splits,hf.conf];exact hsp i Yj
 .rw[hf.conf];exact hf.arb
 .rw[hf.last,hf.conf];exact h.last
 .rw[hf.model];exact h.model
 .rw[hf.addr] at hx;rw[show ({b with data_:=Zf.z0,m:=b.m.set b.data_.who.toNat x,splits:=sp}:Za).addr=b.addr from rfl,ha] at hx;cases hx
 .rw[hf.data] at hx;cases hx
 .have Yj:Zr b.conf i=true:=by rw[<-show r.conf=b.conf from hf.conf];exact hi
  have Q9:=h.fly i Yj;unfold Kp at Q9 ⊢;rw[hf.data,hf.addr,hat i Yj];show _=(if b.addr.live=true/\b.addr.who=i then (1:Int) else 0)+(if Zf.z0.live=true/\Zf.z0.who=i then 1 else 0);rw[ha] at Q9 ⊢;simp only[ZZf,false_and,if_false] at Q9 ⊢;by_cases e:i=b.data_.who
  .subst e
   rw[ZZj rfl,hbt,hs.2.1,hdo];rw[ZZj (⟨hd,rfl⟩:b.data_.live=true/\b.data_.who=b.data_.who)] at Q9;omega
  .rw[ZZi e]
   rw[ZZi (λhx=>e hx.2.symm)] at Q9;exact Q9
 .have:=h.addr
  unfold Km at this ⊢;rw[hf.addr];show if b.addr.live=true then _ else _
  rw[ha] at this ⊢;exact this
 .unfold Qz
  rw[hf.data];show if Zf.z0.live=true then _ else _
  rw[ZZi (by simp)]
 .refine Yiz (b:=b) h.held hf.conf hf.holder hf.held (λi hi=>?_) (λh1 h2=>by rw[hf.splits];exact hsh h1 h2)
  rw[hat i hi];split
  .rename_i e;subst e
   refine⟨Zqt (by rw[hs.1,hq]) (by rw[hs.2.2.2.2,hbr]),λhx=>?_⟩;rw[hbt] at hx;omega
  .exact⟨rfl,id⟩
 .rw[hf.log,hf.conf];exact h.log
theorem Z6n {m:Zd} (h:Yq m) (hp:m.beat - m.done≥1):(m.done+1=Zy m->m.beat - m.done=1/\(K2 m).queue=m.queue.tail/\(K2 m).beat=0/\(K2 m).done=0/\(K2 m).tries=0)/\
  (m.done+1≠Zy m->(K2 m).queue=m.queue/\(K2 m).beat=m.beat/\(K2 m).done=m.done+1/\(K2 m).tries=0/\(K2 m).broken=m.broken/\(K2 m).parted=false):=by
 have h1:=h.some (Zgu h (by omega));unfold K2;constructor
 .intro e
  rw[ZZi (by omega),ZZj e];exact⟨by omega,rfl,rfl,rfl,rfl⟩
 .intro e
  rw[ZZi (by omega),ZZi e];exact⟨rfl,rfl,rfl,rfl,rfl,rfl⟩
theorem Yi0 {m:Zd} {k:Int} (h:Yq m) (h0:0<=k) (h1:k < Zy m) (hw:(atI m.queue 0).write=true):0<=k/\k < ((atI m.queue 0).data_.length:Int):=by
 have hq:m.queue≠[]:=by
  intro hq;unfold Zy at h1;rw[ZZj hq] at h1;omega
 obtain⟨h2,h3,h4⟩:=Zty h hq;have h5:=(Zib h2).2.1;rw[ZZj hw] at h5;omega
theorem Z6i {n:Int} {b:Za} (h:Yw n b) (hd:b.data_.live=true):0<=b.data_.beat/\b.data_.beat < Zy (atI b.m b.data_.who):=by
 have hw:=Qs h hd;have hp:=Zta h hd;have hr:=(h.mst _ hw).right;have h1:=hr.some (Zgu hr (by omega));have h2:=h.data;unfold Qz at h2;rw[ZZj hd] at h2;rw[h2.1.1];omega
theorem Z51 {n:Int} {b:Za} (h:Yw n b) (hl:b.addr.live=true):0<=b.addr.beat/\b.addr.beat < Zy (atI b.m b.addr.who):=by
 have hw:=Za3 h hl;have hp:=Ysg h hl;have hr:=(h.mst _ hw).right;have h1:=hr.some (Zgu hr (by omega));have h2:=h.addr;unfold Km at h2;rw[ZZj hl] at h2;rw[h2.1];omega
theorem Yqw {b:Za} (hn:0<=b.now) (h:Yw b.now b) (hd:b.data_.live=true) (hr:b.data_.resp=0\/b.data_.resp=1) (Z15:b.data_.resp≠0->b.addr.live=false):Yw (b.now+1) (Zfs {b with data_:=Zf.z0} b.data_):=by
 have hw:=Qs h hd;have hb:=X5 hw;have hmw:=(h.mst _ hw).right;have hp:=Zta h hd;have Yf:(atI b.m b.data_.who).queue≠[]:=Zgu hmw (by omega);have hbt:=Z6i h hd;have had:=Ymy hmw hbt.1 hbt.2;have Zaw:=h.data;unfold Qz at Zaw;rw[ZZj hd] at Zaw;have Yv3:=Ydi (w:=(atI (atI b.m b.data_.who).queue 0).write) (v:=Zqj (atI b.m b.data_.who) b.data_.beat) h.model had.2.1;have hef:=Z6n hmw hp;have hat:∀i,Zr b.conf i=true->atI (b.m.set b.data_.who.toNat (K2 (atI b.m b.data_.who))) i=if i=b.data_.who then K2 (atI b.m b.data_.who) else atI b.m i:=λi hi=>h.at_m hw _ hi
 have Y09:(atI b.m b.data_.who).done+1=Zy (atI b.m b.data_.who)->b.addr.live=true->b.addr.who≠b.data_.who:=by
  intro e hl e2;have h1:=(hef.1 e).1;have h2:=h.fly _ hw;unfold Kp at h2;rw[ZZj (⟨hl,e2⟩:b.addr.live=true/\b.addr.who=b.data_.who),ZZj (⟨hd,rfl⟩:b.data_.live=true/\b.data_.who=b.data_.who)] at h2;omega
 have hz:Xm 0 (atI (atI b.m b.data_.who).queue 0).size=true:=by
  have h1:=(Zqe _).1 (Zbn had.2.1).1;generalize (atI (atI b.m b.data_.who).queue 0).size=s at h1;have:s=0\/s=1\/s=2:=by omega
  rcases this with rfl|rfl|rfl<;>decide
 refine⟨h.conf,?_,h.bl,h.sl,λi hi=>?_,h.arb,h.last,?_,h.alive,(λhx=>by cases hx),λi hi=>?_,?_,?_,?_,?_⟩
 .show (b.m.set b.data_.who.toNat (K2 (atI b.m b.data_.who))).length=_
  rw[Vbh];exact h.ml
 .have Yj:Zr b.conf i=true:=hi
  have hm:=h.mst i Yj;refine⟨?_,?_,hm.bucket,hm.split⟩
  .show Yq (atI (b.m.set b.data_.who.toNat (K2 (atI b.m b.data_.who))) i)
   rw[hat i Yj];split
   .exact Yyl hmw
   .exact hm.right
  .show (atI (b.m.set b.data_.who.toNat (K2 (atI b.m b.data_.who))) i).tries<=b.conf.maxRetry
   rw[hat i Yj];split
   .have hl:=(Wz h.conf).1
    by_cases e:(atI b.m b.data_.who).done+1=Zy (atI b.m b.data_.who)
    .rw[(hef.1 e).2.2.2.2];omega
    .rw[(hef.2 e).2.2.2.1];omega
   .exact hm.tries
 .show Zdj (if b.data_.resp=0 then (doG {b with data_:=Zf.z0} b.data_).1 else b.model)
  split
  .exact Yv3.1
  .exact h.model
 .have Yj:Zr b.conf i=true:=hi
  have Q9:=h.fly i Yj;show (atI (b.m.set b.data_.who.toNat (K2 (atI b.m b.data_.who))) i).beat - (atI (b.m.set b.data_.who.toNat (K2 (atI b.m b.data_.who))) i).done=Kp (Zfs {b with data_:=Zf.z0} b.data_) i;unfold Kp at Q9 ⊢;show _=(if b.addr.live=true/\b.addr.who=i then (1:Int) else 0)+(if Zf.z0.live=true/\Zf.z0.who=i then 1 else 0);rw[hat i Yj];simp only[ZZf,false_and,if_false];by_cases e:i=b.data_.who
  .subst e
   rw[ZZj rfl];rw[ZZj (⟨hd,rfl⟩:b.data_.live=true/\b.data_.who=b.data_.who)] at Q9;by_cases e2:(atI b.m b.data_.who).done+1=Zy (atI b.m b.data_.who)
   .rw[(hef.1 e2).2.2.1,(hef.1 e2).2.2.2.1,ZZi (λhx=>Y09 e2 hx.1 hx.2)]
    rfl
   .rw[(hef.2 e2).2.1,(hef.2 e2).2.2.1]
    omega
  .rw[ZZi e]
   rw[ZZi (λhx:b.data_.live=true/\b.data_.who=i=>e hx.2.symm)] at Q9;omega
 .have hA:=h.addr
  unfold Km at hA ⊢;show if b.addr.live=true then _ else _
  by_cases hl:b.addr.live=true
  .rw[ZZj hl] at hA ⊢
   show b.addr.beat=(atI (b.m.set b.data_.who.toNat (K2 (atI b.m b.data_.who))) b.addr.who).beat - 1/\_;rw[hat _ (Za3 h hl)];split
   .rename_i e
    have e2:¬(atI b.m b.data_.who).done+1=Zy (atI b.m b.data_.who):=λe2=>Y09 e2 hl e;rw[(hef.2 e2).2.1,<-e];exact hA
   .exact hA
  .rw[ZZi hl] at hA ⊢;exact hA
 .unfold Qz
  show if Zf.z0.live=true then _ else _
  rw[ZZi (by simp)];rfl
 .obtain⟨h1,h2⟩:=h.held
  show Ziy (Zfs {b with data_:=Zf.z0} b.data_);unfold Ziy;show (∀i,Zr b.conf i=true->(atI (b.m.set b.data_.who.toNat (K2 (atI b.m b.data_.who))) i).beat > 0->Yi (atI (b.m.set b.data_.who.toNat (K2 (atI b.m b.data_.who))) i)=true->(if b.holder=b.data_.who/\(atI b.m b.data_.who).done+1=Zy (atI b.m b.data_.who) then -1 else b.holder)=i)/\
   (if (if b.holder=b.data_.who/\(atI b.m b.data_.who).done+1=Zy (atI b.m b.data_.who) then -1 else b.holder)=-1 then (if b.holder=b.data_.who/\(atI b.m b.data_.who).done+1=Zy (atI b.m b.data_.who) then 0 else b.held)=0 else Zr b.conf (if b.holder=b.data_.who/\(atI b.m b.data_.who).done+1=Zy (atI b.m b.data_.who) then -1 else b.holder)=true/\Yi (atI (b.m.set b.data_.who.toNat (K2 (atI b.m b.data_.who))) (if b.holder=b.data_.who/\(atI b.m b.data_.who).done+1=Zy (atI b.m b.data_.who) then -1 else b.holder))=true/\atI b.splits (if b.holder=b.data_.who/\(atI b.m b.data_.who).done+1=Zy (atI b.m b.data_.who) then -1 else b.holder)=0/\(0<=(if b.holder=b.data_.who/\(atI b.m b.data_.who).done+1=Zy (atI b.m b.data_.who) then 0 else b.held)/\(if b.holder=b.data_.who/\(atI b.m b.data_.who).done+1=Zy (atI b.m b.data_.who) then 0 else b.held)<=b.conf.lockMost))
  have Zh6:∀i,Zr b.conf i=true->(atI (b.m.set b.data_.who.toNat (K2 (atI b.m b.data_.who))) i).beat > 0->Yi (atI (b.m.set b.data_.who.toNat (K2 (atI b.m b.data_.who))) i)=true->b.holder=i/\¬(i=b.data_.who/\(atI b.m b.data_.who).done+1=Zy (atI b.m b.data_.who)):=by
   intro i hi hx hk;rw[hat i hi] at hx hk;by_cases e:i=b.data_.who
   .rw[ZZj e] at hx hk
    by_cases e2:(atI b.m b.data_.who).done+1=Zy (atI b.m b.data_.who)
    .rw[(hef.1 e2).2.2.1] at hx;omega
    .have e3:=hef.2 e2
     rw[e3.2.1] at hx;rw[Zqt e3.1 e3.2.2.2.2.1] at hk;subst e;exact⟨h1 _ hi hx hk,λhy=>e2 hy.2⟩
   .rw[ZZi e] at hx hk
    exact⟨h1 i hi hx hk,λhy=>e hy.1⟩
  by_cases e:b.holder=b.data_.who/\(atI b.m b.data_.who).done+1=Zy (atI b.m b.data_.who)
  .simp only[ZZj e,if_true]
   refine⟨λi hi hx hk=>?_,trivial⟩;have:=Zh6 i hi hx hk;exact absurd ⟨by rw[<-this.1];exact e.1,e.2⟩ this.2
  .simp only[ZZi e]
   refine⟨λi hi hx hk=>(Zh6 i hi hx hk).1,?_⟩;split
   .rename_i e2;rw[ZZj e2] at h2;exact h2
   .rename_i e2
    rw[ZZi e2] at h2;refine⟨h2.1,?_,h2.2.2.1,h2.2.2.2⟩;rw[hat _ h2.1];split
    .rename_i e3
     have e4:¬(atI b.m b.data_.who).done+1=Zy (atI b.m b.data_.who):=λe4=>e ⟨e3,e4⟩;rw[Zqt (hef.2 e4).1 (hef.2 e4).2.2.2.2.1,<-e3];exact h2.2.1
    .exact h2.2.1
 .show (∀d∈b.log++[Yen {b with data_:=Zf.z0} b.data_],Z36 b.conf (b.now+1) d)/\(b.log++[Yen {b with data_:=Zf.z0} b.data_]).Pairwise _
  refine⟨λd hx=>?_,?_⟩
  .rcases Vat.1 hx with hx|hx
   .have:=h.log.1 d hx
    exact⟨⟨this.1.1,by have:=this.1.2;omega⟩,this.2⟩
   .rw[List.mem_singleton.1 hx]
    refine⟨⟨hn,by show b.now < b.now+1;omega⟩,hw,had.2.1,had.2.2.2,?_,hr⟩;show Xm (if b.data_.resp=0 then (doG {b with data_:=Zf.z0} b.data_).2.1 else 0) (atI (atI b.m b.data_.who).queue 0).size=true;split
    .exact Yv3.2.1
    .exact hz
  .rw[List.pairwise_append]
   refine⟨h.log.2,List.pairwise_singleton _ _,λx hx y hy=>?_⟩;rw[List.mem_singleton.1 hy];exact (h.log.1 x hx).1.2
theorem Yzt {c:Zh} (h:Y6 c=true) (s:Zg) (k:Int):1<=Zhn c s k/\Zhn c s k<=c.maxSplit:=by
 have:=(Wz h).2.2.2;unfold Zhn;omega
theorem Z6d {b:Za} (s:Zg) (hn:0<=b.now) (h:Yw b.now b):Yw (b.now+1) (Ya b s).1/\((Ya b s).2.1=true->(Ya b s).1.data_=Zf.z0):=by
 unfold Ya;by_cases hd:b.data_.live=false
 .rw[ZZj hd]
  refine⟨h.mono,λ_=>?_⟩;have:=h.data;unfold Qz at this;rw[ZZi (by simp[hd])] at this;exact this
 .have hd':b.data_.live=true:=by simpa using hd
  have Zaw:=h.data;unfold Qz at Zaw;rw[ZZj hd'] at Zaw;rw[ZZi hd];by_cases hl:b.data_.left > 0
  .rw[ZZj hl]
   exact⟨(Yt6 h hd' hl).mono,λhx=>by cases hx⟩
  .have hl0:b.data_.left=0:=by have:=Zaw.1.2.1;omega
   rw[ZZi hl];by_cases h2:b.data_.resp≠0/\b.data_.second=false
   .rw[ZZj h2]
    exact⟨(Yve h hd' hl0 h2.1).mono,λhx=>by cases hx⟩
   .rw[ZZi h2]
    have Z15:b.data_.resp≠0->b.addr.live=false:=λhr=>by
     have:b.data_.second=true:=by
      cases hs:b.data_.second with
      | true=>rfl
      | false=>exact absurd ⟨hr,hs⟩ h2
     exact (Zaw.2.2.2 this).2.2
    have hw:=Qs h hd';have hm:=h.mst _ hw;by_cases h3:b.data_.resp=2
    .rw[ZZj h3]
     refine⟨?_,λ_=>?_⟩
     .refine (Ydy h hd' (Z15 (by omega)) {atI b.m b.data_.who with tries:=(atI b.m b.data_.who).tries+1} b.splits rfl rfl rfl rfl ⟨?_,?_⟩ rfl (λi hi=>(h.mst i hi).split) λ_ h=>h).mono
      .have:=hm.right.tries;show 0<=(atI b.m b.data_.who).tries+1;omega
      .have:=Zaw.2.1 h3;show (atI b.m b.data_.who).tries+1<=_;omega
     .unfold Wc;split
      .rfl
      .split<;>rfl
    .rw[ZZi h3]
     by_cases h4:b.data_.resp=3
     .rw[ZZj h4]
      have hsp:=Yzt h.conf s b.picks;refine⟨?_,λ_=>?_⟩
      .refine (Ydy h hd' (Z15 (by omega)) {atI b.m b.data_.who with parted:=true} (b.splits.set b.data_.who.toNat (Zhn b.conf s b.picks)) rfl rfl rfl rfl ⟨hm.right.tries,hm.tries⟩ (by simp) (λi hi=>?_) λh5 h6=>?_).mono
       .have hb:=X5 hw
        rw[Z7s _ hb.1 (by have:=h.sl;omega) (X5 hi).1];split
        .omega
        .exact (h.mst i hi).split
       .have hb:=X5 hw
        have hh:Zr b.conf b.holder=true:=by
         have:=h.held.2;rw[ZZi h5] at this;exact this.1
        rw[Z7s _ hb.1 (by have:=h.sl;omega) (X5 hh).1,ZZi (λe=>(Zaw.2.2.1 h4).2 e.symm)];exact h6
      .unfold Wc;split
       .rfl
       .split<;>rfl
     .rw[ZZi h4]
      exact⟨Yqw hn h hd' (by have:=Zaw.1.2.2;omega) Z15,λ_=>rfl⟩
theorem Zen {n:Int} {b:Za} (h:Yw n b) (e:b.holder≠-1):Zr b.conf b.holder=true/\Yi (atI b.m b.holder)=true/\atI b.splits b.holder=0/\(0<=b.held/\b.held<=b.conf.lockMost):=by
 have:=h.held.2;rw[ZZi e] at this;exact this
theorem Ycl {n:Int} {b:Za} (h:Yw n b):Yw n (Y7 b):=by
 unfold Y7;split
 .rename_i hx
  obtain⟨hw,hlk,_,_⟩:=Zen h hx.1;have hb:=X5 hw;have hat:∀i,Zr b.conf i=true->atI (b.m.set b.holder.toNat {atI b.m b.holder with broken:=true}) i=if i=b.holder then {atI b.m b.holder with broken:=true} else atI b.m i:=λi hi=>h.at_m hw _ hi
  have hsm:∀i,Zr b.conf i=true->(atI (b.m.set b.holder.toNat {atI b.m b.holder with broken:=true}) i).beat=(atI b.m i).beat/\(atI (b.m.set b.holder.toNat {atI b.m b.holder with broken:=true}) i).done=(atI b.m i).done/\(atI (b.m.set b.holder.toNat {atI b.m b.holder with broken:=true}) i).tries=(atI b.m i).tries/\(atI (b.m.set b.holder.toNat {atI b.m b.holder with broken:=true}) i).parted=(atI b.m i).parted:=by
   intro i hi;rw[hat i hi];split
   .rename_i e;subst e;exact⟨rfl,rfl,rfl,rfl⟩
   .exact⟨rfl,rfl,rfl,rfl⟩
  refine⟨h.conf,?_,h.bl,h.sl,λi hi=>?_,h.arb,h.last,h.model,h.alive,h.dlive,λi hi=>?_,?_,?_,?_,h.log⟩
  .show (b.m.set b.holder.toNat _).length=_
   rw[Vbh];exact h.ml
  .have Yj:Zr b.conf i=true:=hi
   have hm:=h.mst i Yj;refine⟨?_,?_,hm.bucket,hm.split⟩
   .show Yq (atI (b.m.set b.holder.toNat {atI b.m b.holder with broken:=true}) i)
    rw[hat i Yj];split
    .have hr:=(h.mst _ hw).right
     exact⟨hr.len,hr.tries,hr.reqs,λhq=>absurd (show (atI b.m b.holder).queue=[] from hq) (Ynx hlk),hr.some⟩
    .exact hm.right
   .show (atI (b.m.set b.holder.toNat {atI b.m b.holder with broken:=true}) i).tries<=b.conf.maxRetry
    rw[(hsm i Yj).2.2.1];exact hm.tries
  .have Yj:Zr b.conf i=true:=hi
   show (atI (b.m.set b.holder.toNat {atI b.m b.holder with broken:=true}) i).beat - (atI (b.m.set b.holder.toNat {atI b.m b.holder with broken:=true}) i).done=Kp b i;rw[(hsm i Yj).1,(hsm i Yj).2.1];exact h.fly i Yj
  .have:=h.addr
   unfold Km at this ⊢;show if b.addr.live=true then b.addr.beat=(atI (b.m.set b.holder.toNat {atI b.m b.holder with broken:=true}) b.addr.who).beat - 1/\_ else _
   by_cases hl:b.addr.live=true
   .rw[ZZj hl] at this ⊢
    rw[(hsm _ (Za3 h hl)).1];exact this
   .rw[ZZi hl] at this ⊢;exact this
  .have:=h.data
   unfold Qz at this ⊢;show if b.data_.live=true then _ else _
   by_cases hl:b.data_.live=true
   .rw[ZZj hl] at this ⊢
    have e:=hsm _ (Qs h hl);show (b.data_.beat=(atI (b.m.set b.holder.toNat {atI b.m b.holder with broken:=true}) b.data_.who).done/\_)/\(_->(atI (b.m.set b.holder.toNat {atI b.m b.holder with broken:=true}) b.data_.who).tries < _)/\(_->(atI (b.m.set b.holder.toNat {atI b.m b.holder with broken:=true}) b.data_.who).parted=false/\b.data_.who≠-1)/\_;rw[e.2.1,e.2.2.1,e.2.2.2];exact⟨this.1,this.2.1,λh3=>⟨(this.2.2.1 h3).1,by have:=X5 (Qs h hl);omega⟩,this.2.2.2⟩
   .rw[ZZi hl] at this ⊢;exact this
  .refine⟨λi hi hx2 hk=>?_,?_⟩
   .have Yj:Zr b.conf i=true:=hi
    have hx3:(atI (b.m.set b.holder.toNat {atI b.m b.holder with broken:=true}) i).beat > 0:=hx2;have hk3:Yi (atI (b.m.set b.holder.toNat {atI b.m b.holder with broken:=true}) i)=true:=hk;rw[hat i Yj] at hx3 hk3;split at hk3
    .simp[Yi] at hk3
    .rename_i e
     rw[ZZi e] at hx3;exact absurd (h.held.1 i Yj hx3 hk3).symm e
   .show if (-1:Int)=-1 then (0:Int)=0 else _
    rw[ZZj rfl]
 .exact h
theorem Zwj (b:Za):(Y7 b).data_=b.data_/\(Y7 b).addr=b.addr/\(Y7 b).picks=b.picks/\(Y7 b).now=b.now/\(Y7 b).conf=b.conf/\(Y7 b).log=b.log/\(Y7 b).model=b.model:=by
 unfold Y7;split<;>exact⟨rfl,rfl,rfl,rfl,rfl,rfl,rfl⟩
theorem Yhk {c:Zh} (h:Y6 c=true) (s:Zg) (k:Int):0<=Zpt c s k/\Zpt c s k<=c.maxWait:=by
 have:=(Wz h).2.1;unfold Zpt;omega
theorem Yxk {n:Int} {b:Za} (h:Yw n b) (s:Zg) (hl:b.addr.live=true):(0<=(Zda b s b.addr).2/\(Zda b s b.addr).2<=b.conf.maxWait+2)/\(0<=(Zda b s b.addr).1/\(Zda b s b.addr).1<=3)/\
  ((Zda b s b.addr).1=2->(atI b.m b.addr.who).tries < b.conf.maxRetry)/\((Zda b s b.addr).1=3->(atI b.m b.addr.who).parted=false/\b.addr.who≠b.holder):=by
 have hw:=Za3 h hl;have hm:=(h.mst _ hw).right;have hbt:=Z51 h hl;have had:=Ymy hm hbt.1 hbt.2;have Yv3:=(Ydi (w:=(atI (atI b.m b.addr.who).queue 0).write) (v:=Zqj (atI b.m b.addr.who) b.addr.beat) h.model had.2.1).2.2;have hwt:=Yhk h.conf s b.picks;have hlm:=(Wz h.conf).2.1;have hdo:(doG b b.addr).2.2=0\/(doG b b.addr).2.2=1:=Yv3;unfold Zda;split
 .exact⟨by simp;omega,by simp,by simp,by simp⟩
 .refine⟨?_,?_,?_,?_⟩
  .simp only
   split<;>omega
  .simp only
   repeat' split
   all_goals omega
  .simp only
   split
   .rename_i h1;exactλ_=>h1.2.2
   .split
    .intro h2;omega
    .intro h2;omega
  .simp only
   split
   .intro h2;omega
   .split
    .rename_i h1;exactλ_=>h1.2.2
    .intro h2;omega
theorem Yby {n:Int} {b:Za} (h:Yw n b) (s:Zg) (hd:b.data_=Zf.z0):Yw n (Qt b s)/\(Qt b s).addr=Zf.z0:=by
 unfold Qt;by_cases hl:b.addr.live=true
 .rw[ZZj hl]
  refine⟨?_,rfl⟩;have hw:=Za3 h hl;have ha:=Yxk h s hl;have hA:=h.addr;unfold Km at hA;rw[ZZj hl] at hA;have hdl:b.data_.live=false:=by rw[hd]
  have Yf0:(atI b.m b.addr.who).beat - (atI b.m b.addr.who).done=1:=by
   rw[h.fly _ hw];unfold Kp;rw[ZZj ⟨hl,rfl⟩,hdl];simp
  refine⟨h.conf,h.ml,h.bl,h.sl,λi hi=>?_,h.arb,h.last,h.model,(λhx=>by cases hx),λ_=>h.alive hl,λi hi=>?_,?_,?_,h.held,h.log⟩
  .have hm:=h.mst i hi;exact⟨hm.right,hm.tries,hm.bucket,hm.split⟩
  .have Q9:=h.fly i hi
   rw[Q9];unfold Kp;simp only[hdl,hl,ZZf,false_and,if_false,true_and];omega
  .unfold Km
   simp
  .unfold Qz
   show if b.addr.live=true then _ else _
   rw[ZZj hl];refine⟨⟨by show b.addr.beat=_;rw[hA.1];show (atI b.m b.addr.who).beat - 1=(atI b.m b.addr.who).done;omega,ha.1,ha.2.1⟩,ha.2.2.1,ha.2.2.2,λhs=>?_⟩;have:b.addr.second=true:=hs;rw[hA.2.2.2] at this;cases this
 .rw[ZZi hl]
  refine⟨h,?_⟩;have hA:=h.addr;unfold Km at hA;rw[ZZi hl] at hA;exact hA
theorem Z3o (b:Za) (s:Zg):(Qt b s).now=b.now/\(Qt b s).conf=b.conf/\(Qt b s).log=b.log/\(Qt b s).model=b.model/\(Qt b s).m=b.m/\(Qt b s).splits=b.splits/\(Qt b s).holder=b.holder/\b.picks<=(Qt b s).picks/\(Qt b s).picks<=b.picks+1:=by
 unfold Qt;split
 .exact⟨rfl,rfl,rfl,rfl,rfl,rfl,rfl,by show b.picks<=b.picks+1;omega,Vcj _⟩
 .exact⟨rfl,rfl,rfl,rfl,rfl,rfl,rfl,Vcj _,by omega⟩
theorem Zds (b:Za):(Qr b).length=b.m.length:=by simp[Qr]
theorem Zu6 {n:Int} {b:Za} (h:Yw n b) {i:Int} (hi:Zr b.conf i=true):atI (Qr b) i=Kh b i:=by
 obtain⟨k,rfl,hk⟩:=Z20 hi;have:=h.ml;rw[Wk (by rw[Zds];omega)];simp[Qr]
structure Picked (n:Int) (b:Za) (p:Int×Int×Za):Prop where
 ok:Yw n p.2.2
 who:p.1=-1\/(Zr b.conf p.1=true/\Kh b p.1=true/\(1<=p.2.1/\p.2.1<=3))
 conf:p.2.2.conf=b.conf
 m:p.2.2.m=b.m
 splits:p.2.2.splits=b.splits
 holder:p.2.2.holder=b.holder
 held:p.2.2.held=b.held
 addr:p.2.2.addr=b.addr
 data:p.2.2.data_=b.data_
 model:p.2.2.model=b.model
 log:p.2.2.log=b.log
 last:p.2.2.last=b.last
 now:p.2.2.now=b.now
 picks:p.2.2.picks=b.picks
theorem Zvh {n:Int} {b:Za} (h:Yw n b):Picked n b (Zac b):=by
 unfold Zac;split
 .rename_i hx
  exact⟨h,.inr ⟨(Zen h hx.1).1,hx.2,by simp⟩,rfl,rfl,rfl,rfl,rfl,rfl,rfl,rfl,rfl,rfl,rfl,rfl⟩
 .split
  .rename_i k hk
   have hk1:=List.find?_some hk;have hk2:=List.mem_of_find?_eq_some hk;rw[Vc7,h.ml] at hk2;simp only[Zat,ZZg] at hk1;have hm:=mas (c:=b.conf) hk2;have hmb:=X5 hm;refine⟨?_,.inr ⟨hm,hk1.1,by simp⟩,rfl,rfl,rfl,rfl,rfl,rfl,rfl,rfl,rfl,rfl,rfl,rfl⟩;refine⟨h.conf,h.ml,by show (b.buckets.set k _).length=_;rw[Vbh];exact h.bl,h.sl,λi hi=>?_,h.arb,h.last,h.model,h.alive,h.dlive,h.fly,h.addr,h.data,h.held,h.log⟩;have hmi:=h.mst i hi;refine⟨hmi.right,hmi.tries,?_,hmi.split⟩;show Yr (atI (b.buckets.set k (Zf6 (atI b.buckets (k:Int)) (atI b.conf.masters (k:Int))).1) i) (atI b.conf.masters i)=true;have e:=Z7s (xs:=b.buckets) (w:=(k:Int)) (Zf6 (atI b.buckets (k:Int)) (atI b.conf.masters (k:Int))).1 hmb.1 (by have:=h.bl;omega) (X5 hi).1;rw[Vcb] at e;rw[e];split
   .rename_i e2;subst e2;exact Y3n hmi.bucket (Zhi h.conf hi)
   .exact hmi.bucket
  .split
   .exact⟨h,.inl rfl,rfl,rfl,rfl,rfl,rfl,rfl,rfl,rfl,rfl,rfl,rfl,rfl⟩
   .have hp:=Yzb (wants:=Qr b) h.arb (by rw[Zds,h.ml])
    refine⟨⟨h.conf,h.ml,h.bl,h.sl,λi hi=>?_,hp.1,h.last,h.model,h.alive,h.dlive,h.fly,h.addr,h.data,h.held,h.log⟩,?_,rfl,rfl,rfl,rfl,rfl,rfl,rfl,rfl,rfl,rfl,rfl,rfl⟩
    .have hmi:=h.mst i hi;exact⟨hmi.right,hmi.tries,hmi.bucket,hmi.split⟩
    .rcases hp.2 with hp2|hp2
     .exact .inl hp2
     .exact .inr ⟨hp2.1,by rw[<-Zu6 h hp2.1];exact hp2.2,by simp⟩
theorem Ydb {b:Za} {i:Int} (h:Kh b i=true):(atI b.m i).beat < Zy (atI b.m i)/\atI b.splits i=0/\(b.holder=-1\/b.holder=i):=by
 simp only[Kh,Zo5,ZZg,Vb2,ZZl] at h;exact⟨h.1,h.2.1,h.2.2⟩
theorem Yui (m:Zd):(Xz m).queue=m.queue/\(Xz m).done=m.done/\(Xz m).tries=m.tries/\(Xz m).parted=m.parted/\(Xz m).broken=m.broken:=by
 unfold Xz;split<;>exact⟨rfl,rfl,rfl,rfl,rfl⟩
theorem Y3h {n:Int} {b:Za} (h:Yw n b) (ha:b.addr=Zf.z0) (Z15:b.data_.second=false) {who by_:Int} (hw:Zr b.conf who=true) (Yf1:Kh b who=true) (hby:1<=by_/\by_<=3):Yw n (Z5c b who by_):=by
 obtain⟨w1,w2,w3⟩:=Ydb Yf1;have hmw:=(h.mst _ hw).right;have hal:b.addr.live=false:=by rw[ha]
 have hfw:=h.fly _ hw;have hle:(atI b.m who).beat - (atI b.m who).done<=1:=by
  rw[hfw];unfold Kp;rw[hal];simp only[ZZf,false_and,if_false];split<;>omega
 have hbt:(Xz (atI b.m who)).beat=(atI b.m who).beat+1:=by
  unfold Xz;rw[ZZj ⟨w1,by omega⟩]
 have hs:=Yui (atI b.m who);have hat:∀i,Zr b.conf i=true->atI (b.m.set who.toNat (Xz (atI b.m who))) i=if i=who then Xz (atI b.m who) else atI b.m i:=λi hi=>h.at_m hw _ hi
 have hsm:∀i,Zr b.conf i=true->(atI (b.m.set who.toNat (Xz (atI b.m who))) i).queue=(atI b.m i).queue/\(atI (b.m.set who.toNat (Xz (atI b.m who))) i).done=(atI b.m i).done/\(atI (b.m.set who.toNat (Xz (atI b.m who))) i).tries=(atI b.m i).tries/\(atI (b.m.set who.toNat (Xz (atI b.m who))) i).parted=(atI b.m i).parted/\(atI (b.m.set who.toNat (Xz (atI b.m who))) i).broken=(atI b.m i).broken:=λi hi=>by
  rw[hat i hi];split
  .rename_i e;subst e;exact hs
  .exact⟨rfl,rfl,rfl,rfl,rfl⟩
 have hmb:=X5 hw;refine⟨h.conf,?_,h.bl,h.sl,λi hi=>?_,h.arb,.inr hw,h.model,λ_=>⟨hw,hby,w2⟩,h.dlive,λi hi=>?_,?_,?_,?_,h.log⟩
 .show (b.m.set who.toNat _).length=_
  rw[Vbh];exact h.ml
 .have Yj:Zr b.conf i=true:=hi
  have hm:=h.mst i Yj;refine⟨?_,?_,hm.bucket,hm.split⟩
  .show Yq (atI (b.m.set who.toNat (Xz (atI b.m who))) i)
   rw[hat i Yj];split
   .exact Ypb hmw
   .exact hm.right
  .show (atI (b.m.set who.toNat (Xz (atI b.m who))) i).tries<=_
   rw[(hsm i Yj).2.2.1];exact hm.tries
 .have Yj:Zr b.conf i=true:=hi
  have Q9:=h.fly i Yj;show (atI (b.m.set who.toNat (Xz (atI b.m who))) i).beat - (atI (b.m.set who.toNat (Xz (atI b.m who))) i).done=Kp (Z5c b who by_) i;rw[(hsm i Yj).2.1,hat i Yj];unfold Kp at Q9 ⊢;rw[hal] at Q9;simp only[ZZf,false_and,if_false] at Q9;show _=(if (true:Bool)=true/\who=i then (1:Int) else 0)+(if b.data_.live=true/\b.data_.who=i then 1 else 0);simp only[true_and];by_cases e:i=who
  .subst e
   rw[ZZj rfl,ZZj rfl,hbt];omega
  .rw[ZZi e,ZZi (λe2=>e e2.symm)];omega
 .unfold Km
  show if (true:Bool)=true then (atI b.m who).beat=(atI (b.m.set who.toNat (Xz (atI b.m who))) who).beat - 1/\_ else _
  rw[ZZj rfl,hat _ hw,ZZj rfl,hbt];exact⟨by omega,rfl,rfl,rfl⟩
 .have hD:=h.data
  unfold Qz at hD ⊢;show if b.data_.live=true then _ else _
  by_cases hl:b.data_.live=true
  .rw[ZZj hl] at hD ⊢
   have e:=hsm _ (Qs h hl);show (b.data_.beat=(atI (b.m.set who.toNat (Xz (atI b.m who))) b.data_.who).done/\_)/\(_->(atI (b.m.set who.toNat (Xz (atI b.m who))) b.data_.who).tries < _)/\(_->(atI (b.m.set who.toNat (Xz (atI b.m who))) b.data_.who).parted=false/\b.data_.who≠(if Yi (atI b.m who)=true/\b.holder=-1 then who else b.holder))/\_;rw[e.2.1,e.2.2.1,e.2.2.2.1];refine⟨hD.1,hD.2.1,λh3=>⟨(hD.2.2.1 h3).1,?_⟩,λh4=>?_⟩
   .split
    .rename_i e2
     intro e3;have hp:=Zta h hl;have hr:=Ja (h.mst _ (Qs h hl)).right;have:=h.held.1 _ (Qs h hl) (by omega) (by rw[e3];exact e2.1);omega
    .exact (hD.2.2.1 h3).2
   .have:b.data_.second=true:=h4
    rw[Z15] at this;cases this
  .rw[ZZi hl] at hD ⊢;exact hD
 .have hh:=h.held
  unfold Ziy at hh ⊢;show (∀i,Zr b.conf i=true->(atI (b.m.set who.toNat (Xz (atI b.m who))) i).beat > 0->Yi (atI (b.m.set who.toNat (Xz (atI b.m who))) i)=true->(if Yi (atI b.m who)=true/\b.holder=-1 then who else b.holder)=i)/\
   (if (if Yi (atI b.m who)=true/\b.holder=-1 then who else b.holder)=-1 then (if Yi (atI b.m who)=true/\b.holder=-1 then 0 else b.held)=0 else Zr b.conf (if Yi (atI b.m who)=true/\b.holder=-1 then who else b.holder)=true/\Yi (atI (b.m.set who.toNat (Xz (atI b.m who))) (if Yi (atI b.m who)=true/\b.holder=-1 then who else b.holder))=true/\atI b.splits (if Yi (atI b.m who)=true/\b.holder=-1 then who else b.holder)=0/\(0<=(if Yi (atI b.m who)=true/\b.holder=-1 then 0 else b.held)/\(if Yi (atI b.m who)=true/\b.holder=-1 then 0 else b.held)<=b.conf.lockMost))
  have hlk:∀i,Zr b.conf i=true->Yi (atI (b.m.set who.toNat (Xz (atI b.m who))) i)=Yi (atI b.m i):=λi hi=>Zqt (hsm i hi).1 (hsm i hi).2.2.2.2;have hlm:=(Wz h.conf).2.2.1;have Zh6:∀i,Zr b.conf i=true->i≠who->(atI (b.m.set who.toNat (Xz (atI b.m who))) i).beat > 0->Yi (atI b.m i)=true->False:=by
   intro i hi e hx hk;rw[hat i hi,ZZi e] at hx;have:=hh.1 i hi hx hk;have:=X5 hi;omega
  by_cases e:Yi (atI b.m who)=true/\b.holder=-1
  .simp only[ZZj e]
   refine⟨λi hi hx hk=>?_,?_⟩
   .by_cases e2:i=who
    .exact e2.symm
    .rw[hlk i hi] at hk
     exact (Zh6 i hi e2 hx hk).elim
   .rw[ZZi (by omega)]
    exact⟨hw,by rw[hlk _ hw];exact e.1,w2,by omega,by omega⟩
  .simp only[ZZi e]
   refine⟨λi hi hx hk=>?_,?_⟩
   .rw[hlk i hi] at hk
    by_cases e2:i=who
    .subst e2
     rcases w3 with w3|w3
     .exact absurd ⟨hk,w3⟩ e
     .exact w3
    .exact (Zh6 i hi e2 hx hk).elim
   .have h2:=hh.2
    split
    .rename_i e2;rw[ZZj e2] at h2;exact h2
    .rename_i e2
     rw[ZZi e2] at h2;exact⟨h2.1,by rw[hlk _ h2.1];exact h2.2.1,h2.2.2⟩
theorem Yyz {n:Int} {b:Za} (h:Yw n b) (ha:b.addr=Zf.z0) (Z15:b.data_.second=false):Yw n (K7 b).2:=by
 have hp:=Zvh h;unfold K7;split
 .exact hp.ok
 .rename_i hx
  rcases hp.who with h1|h1
  .exact absurd (show (Zac b).1 < 0 by rw[h1];decide) hx
  .refine Y3h hp.ok (by rw[hp.addr];exact ha) (by rw[hp.data];exact Z15) (by rw[hp.conf];exact h1.1) ?_ h1.2.2
   have:=h1.2.1;unfold Kh at this ⊢;rw[hp.m,hp.splits,hp.holder];exact this
theorem Z3u {n:Int} {b:Za} (h:Yw n b):(K7 b).2.now=b.now/\(K7 b).2.conf=b.conf/\(K7 b).2.log=b.log/\(K7 b).2.model=b.model/\(K7 b).2.picks=b.picks/\(K7 b).2.data_=b.data_:=by
 have hp:=Zvh h;unfold K7;split
 .exact⟨hp.now,hp.conf,hp.log,hp.model,hp.picks,hp.data⟩
 .exact⟨hp.now,hp.conf,hp.log,hp.model,hp.picks,hp.data⟩
theorem Yzs {n:Int} {b:Za} (h:Yw n b) (s:Zg) (hd:b.data_=Zf.z0):Yw n (Wr b s).2/\(Wr b s).2.now=b.now/\b.picks<=(Wr b s).2.picks/\(Wr b s).2.picks<=b.picks+1/\(Wr b s).2.conf=b.conf/\(Wr b s).2.log=b.log/\(Wr b s).2.model=b.model:=by
 have h1:=Ycl h;have e1:=Zwj b;have h2:=Yby h1 s (by rw[e1.1];exact hd);have e2:=Z3o (Y7 b) s;have Z15:(Qt (Y7 b) s).data_.second=false:=by
  unfold Qt;split
  .rename_i hl
   have hA:=h1.addr;unfold Km at hA;rw[ZZj hl] at hA;exact hA.2.2.2
  .rw[e1.1,hd]
 have h3:=Yyz h2.1 h2.2 Z15;have e3:=Z3u h2.1;unfold Wr;exact⟨h3,by rw[e3.1,e2.1,e1.2.2.2.1],by rw[e3.2.2.2.2.1,<-e1.2.2.1];exact e2.2.2.2.2.2.2.2.1,by rw[e3.2.2.2.2.1,<-e1.2.2.1];exact e2.2.2.2.2.2.2.2.2,by rw[e3.2.1,e2.2.1,e1.2.2.2.2.1],by rw[e3.2.2.1,e2.2.2.1,e1.2.2.2.2.2.1],by rw[e3.2.2.2.1,e2.2.2.2.1,e1.2.2.2.2.2.2]⟩
theorem Yx4 (b:Za):(Xc b).now=b.now/\(Xc b).conf=b.conf/\(Xc b).picks=b.picks/\(Xc b).log=b.log/\(Xc b).model=b.model/\(Xc b).m=b.m/\(Xc b).addr=b.addr/\(Xc b).data_=b.data_/\(Xc b).holder=b.holder:=⟨rfl,rfl,rfl,rfl,rfl,rfl,rfl,rfl,rfl⟩
theorem Ywz (b:Za):(Jl b).now=b.now/\(Jl b).conf=b.conf/\(Jl b).picks=b.picks/\(Jl b).log=b.log/\(Jl b).model=b.model/\(Jl b).m=b.m/\(Jl b).addr=b.addr/\(Jl b).data_=b.data_/\(Jl b).holder=b.holder:=by
 unfold Jl;split<;>exact⟨rfl,rfl,rfl,rfl,rfl,rfl,rfl,rfl,rfl⟩
theorem Z6y (b:Za) (s:Zg):(Kn b s).now=b.now/\(Kn b s).conf=b.conf/\(Kn b s).picks=b.picks/\(Kn b s).log=b.log/\(Kn b s).model=b.model/\(Kn b s).addr=b.addr/\(Kn b s).data_=b.data_/\(Kn b s).holder=b.holder:=by
 have h1:=Ywz (Xc (Xo b (Za7 s b.now)));have h2:=Yx4 (Xo b (Za7 s b.now));have h3:=Zl8 b (Za7 s b.now);unfold Kn;refine⟨?_,?_,?_,?_,?_,?_,?_,?_⟩
 .rw[h1.1,h2.1,h3.2.1]
 .rw[h1.2.1,h2.2.1,h3.1]
 .rw[h1.2.2.1,h2.2.2.1,h3.2.2.1]
 .rw[h1.2.2.2.1,h2.2.2.2.1,h3.2.2.2.1]
 .rw[h1.2.2.2.2.1,h2.2.2.2.2.1,h3.2.2.2.2.1]
 .rw[h1.2.2.2.2.2.2.1,h2.2.2.2.2.2.2.1,h3.2.2.2.2.2.2.2.1]
 .rw[h1.2.2.2.2.2.2.2.1,h2.2.2.2.2.2.2.2.1,h3.2.2.2.2.2.2.2.2.1]
 .rw[h1.2.2.2.2.2.2.2.2,h2.2.2.2.2.2.2.2.2,h3.2.2.2.2.2.1]
theorem Yhv {b:Za} (h:Zgr b) (s:Zg):Yw b.now (Kn b s):=Yuv (Z5d (Zrt h.i _))
theorem Zw5 (b:Za) (x:Zf):(Wc b x).now=b.now/\(Wc b x).picks=b.picks/\(Wc b x).conf=b.conf/\(Wc b x).log=b.log/\(Wc b x).model=b.model:=by
 unfold Wc;split
 .exact⟨rfl,rfl,rfl,rfl,rfl⟩
 .split<;>exact⟨rfl,rfl,rfl,rfl,rfl⟩
theorem Z4m (b:Za) (s:Zg):(Ya b s).1.now=b.now/\(Ya b s).1.picks=b.picks/\(Ya b s).1.conf=b.conf:=by
 unfold Ya
 repeat' split
 all_goals first
  | exact⟨rfl,rfl,rfl⟩
  | exact⟨(Zw5 _ _).1,(Zw5 _ _).2.1,(Zw5 _ _).2.2.1⟩
theorem Yhe {b:Za} (h:Zgr b) (s:Zg) (hn:b.now < 4000):Zgr (Zdt b s).1/\(Zdt b s).1.now=b.now+1/\(Zdt b s).1.conf=b.conf:=by
 have h1:=Yhv h s;have e1:=Z6y b s;have hI:Yw (Kn b s).now (Kn b s):=by rw[e1.1];exact h1
 have h2:=Z6d s (by rw[e1.1];exact h.now.1) hI;have e2:=Z4m (Kn b s) s;have hp:=h.picks;have hnow:=h.now;unfold Zdt;rw[e1.1] at h2;by_cases hr:(Ya (Kn b s) s).2.1=true
 .rw[ZZj hr]
  have h3:=Yzs h2.1 s (h2.2 hr);refine⟨?_,rfl,by show (Wr _ s).2.conf=_;rw[h3.2.2.2.2.1,e2.2.2,e1.2.1]⟩;have h4:=h3.1;have e3:(Ya (Kn b s) s).1.picks=b.picks:=by rw[e2.2.1,e1.2.2.1]
  have h5:=h3.2.2.1;have h6:=h3.2.2.2.1;generalize (Wr (Ya (Kn b s) s).1 s).2=r at h4 h5 h6 ⊢;exact⟨h4.conf,⟨by show 0<=b.now+1;omega,by show b.now+1<=4000;omega⟩,h4.ml,h4.bl,h4.sl,λi hi=>⟨(h4.mst i hi).right,(h4.mst i hi).tries,(h4.mst i hi).bucket,(h4.mst i hi).split⟩,h4.arb,h4.last,h4.model,⟨by show 0<=r.picks;omega,by show r.picks<=b.now+1;omega⟩,h4.alive,h4.dlive,h4.fly,h4.addr,h4.data,h4.held,h4.log⟩
 .rw[ZZi hr]
  refine⟨?_,rfl,by show (Ya _ s).1.conf=_;rw[e2.2.2,e1.2.1]⟩;have h4:=h2.1;have e3:(Ya (Kn b s) s).1.picks=b.picks:=by rw[e2.2.1,e1.2.2.1]
  generalize (Ya (Kn b s) s).1=r at h4 e3 ⊢;exact⟨h4.conf,⟨by show 0<=b.now+1;omega,by show b.now+1<=4000;omega⟩,h4.ml,h4.bl,h4.sl,λi hi=>⟨(h4.mst i hi).right,(h4.mst i hi).tries,(h4.mst i hi).bucket,(h4.mst i hi).split⟩,h4.arb,h4.last,h4.model,⟨by show 0<=r.picks;omega,by show r.picks<=b.now+1;omega⟩,h4.alive,h4.dlive,h4.fly,h4.addr,h4.data,h4.held,h4.log⟩
structure Zg.sm (s:Zg):Prop where
 posts:s.posts.length < 1048577
 reqs:∀p∈s.posts,p.req.sm
 waits:s.waits.length < 1048577
 says:s.says.length < 1048577
 wmin:∀w∈s.waits,-9223372036854775808<=w/\w < 9223372036854775808
theorem Zrg (l:List Int) (k:Int) (hl:l.length < 1048577):Zkb l k=some (Zik l k):=by
 unfold Zkb Zls Zik;by_cases h:l=[]
 .simp[h]
 .have h1:0 < l.length:=Van.2 h
  rw[ZZi (by simpa using h)];by_cases h2:k < 0
  .simp[h2]
  .have h3:0<=k % (l.length:Int):=Vc3 _ (by omega)
   have h4:k % (l.length:Int) < (l.length:Int):=Vcp _ (by omega);rw[Zu3 (by omega),ZZa,Zd9 (by omega),Xj h3 h4];simp[h,h2]
theorem Z7t (l:List Int) (k:Int) (hl:l.length < 1048577):Zzf l k=some (Zik l k):=by
 rw[<-Zrg l k hl];rfl
theorem Ymw {l:List Int} {k:Int} (h:∀w∈l,-9223372036854775808<=w/\w < 9223372036854775808):-9223372036854775808<=Zik l k/\Zik l k < 9223372036854775808:=by
 unfold Zik;split
 .omega
 .rename_i hx
  have h1:l≠[]:=λe=>hx (.inl e);have h2:0 < l.length:=Van.2 h1;exact h _ (Zjr (Vc3 _ (by omega)) (Vcp _ (by omega)))
theorem Yp0 (c:Zh) {s:Zg} (k:Int) (hs:s.sm):Zw3 c s k=some (Zpt c s k):=by
 unfold Zw3 Zpt;rw[Zrg _ _ hs.waits,ZZa,Znt,Zb2]
theorem Ypp (c:Zh) {s:Zg} (k:Int) (hs:s.sm):Zwi c s k=some (Zpt c s k):=by
 unfold Zwi Zpt;rw[Z7t _ _ hs.waits,ZZa,Znt,Zb2,Vdo]
theorem Yp9 {s:Zg} (k:Int) (hs:s.sm):Zwl s k=some (Zg3 s k):=by
 unfold Zwl Zg3;rw[Zrg _ _ hs.says,ZZa];by_cases h1:Zik s.says k=2
 .simp[h1]
 .by_cases h2:Zik s.says k=3<;>simp[h1,h2]
theorem Ypl {s:Zg} (k:Int) (hs:s.sm):Zwk s k=some (Zg3 s k):=by
 unfold Zwk Zg3;rw[Z7t _ _ hs.says,ZZa];by_cases h1:Zik s.says k=2
 .simp[h1]
 .by_cases h2:Zik s.says k=3<;>simp[h1,h2]
theorem Yma (c:Zh) {s:Zg} (k:Int) (hs:s.sm):Ztu c s k=some (Zhn c s k):=by
 have h:=Ymw (k:=k) hs.wmin;unfold Ztu Zhn;rw[Zrg _ _ hs.waits,ZZa,Znt,Zb2,Znt,Zb2,Yn (by omega) (by omega)]
theorem Ym9 (c:Zh) {s:Zg} (k:Int) (hs:s.sm):Zt3 c s k=some (Zhn c s k):=by
 have h:=Ymw (k:=k) hs.wmin;unfold Zt3 Zhn;rw[Z7t _ _ hs.waits,ZZa,Znt,Zb2,Zb2,Yn (by omega) (by omega)]
 congr 1
 omega
theorem Yai {α:Type} (p:α->Bool) (xs:List α) (k:Nat) (hk:k < xs.length):(xs.take (k+1)).filter p=(xs.take k).filter p++(if p xs[k] then [xs[k]] else []):=by
 rw[List.take_succ_eq_append_getElem hk,Vc4];cases hq:p xs[k]<;>simp[hq]
theorem Yn8 (s:Zg) (t:Int) (hs:s.sm):Ztt s t=some (Za7 s t):=by
 unfold Ztt Za7;have hp:=hs.posts;refine Zcb (σ:=List Zv) (n:=s.posts.length) (by omega) (λk=>(s.posts.take k).filter λp=>decide (p.at_=t)) (B:=Zi0 s t) (L:=Zla s t) (λm s i=>rfl) (λk hk κ=>?_) λκ=>?_
 .unfold Zi0
  have Yl:((s.posts.take k).filter λp=>decide (p.at_=t)).length<=k:=Vb4 (Vbu ..) (by rw[Vbr];omega);rw[ZZj (by simpa using hk),Xp hk,ZZa,Yai _ _ _ hk,Z7y _ (hs.reqs _ (Vao hk)),ZZa];by_cases e:s.posts[k].at_=t
  .rw[ZZj (by simpa using e),Wa (by simp only[Vaa,Vaq];omega) (by simp only[Vaa,Vaq];omega),ZZa,ZZj (decide_eq_true e)]
  .rw[ZZi (by simpa using e),ZZi (by simpa using e),Vb1]
 .unfold Zi0
  rw[ZZi (by simp),Vbl]
theorem Ylr (s:Zg) (t:Int) (hs:s.sm):Zuc s t=some (Za7 s t):=by
 unfold Zuc Za7;have hp:=hs.posts;refine Zcb (σ:=List Zv) (n:=s.posts.length) (by omega) (λk=>(s.posts.take k).filter λp=>decide (p.at_=t)) (B:=Zih s t) (L:=Zk4 s t) (λm s i=>rfl) (λk hk κ=>?_) λκ=>?_
 .unfold Zih
  have Yl:((s.posts.take k).filter λp=>decide (p.at_=t)).length<=k:=Vb4 (Vbu ..) (by rw[Vbr];omega);rw[ZZj (by simpa using hk),Xp hk,ZZa,Yai _ _ _ hk,Z6a _ (hs.reqs _ (Vao hk)),ZZa];by_cases e:s.posts[k].at_=t
  .rw[ZZj (by simpa using e),Wa (by simp only[Vaa,Vaq];omega) (by simp only[Vaa,Vaq];omega),ZZa,ZZj (decide_eq_true e)]
  .rw[ZZi (by simpa using e),ZZi (by simpa using e),Vb1]
 .unfold Zih
  rw[ZZi (by simp),Vbl]
theorem Ym8 {s:Zg} (hs:s.sm) (t:Int):(Za7 s t).length < 1048577/\∀p∈Za7 s t,p.req.sm:=by
 have hp:=hs.posts;refine⟨Nat.lt_of_le_of_lt (Vbu ..) hp,λp hx=>hs.reqs p ?_⟩;unfold Za7 at hx;exact (Vb3.1 hx).1
theorem Z65 (b:Za) (ps:List Zv) (k:Nat) (hk:k < ps.length):Xo b (ps.take (k+1))=Ko (Xo b (ps.take k)) ps[k]:=by
 unfold Xo;rw[List.take_succ_eq_append_getElem hk,List.foldl_append];rfl
theorem Zz9 (c:Zh) (h:c.masters.length < 1048577):Zo0 c=some c/\Zq2 c=some c:=by
 unfold Zo0 J9 Zq2;rw[Wa (by simp;omega) (by simp;omega)];exact⟨rfl,rfl⟩
theorem Ykz (xs:List Zm) (h:xs.length < 1048577):Xt 56 [] xs=some xs:=by
 rw[Wa (by simp;omega) (by simp;omega)];rfl
theorem Ynj (xs:List Zk) (h:xs.length < 1048577):Xt 16 [] xs=some xs:=by
 rw[Wa (by simp;omega) (by simp;omega)];rfl
theorem Yar (b:Za) (hs:b.sm):Zr9 b=some b:=by
 unfold Zr9;rw[(Zz9 b.conf hs.conf).1,ZZa];have:=hs.ml;refine (Zcb (σ:=Za×List Zd) (n:=b.m.length) (by omega) (λk=>(b,b.m.take k)) (B:=λκ s i=>Zkm b (λx y i=>κ (x,y) i) s.1 s.2 i) (L:=λm s i=>Zhp b m s.1 s.2 i) (λm s i=>rfl) (λk hk κ=>?_) λκ=>?_:Zhp b FU b [] 0=some b)
 .unfold Zkm
  have Yl:(b.m.take k).length=k:=by rw[Vbr];omega
  simp only;rw[ZZj (by simpa using hk),Xp hk,ZZa,Zou _ (hs.mst _ (Vao hk)),ZZa,Wa (by simp only[Vaa,Vaq];omega) (by simp only[Vaa,Vaq];omega),ZZa,<-List.take_succ_eq_append_getElem hk]
 .unfold Zkm Jj Za4
  simp only;rw[ZZi (by simp),Ynj _ hs.bl,ZZa,Zs4 _ hs.sl,ZZa,Zvy _ hs.model,ZZa,Ykz _ hs.log,ZZa,Vbl]
theorem Z69 (b:Za) (hs:b.sm):Zor b=some b:=by
 unfold Zor;rw[(Zz9 b.conf hs.conf).2,ZZa];have:=hs.ml;refine (Zcb (σ:=Za) (n:=b.m.length) (by omega) (λk=>{b with m:=b.m.take k}) (B:=Zi9 b) (L:=Zfu b) (λm s i=>rfl) (λk hk κ=>?_) λκ=>?_:Zfu b FU {b with m:=[]} 0=some b)
 .unfold Zi9
  have Yl:(b.m.take k).length=k:=by rw[Vbr];omega
  simp only;rw[ZZj (by simpa using hk),Xp hk,ZZa,Zmi _ (hs.mst _ (Vao hk)),ZZa,Wa (by simp only[Vaa,Vaq];omega) (by simp only[Vaa,Vaq];omega),ZZa,<-List.take_succ_eq_append_getElem hk]
 .unfold Zi9
  simp only;rw[ZZi (by simp),Ynj _ hs.bl,ZZa,Z2h _ hs.sl,ZZa,Yae _ hs.model,ZZa,Ykz _ hs.log,ZZa,Vbl]
theorem Z85 {c:Zh} {n:Int} (hn:n<=4001) {l:List Zm} (h:(∀d∈l,Z36 c n d)/\l.Pairwise λx y=>x.cycle < y.cycle):l.length<=4001:=by
 have key:∀(l:List Zm) (a:Int),(∀d∈l,a<=d.cycle/\d.cycle < n)->(l.Pairwise λx y=>x.cycle < y.cycle)->l≠[]->(l.length:Int)<=n - a:=by
  intro l
  induction l with
  | nil=>intro a _ _ h;exact absurd rfl h
  | cons x xs ih=>
   intro a h1 h2 _;have h3:=h1 x (Vab ..);by_cases hx:xs=[]
   .subst hx;simp;omega
   .have h4:=List.pairwise_cons.1 h2
    have:=ih (x.cycle+1) (λd hd=>⟨by have:=h4.1 d hd;omega,(h1 d (Vad _ hd)).2⟩) h4.2 hx;simp only[Vaa];omega
 by_cases hx:l=[]
 .subst hx;simp
 .have:=key l 0 (λd hd=>(h.1 d hd).1) h.2 hx
  omega
theorem Yw.sm {n:Int} {b:Za} (h:Yw n b) (hn:n<=4001):b.sm:=by
 have h1:=Zb9 h.conf;have h2:=h.ml;have h3:=h.bl;have h4:=h.sl;have h5:=Z85 hn h.log;refine⟨h1,by omega,λx hx=>?_,by omega,by omega,h.model.sm,by omega⟩;obtain⟨k,hk,rfl⟩:=Vbt hx;have:=(h.mst (k:Int) (mas (by omega))).right.sm
 rwa [Wk hk] at this
theorem Zgr.sm {b:Za} (h:Zgr b):b.sm:=h.i.sm (by have:=h.now;omega)
section
variable {n:Int} {b:Za} {s:Zg}
theorem Z1j (x:Zf) (hc:Y6 b.conf=true) (hw:Zr b.conf x.who=true) (hml:b.m.length=b.conf.masters.length) (hbl:b.buckets.length=b.conf.masters.length) (hr:Yq (atI b.m x.who)) (har:J2 b.arb b.conf=true):Zd6 b x=some (Wc b x):=by
 obtain⟨ok,hbk⟩:=Yl4 hr;unfold Zd6 Wc;rw[X7 hml hw,ZZa,hbk,ZZa,Wt,ZZa,Z83 hbl hw,ZZa,Zzv hw,ZZa,Ye8 _ (Zhi hc hw),ZZa,Wt,ZZa,Yld _ _ _ har,ZZa];by_cases h1:x.by_=1
 .simp[h1]
 .by_cases h2:x.by_=2<;>simp[h1,h2]
theorem Z1p (x:Zf) (hc:Y6 b.conf=true) (hw:Zr b.conf x.who=true) (hml:b.m.length=b.conf.masters.length) (hbl:b.buckets.length=b.conf.masters.length) (hr:Yq (atI b.m x.who)) (har:J2 b.arb b.conf=true):Zka b x=some (Wc b x):=by
 obtain⟨ok,hbk⟩:=Yk0 hr;unfold Zka Wc;rw[X7 hml hw,ZZa,hbk,ZZa,Wt,ZZa,Z83 hbl hw,ZZa,Zzv hw,ZZa,Yer _ (Zhi hc hw),ZZa,Wt,ZZa,Yk4 _ _ _ har,ZZa];by_cases h1:x.by_=1
 .simp[h1]
 .by_cases h2:x.by_=2<;>simp[h1,h2]
theorem Ypz {m:Zd} {k:Int} (h:Yq m) (hq:m.queue≠[]) (h0:0<=k) (h1:k < Zy m):Zof m k=some (Zqj m k):=by
 have hl:0 < m.queue.length:=Van.2 hq;unfold Zof Zqj;rw[Xj (xs:=m.queue) (by omega) (by omega),ZZa];by_cases hw:(atI m.queue 0).write=true
 .have:=Yi0 h h0 h1 hw
  rw[ZZj hw,ZZj hw,Xj this.1 this.2];rfl
 .rw[ZZi hw,ZZi hw]
theorem Ydf {m:Zd} {k:Int} (h:Yq m) (hq:m.queue≠[]) (h0:0<=k) (h1:k < Zy m):Zma (atI m.queue 0) k=some (Zqj m k):=by
 unfold Zma Zqj;by_cases hw:(atI m.queue 0).write=true
 .have:=Yi0 h h0 h1 hw
  rw[ZZi (by simp[hw]),ZZj hw,Xj this.1 this.2];rfl
 .rw[ZZj (by simpa using hw),ZZi hw]
theorem Zqa {m:Zd} {k:Int} (h0:0<=k) (h1:k < Zy m):m.queue≠[]:=by
 intro hq;unfold Zy at h1;rw[ZZj hq] at h1;omega
theorem Zu2 {m:Zd} (hq:m.queue≠[]):idx m.queue 0=some (atI m.queue 0):=by
 have hl:0 < m.queue.length:=Van.2 hq;exact Xj (by omega) (by omega)
theorem Ysq (x:Zf) (hw:Zr b.conf x.who=true) (hml:b.m.length=b.conf.masters.length) (hr:Yq (atI b.m x.who)) (hm:Zdj b.model) (h0:0<=x.beat) (h1:x.beat < Zy (atI b.m x.who)):Zsg b x=some (doG b x):=by
 have hq:=Zqa h0 h1;unfold Zsg doG;rw[X7 hml hw,ZZa,Zu2 hq,ZZa,Zeg _ hr,ZZa,Ypz hr hq h0 h1,ZZa,Yng _ _ _ _ hm];rfl
theorem Z9t {m:Zd} (h:Yq m) (hp:m.beat - m.done≥1):((K2 m).queue.length:Int) < (m.queue.length:Int)↔m.done+1=Zy m:=by
 have hq:=Zgu h (by omega);have hl:0 < m.queue.length:=Van.2 hq;have hf:=Z6n h hp;by_cases e:m.done+1=Zy m
 .rw[(hf.1 e).2.1];simp[e];omega
 .rw[(hf.2 e).1];simp[e]
theorem Ylk {m:Zd} (h:Yq m) (hp:m.beat - m.done≥1):(K2 m).done=0↔m.done+1=Zy m:=by
 have hb:=Ja h;have hf:=Z6n h hp;by_cases e:m.done+1=Zy m
 .rw[(hf.1 e).2.2.2.1];simp[e]
 .rw[(hf.2 e).2.2.1];simp[e];omega
theorem Yjo (x:Zf) (h1:Zr b.conf x.who=true) (hml:b.m.length=b.conf.masters.length) (hr:Yq (atI b.m x.who)) (hm:Zdj b.model) (hp:(atI b.m x.who).beat - (atI b.m x.who).done≥1) (h2:0<=x.beat) (h3:x.beat < Zy (atI b.m x.who)) (hl:b.log.length < 1048577):Zjk b x=some (Zfs b x):=by
 have hq:=Zqa h2 h3;obtain⟨ok,he⟩:=Ypd hr;unfold Zjk;rw[X7 hml h1,ZZa,Zu2 hq,ZZa,Zeg _ hr,ZZa,Ysq x h1 hml hr hm h2 h3,ZZa];have hJ:∀(mo:Zj) (d:Zm),Za2 b x {b with model:=mo} (atI b.m x.who) d=some {b with model:=mo,log:=b.log++[d],m:=b.m.set x.who.toNat (K2 (atI b.m x.who)),holder:=if b.holder=x.who/\(atI b.m x.who).done+1=Zy (atI b.m x.who) then -1 else b.holder,held:=if b.holder=x.who/\(atI b.m x.who).done+1=Zy (atI b.m x.who) then 0 else b.held}:=by
  intro mo d;unfold Za2 Zdu Zdp Zl7;simp only;rw[Wa (by simp only[Vaa,Vaq];omega) (by simp only[Vaa,Vaq];omega),ZZa,he,ZZa];simp only[ZZa,X7 hml h1,Wt];have hi:idx b.m x.who=some (atI b.m x.who):=X7 hml h1;by_cases e1:b.holder=x.who
  .by_cases e2:(atI b.m x.who).done+1=Zy (atI b.m x.who)
   .have e3:=(Z9t hr hp).2 e2
    simp only[decide_eq_true e1,decide_eq_true e3,if_true,ZZj (And.intro e1 e2)]
   .have e3:=mt (Z9t hr hp).1 e2
    simp only[decide_eq_true e1,decide_eq_false e3,if_true,if_false,ZZf,ZZi (λhx:b.holder=x.who/\_=>e2 hx.2)]
  .simp only[decide_eq_false e1,if_false,ZZf,ZZi (λhx:b.holder=x.who/\_=>e1 hx.1)]
 unfold Zfs Yen;by_cases e:x.resp=0
 .rw[ZZj (decide_eq_true e),hJ]
  simp only[ZZj e]
 .rw[ZZi (by simpa using e)]
  have:=hJ b.model (Zm.mk b.now x.who (atI (atI b.m x.who).queue 0).write (X0 (atI b.m x.who) x.beat) (atI (atI b.m x.who).queue 0).size 0 x.resp);refine Eq.trans (b:=_) ?_ (this.trans ?_)
  .rfl
  .simp only[ZZi e]
theorem Yq0 (w:Zq) (h:Yw b.now b) (hs:s.sm) (hn:b.now<=4000):Znw b s w=some ((Ya b s).2.1,(Ya b s).1,if b.data_.live=true/\¬b.data_.left > 0 then {w with resp:=b.data_.resp} else w):=by
 unfold Znw Ya;by_cases hd:b.data_.live=true
 .have hdf:¬b.data_.live=false:=by simp[hd]
  rw[ZZi (by simp[hd]),ZZi hdf];have Zaw:=h.data;unfold Qz at Zaw;rw[ZZj hd] at Zaw;have hw:=Qs h hd;have hmw:=(h.mst _ hw).right;have hp:=Zta h hd;have hbt:=Z6i h hd;have Yhz:=(Wz h.conf).2.1;by_cases hl:b.data_.left > 0
  .rw[ZZj (decide_eq_true hl),ZZj hl,ZZi (λhx:_/\¬b.data_.left > 0=>hx.2 hl),Xa (by omega) (by omega)]
  .rw[ZZi (by simpa using hl),ZZi hl,ZZj (And.intro hd hl)]
   have hJf:¬(b.data_.resp≠0/\b.data_.second=false)->Zap b s w false=some ((if b.data_.resp=2 then (Wc {b with data_:=Zf.z0,m:=b.m.set b.data_.who.toNat {atI b.m b.data_.who with tries:=(atI b.m b.data_.who).tries+1}} b.data_,true,b.data_.resp)
 else if b.data_.resp=3 then (Wc {b with data_:=Zf.z0,m:=b.m.set b.data_.who.toNat {atI b.m b.data_.who with parted:=true},splits:=b.splits.set b.data_.who.toNat (Zhn b.conf s b.picks)} b.data_,true,b.data_.resp)
 else (Zfs {b with data_:=Zf.z0} b.data_,true,b.data_.resp):Za×Bool×Int).2.1,(if b.data_.resp=2 then (Wc {b with data_:=Zf.z0,m:=b.m.set b.data_.who.toNat {atI b.m b.data_.who with tries:=(atI b.m b.data_.who).tries+1}} b.data_,true,b.data_.resp)
 else if b.data_.resp=3 then (Wc {b with data_:=Zf.z0,m:=b.m.set b.data_.who.toNat {atI b.m b.data_.who with parted:=true},splits:=b.splits.set b.data_.who.toNat (Zhn b.conf s b.picks)} b.data_,true,b.data_.resp)
 else (Zfs {b with data_:=Zf.z0} b.data_,true,b.data_.resp):Za×Bool×Int).1,{w with resp:=b.data_.resp}):=by
    intro hns;have hmb:=X5 hw;have hml:=h.ml;have Yf2:∀x:Zd,Yq x->Yq (atI (b.m.set b.data_.who.toNat x) b.data_.who):=λx hx=>by rw[Zo6 x hmb.1 (by omega)];exact hx
    have Yl:∀x:Zd,(b.m.set b.data_.who.toNat x).length=b.conf.masters.length:=λx=>by rw[Vbh];exact hml
    unfold Zap;rw[ZZi (by simp)];by_cases h2:b.data_.resp=2
    .have ht:=Zaw.2.1 h2
     have hmx:=(Wz h.conf).1;have htr:=hmw.tries;have Z8:Yq {atI b.m b.data_.who with tries:=(atI b.m b.data_.who).tries+1}:=⟨hmw.len,by show 0<=(atI b.m b.data_.who).tries+1;omega,hmw.reqs,λhq=>absurd (show (atI b.m b.data_.who).queue=[] from hq) (Zqa hbt.1 hbt.2),hmw.some⟩;simp only[decide_eq_true h2,if_true,ZZj h2,X7 hml hw,ZZa,Wt,Yn (a:=(atI b.m b.data_.who).tries) (b:=1) (by omega) (by omega)];rw[Z1j (b:={b with data_:=Zf.z0,m:=b.m.set b.data_.who.toNat {atI b.m b.data_.who with tries:=(atI b.m b.data_.who).tries+1}}) b.data_ h.conf hw (Yl _) h.bl (Yf2 _ Z8) h.arb];rfl
    .by_cases h3:b.data_.resp=3
     .have Y0:Yq {atI b.m b.data_.who with parted:=true}:=⟨hmw.len,hmw.tries,hmw.reqs,λhq=>absurd (show (atI b.m b.data_.who).queue=[] from hq) (Zqa hbt.1 hbt.2),hmw.some⟩
      simp only[decide_eq_false h2,decide_eq_true h3,if_true,if_false,ZZf,ZZi h2,ZZj h3,X7 hml hw,Zpm h.sl hw,ZZa,Wt,Yma _ _ hs];rw[Z1j (b:={b with data_:=Zf.z0,m:=b.m.set b.data_.who.toNat {atI b.m b.data_.who with parted:=true},splits:=b.splits.set b.data_.who.toNat (Zhn b.conf s b.picks)}) b.data_ h.conf hw (Yl _) h.bl (Yf2 _ Y0) h.arb];rfl
     .simp only[decide_eq_false h2,decide_eq_false h3,if_false,ZZf,ZZi h2,ZZi h3]
      have hlog:=Z85 (by omega) h.log;rw[Yjo (b:={b with data_:=Zf.z0}) b.data_ hw hml hmw h.model hp hbt.1 hbt.2 (by show b.log.length < _;omega)];rfl
   by_cases h2:b.data_.resp≠0
   .rw[ZZj (decide_eq_true h2)]
    by_cases h3:b.data_.second=false
    .rw[ZZj (And.intro h2 h3),h3]
     unfold Zap Zfw;rw[ZZj (by rfl)];by_cases ha:b.addr.live=true
     .rw[ZZj ha,ZZj ha]
      have hwa:=Za3 h ha;rw[Z1j (b:={b with data_:={b.data_ with second:=true}}) b.addr h.conf hwa h.ml h.bl (h.mst _ hwa).right h.arb];rfl
     .rw[ZZi ha,ZZi ha]
    .have h4:b.data_.second=true:=by simpa using h3
     rw[ZZi (λhx:_/\b.data_.second=false=>h3 hx.2),h4,Va5,hJf (λhx=>h3 hx.2)]
   .rw[ZZi (by simpa using h2),ZZi (λhx:b.data_.resp≠0/\_=>h2 hx.1),hJf (λhx=>h2 hx.1)]
 .rw[ZZj (by simpa using hd),ZZj (by simpa using hd),ZZi (λhx:b.data_.live=true/\_=>hd hx.1)]
theorem Yrm (h:Yw b.now b) (hs:s.sm) (hn:b.now<=4000) (hd:b.data_.live=true) (hl:¬b.data_.left > 0) (hns:¬(b.data_.resp≠0/\b.data_.second=false)):Zpg b s=some (Ya b s).1:=by
 have hdf:¬b.data_.live=false:=by simp[hd]
 have Zaw:=h.data;unfold Qz at Zaw;rw[ZZj hd] at Zaw;have hw:=Qs h hd;have hmw:=(h.mst _ hw).right;have hp:=Zta h hd;have hbt:=Z6i h hd;have hmb:=X5 hw;have hml:=h.ml;have hq:=Zqa hbt.1 hbt.2;have Yf2:∀x:Zd,Yq x->Yq (atI (b.m.set b.data_.who.toNat x) b.data_.who):=λx hx=>by rw[Zo6 x hmb.1 (by omega)];exact hx
 have Yl:∀x:Zd,(b.m.set b.data_.who.toNat x).length=b.conf.masters.length:=λx=>by rw[Vbh];exact hml
 unfold Zpg Ya;rw[ZZi hdf,ZZi hl,ZZi hns,X7 hml hw,ZZa];by_cases h2:b.data_.resp=2
 .have ht:=Zaw.2.1 h2
  have hmx:=(Wz h.conf).1;have htr:=hmw.tries;have Z8:Yq {atI b.m b.data_.who with tries:=(atI b.m b.data_.who).tries+1}:=⟨hmw.len,by show 0<=(atI b.m b.data_.who).tries+1;omega,hmw.reqs,λhq=>absurd (show (atI b.m b.data_.who).queue=[] from hq) (Zqa hbt.1 hbt.2),hmw.some⟩;simp only[decide_eq_true h2,if_true,ZZj h2,ZZa,Wt,Yn (a:=(atI b.m b.data_.who).tries) (b:=1) (by omega) (by omega)];rw[Z1p (b:={b with data_:=Zf.z0,m:=b.m.set b.data_.who.toNat {atI b.m b.data_.who with tries:=(atI b.m b.data_.who).tries+1}}) b.data_ h.conf hw (Yl _) h.bl (Yf2 _ Z8) h.arb];rfl
 .by_cases h3:b.data_.resp=3
  .have Y0:Yq {atI b.m b.data_.who with parted:=true}:=⟨hmw.len,hmw.tries,hmw.reqs,λhq=>absurd (show (atI b.m b.data_.who).queue=[] from hq) (Zqa hbt.1 hbt.2),hmw.some⟩
   simp only[decide_eq_false h2,decide_eq_true h3,if_true,if_false,ZZf,ZZi h2,ZZj h3,Zpm h.sl hw,ZZa,Wt,Ym9 _ _ hs];rw[Z1p (b:={b with data_:=Zf.z0,m:=b.m.set b.data_.who.toNat {atI b.m b.data_.who with parted:=true},splits:=b.splits.set b.data_.who.toNat (Zhn b.conf s b.picks)}) b.data_ h.conf hw (Yl _) h.bl (Yf2 _ Y0) h.arb];rfl
  .have hlog:=Z85 (by omega) h.log
   obtain⟨ok,he⟩:=Yph hmw;have hJ:∀(mo:Zj) (d:Zm),Zdl b s {b with data_:=Zf.z0,model:=mo} (atI b.m b.data_.who) d=some {b with data_:=Zf.z0,model:=mo,log:=b.log++[d],m:=b.m.set b.data_.who.toNat (K2 (atI b.m b.data_.who)),holder:=if b.holder=b.data_.who/\(atI b.m b.data_.who).done+1=Zy (atI b.m b.data_.who) then -1 else b.holder,held:=if b.holder=b.data_.who/\(atI b.m b.data_.who).done+1=Zy (atI b.m b.data_.who) then 0 else b.held}:=by
    intro mo d;unfold Zdl;simp only;rw[Wa (by simp only[Vaa,Vaq];omega) (by simp only[Vaa,Vaq];omega),ZZa,he,ZZa];simp only[ZZa,X7 hml hw,Wt];by_cases e1:b.holder=b.data_.who
    .by_cases e2:(atI b.m b.data_.who).done+1=Zy (atI b.m b.data_.who)
     .have e3:=(Ylk hmw hp).2 e2
      simp only[decide_eq_true e1,decide_eq_true e3,if_true,ZZj (And.intro e1 e2)]
     .have e3:=mt (Ylk hmw hp).1 e2
      simp only[decide_eq_true e1,decide_eq_false e3,if_true,if_false,ZZf,ZZi (λhx:b.holder=b.data_.who/\_=>e2 hx.2)]
    .simp only[decide_eq_false e1,if_false,ZZf,ZZi (λhx:b.holder=b.data_.who/\_=>e1 hx.1)]
   simp only[decide_eq_false h2,decide_eq_false h3,if_false,ZZf,ZZi h2,ZZi h3];rw[Zu2 hq,ZZa,Zhy _ hmw,ZZa];unfold Zfs Yen doG;by_cases e:b.data_.resp=0
   .rw[ZZj (decide_eq_true e),Ydf hmw hq hbt.1 hbt.2,ZZa,Z6b _ _ _ _ h.model,ZZa,hJ]
    simp only[ZZj e]
   .rw[ZZi (by simpa using e)]
    have:=hJ b.model (Zm.mk b.now b.data_.who (atI (atI b.m b.data_.who).queue 0).write (X0 (atI b.m b.data_.who) b.data_.beat) (atI (atI b.m b.data_.who).queue 0).size 0 b.data_.resp);refine Eq.trans (b:=_) ?_ (this.trans ?_)
    .rfl
    .simp only[ZZi e]
end
section
variable {n:Int} {b:Za} {s:Zg}
theorem Yqt (h:Yw n b) (hs:s.sm) (hl:b.addr.live=true):Zm9 b s b.addr=some (Zda b s b.addr):=by
 have hw:=Za3 h hl;have hmw:=(h.mst _ hw).right;have hbt:=Z51 h hl;have hwt:=Yhk h.conf s b.picks;have hlm:=(Wz h.conf).2.1;unfold Zm9;rw[X7 h.ml hw,ZZa,Zeg _ hmw,ZZa,Zy1,ZZa];have hJ1:Kz b s b.addr (atI b.m b.addr.who) (Yu (X0 (atI b.m b.addr.who) b.addr.beat)) false=some (if Zg3 s b.picks=2/\Yu (X0 (atI b.m b.addr.who) b.addr.beat)≠3/\(atI b.m b.addr.who).tries < b.conf.maxRetry then 2
  else if Zg3 s b.picks=3/\Yu (X0 (atI b.m b.addr.who) b.addr.beat)=2/\(atI b.m b.addr.who).parted=false/\b.addr.who≠b.holder then 3 else (doG b b.addr).2.2,if Yu (X0 (atI b.m b.addr.who) b.addr.beat)=3 then Zpt b.conf s b.picks+2 else Zpt b.conf s b.picks):=by
  unfold Kz;rw[ZZi (by simp),Ysq _ hw h.ml hmw h.model hbt.1 hbt.2,ZZa,Yp0 _ _ hs,ZZa,Yn (by omega) (by omega)];have hJ2:∀(r t:Int),Zcs b s b.addr (atI b.m b.addr.who) (Yu (X0 (atI b.m b.addr.who) b.addr.beat)) r t=some (if Zg3 s b.picks=2/\Yu (X0 (atI b.m b.addr.who) b.addr.beat)≠3/\(atI b.m b.addr.who).tries < b.conf.maxRetry then 2
  else if Zg3 s b.picks=3/\Yu (X0 (atI b.m b.addr.who) b.addr.beat)=2/\(atI b.m b.addr.who).parted=false/\b.addr.who≠b.holder then 3 else r,t):=by
   intro r t;unfold Zcs;rw[Yp9 _ hs,ZZa];generalize Yu (X0 (atI b.m b.addr.who) b.addr.beat)=sl;have hJ3:Q6 b s b.addr (atI b.m b.addr.who) sl r t (Zg3 s b.picks) false=some (if Zg3 s b.picks=3/\sl=2/\(atI b.m b.addr.who).parted=false/\b.addr.who≠b.holder then 3 else r,t):=by
    unfold Q6;rw[ZZi (by simp)];by_cases e1:Zg3 s b.picks=3
    .by_cases e2:sl=2
     .by_cases e3:(atI b.m b.addr.who).parted=true
      .simp[e1,e2,e3]
      .by_cases e4:b.addr.who=b.holder<;>simp[e1,e2,e3,e4]
     .simp[e1,e2]
    .simp[e1]
   have hJ3t:Q6 b s b.addr (atI b.m b.addr.who) sl r t (Zg3 s b.picks) true=some (2,t):=by
    unfold Q6;rw[ZZj rfl]
   by_cases e1:Zg3 s b.picks=2
   .by_cases e2:sl=3
    .rw[ZZj (decide_eq_true e1),ZZi (by simpa using e2),hJ3,ZZi (λhx:_/\sl≠3/\_=>hx.2.1 e2)]
    .by_cases e3:(atI b.m b.addr.who).tries < b.conf.maxRetry
     .rw[ZZj (decide_eq_true e1),ZZj (by simpa using e2),decide_eq_true e3,hJ3t,ZZj ⟨e1,e2,e3⟩]
     .rw[ZZj (decide_eq_true e1),ZZj (by simpa using e2),decide_eq_false e3,hJ3,ZZi (λhx:_/\_/\_=>e3 hx.2.2)]
   .rw[ZZi (by simpa using e1),hJ3,ZZi (λhx:_/\_/\_=>e1 hx.1)]
  by_cases e:Yu (X0 (atI b.m b.addr.who) b.addr.beat)=3
  .rw[ZZj (decide_eq_true e),hJ2,ZZj e]
  .rw[ZZi (by simpa using e),hJ2,ZZi e]
 have hJ1t:Kz b s b.addr (atI b.m b.addr.who) (Yu (X0 (atI b.m b.addr.who) b.addr.beat)) true=some (1,0):=by
  unfold Kz;rw[ZZj rfl]
 unfold Zda;by_cases e1:(atI b.m b.addr.who).broken=true
 .rw[ZZj e1,hJ1t,ZZj (.inl e1)]
 .by_cases e2:Yu (X0 (atI b.m b.addr.who) b.addr.beat)=0
  .rw[ZZi e1,decide_eq_true e2,hJ1t,ZZj (.inr e2)]
  .rw[ZZi e1,decide_eq_false e2,hJ1,ZZi (show ¬((atI b.m b.addr.who).broken=true\/Yu (X0 (atI b.m b.addr.who) b.addr.beat)=0) fromλhx=>hx.elim e1 e2)]
theorem Yqk (a:Int):Yu a=0\/Yu a=1\/Yu a=2\/Yu a=3:=by
 unfold Yu
 repeat' split
 all_goals simp
theorem Yuc (h:Yw n b) (hs:s.sm) (hp:0<=b.picks/\b.picks<=4000):Zsi b s=some (Qt b s):=by
 unfold Zsi Qt;by_cases hl:b.addr.live=true
 .have hw:=Za3 h hl
  have hmw:=(h.mst _ hw).right;have hbt:=Z51 h hl;have hq:=Zqa hbt.1 hbt.2;have hwt:=Yhk h.conf s b.picks;have hlm:=(Wz h.conf).2.1;have hA:=h.addr;unfold Km at hA;rw[ZZj hl] at hA;rw[ZZi (by simp[hl]),ZZj hl,X7 h.ml hw,ZZa,Zu2 hq,ZZa,Zhy _ hmw,ZZa,Z7m,ZZa,Ypl _ hs,ZZa];have hsr:=Yqk (X0 (atI b.m b.addr.who) b.addr.beat);have hJ8:∀x:Zf,Zev b s x=some {b with addr:=Zf.z0,data_:=x,picks:=b.picks+1}:=by
   intro x;unfold Zev;rw[Yn (by omega) (by omega)]
  unfold Zda;by_cases e1:(atI b.m b.addr.who).broken=true
  .rw[ZZj e1,ZZj (.inl e1)]
   unfold Zb5 Zb1 Zb7 Zb4 Kd Zca Ke;simp only[if_true,e1,Va5,ZZf,if_false,hJ8,Ybk]
   congr 2
   rw[hA.2.1]
  .have e1':(atI b.m b.addr.who).broken=false:=by simpa using e1
   rw[ZZi e1];generalize hsl:Yu (X0 (atI b.m b.addr.who) b.addr.beat)=sl at hsr;by_cases e2:sl=0
   .rw[decide_eq_true e2,ZZj (.inr e2)]
    unfold Zb5 Zb1 Zb7 Zb4 Kd Zca Ke;have f1:¬sl=3:=by omega
    have f2:¬sl=1:=by omega
    have f3:¬sl=2:=by omega
    simp only[if_true,e1',f1,f2,f3,decide_false,Vbf,ZZf,if_false,hJ8,Ybk]
    congr 2
    rw[hA.2.1]
   .rw[decide_eq_false e2,ZZi (λhx=>hx.elim e1 e2)]
    unfold Zb5;rw[ZZi (by simp),Ypp _ _ hs,ZZa,Ydf hmw hq hbt.1 hbt.2,ZZa,Z6b _ _ _ _ h.model,ZZa];have hdo:Zek b.model (atI (atI b.m b.addr.who).queue 0).write (X0 (atI b.m b.addr.who) b.addr.beat) (atI (atI b.m b.addr.who).queue 0).size (Zqj (atI b.m b.addr.who) b.addr.beat)=doG b b.addr:=rfl;rw[hdo];unfold Zb1 Zb7 Zb4 Kd Zca Ke;simp only[e1',Vbf,if_true,hJ8,Yn (a:=Zpt b.conf s b.picks) (b:=2) (by omega) (by omega)];generalize Zg3 s b.picks=sd;by_cases g1:sl=3
    .subst g1
     by_cases g2:sd=2
     .subst g2;simp
     .by_cases g3:sd=3
      .subst g3;simp
      .simp[g2,g3]
    .by_cases g4:sl=2
     .subst g4
      by_cases g2:sd=2
      .subst g2
       by_cases g5:(atI b.m b.addr.who).tries < b.conf.maxRetry<;>simp[g5]
      .by_cases g3:sd=3
       .subst g3
        by_cases g5:(atI b.m b.addr.who).parted=true
        .simp[g5]
        .by_cases g6:b.addr.who=b.holder
         .simp[g5,g6]
         .have g7:¬b.holder=b.addr.who:=λe=>g6 e.symm
          simp[g5,g6,g7]
       .simp[g2,g3]
     .have g8:sl=1:=by omega
      subst g8;by_cases g2:sd=2
      .subst g2
       by_cases g5:(atI b.m b.addr.who).tries < b.conf.maxRetry<;>simp[g5]
      .by_cases g3:sd=3
       .subst g3;simp
       .simp[g2,g3]
 .rw[ZZj (by simpa using hl),ZZi hl]
  have hA:=h.addr;unfold Km at hA;rw[ZZi hl] at hA;rw[<-hA]
theorem Yd6 (b:Za) (k:Nat):((List.range (k+1)).map λj:Nat=>Kh b (j:Int))=((List.range k).map λj:Nat=>Kh b (j:Int))++[Kh b (k:Int)]:=by
 rw[List.range_succ,Vcn];rfl
theorem Z0h (h:Yw n b):b.holder=-1\/Zr b.conf b.holder=true:=by
 by_cases e:b.holder=-1
 .exact .inl e
 .exact .inr (Zen h e).1
theorem Yxs (h:Yw n b):Zro b=some ((Zac b).1,(Zac b).2.1,(Zac b).2.2):=by
 have Yl:=Jr h.conf;have hml:=h.ml;have hL2:Zea b FU (Qr b) ((Qr b).length:Int) 0=some (match (List.range b.m.length).find? (Zat b) with
  | some k=>((k:Int),1,{b with buckets:=b.buckets.set k (Zf6 (atI b.buckets (k:Int)) (atI b.conf.masters (k:Int))).1})
  | none=>if b.holder≠-1 then (-1,0,b) else ((Zcz b.arb b.conf (Qr b)).2,2,{b with arb:=(Zcz b.arb b.conf (Qr b)).1})):=by
  rw[Zds];have key:∀(r m k:Nat),r < m->k+r=b.m.length->(∀j,j < k->Zat b j=false)->Zea b m (Qr b) (b.m.length:Int) (k:Int)=some (match (List.range' k r).find? (Zat b) with
  | some k=>((k:Int),1,{b with buckets:=b.buckets.set k (Zf6 (atI b.buckets (k:Int)) (atI b.conf.masters (k:Int))).1})
  | none=>if b.holder≠-1 then (-1,0,b) else ((Zcz b.arb b.conf (Qr b)).2,2,{b with arb:=(Zcz b.arb b.conf (Qr b)).1})):=by
   intro r
   induction r with
   | zero=>
    intro m k hm hk _;obtain⟨m,rfl⟩:∃m',m=m'+1:=⟨m - 1,by omega⟩;show Zdm b _ (Qr b) (b.m.length:Int) (k:Int)=_;unfold Zdm;rw[ZZi (by simp;omega),Ynh _ _ _ h.arb (by rw[Zds,hml]),ZZa];by_cases e:b.holder=-1
    .simp[e]
    .simp[e]
   | succ r ih=>
    intro m k hm hk hj;obtain⟨m,rfl⟩:∃m',m=m'+1:=⟨m - 1,by omega⟩;show Zdm b _ (Qr b) (b.m.length:Int) (k:Int)=_;have hmk:=mas (c:=b.conf) (k:=k) (by omega);unfold Zdm;have hix:idx (Qr b) (k:Int)=some (Kh b (k:Int)):=by
     rw[Xj (by omega) (by rw[Zds];omega),Zu6 h hmk]
    rw[ZZj (by simp;omega),hix,ZZa,Z83 h.bl hmk,ZZa,Zzv hmk,ZZa,Yep _ (Zhi h.conf hmk),ZZa,Wt,ZZa,Vdf,List.find?_cons];by_cases e1:Kh b (k:Int)=true
    .by_cases e2:(Zf6 (atI b.buckets (k:Int)) (atI b.conf.masters (k:Int))).2=true
     .have e3:Zat b k=true:=by simp[Zat,e1,e2]
      rw[e1,ZZi (by simp),ZZj e2,e3];rfl
     .have e3:Zat b k=false:=by simp[Zat,e1,e2]
      rw[e1,ZZi (by simp),ZZi e2,e3,X4 (by omega)];exact ih m (k+1) (by omega) (by omega) (λj hj2=>by
       by_cases hjk:j=k
       .subst hjk;exact e3
       .exact hj j (by omega))
    .have e3:Zat b k=false:=by simp[Zat,e1]
     have e4:Kh b (k:Int)=false:=by simpa using e1
     rw[e4,ZZj (by simp),e3,X4 (by omega)];exact ih m (k+1) (by omega) (by omega) (λj hj2=>by
       by_cases hjk:j=k
       .subst hjk;exact e3
       .exact hj j (by omega))
  have:=key b.m.length FU 0 (by have:=Qe;omega) (by omega) (λj hj=>by omega);rw[Vcz];simpa using this
 unfold Zro;refine Zcb (σ:=List Bool) (n:=b.m.length) (by omega) (λk=>(List.range k).map λj:Nat=>Kh b (j:Int)) (B:=Zha b) (L:=Zji b) (λm s i=>rfl) (λk hk κ=>?_) λκ=>?_
 .have hmk:=mas (c:=b.conf) (k:=k) (by omega)
  unfold Zha;have Y0y:∀x:Bool,Xt 1 ((List.range k).map λj:Nat=>Kh b (j:Int)) [x]=some (((List.range k).map λj:Nat=>Kh b (j:Int))++[x]):=λx=>Wa (by simp;omega) (by simp;omega);rw[ZZj (by simpa using hk),X7 hml hmk,ZZa,Z5l (h.mst _ hmk).right,ZZa,Zpm h.sl hmk,ZZa,Yd6];simp only[Y0y,ZZa];unfold Kh;by_cases e1:Zo5 (atI b.m (k:Int))=true
  .by_cases e2:atI b.splits (k:Int)=0
   .by_cases e3:b.holder=-1
    .simp[e1,e2,e3]
    .simp[e1,e2,e3]
   .simp[e1,e2]
  .simp[e1]
 .unfold Zha Zjj
  rw[ZZi (by simp)];show (if decide (b.holder≠-1)=true then (idx (Qr b) b.holder).bind _ else _)=_;unfold Zac;by_cases e:b.holder=-1
  .rw[ZZi (by simpa using e),ZZi (by simp),ZZi (λhx:b.holder≠-1/\_=>hx.1 e)]
   exact hL2
  .have hw:=(Zen h e).1
   have hmb:=X5 hw;rw[ZZj (by simpa using e),Xj hmb.1 (by rw[Zds];omega),ZZa,Zu6 h hw];by_cases e2:Kh b b.holder=true
   .rw[ZZj e2,ZZj ⟨e,e2⟩]
   .rw[ZZi e2,ZZi (λhx:_/\Kh b b.holder=true=>e2 hx.2)]
    exact hL2
theorem Y10 {b:Za} {i:Int} (hr:Yq (atI b.m i)) (h:Kh b i=true):(atI b.m i).queue≠[]:=by
 have:=(Ydb h).1;have:=Ja hr;intro hq;unfold Zy at*;rw[ZZj hq] at*;omega
theorem Yxg (x0:Za) (h:Yw n b) {who by_:Int} (hw:Zr b.conf who=true):((idx b.m who).bind λa405=>
  if decide (a405.beat=0)=true then Jq x0 {b with addr:=(Zf.mk true who a405.beat true by_ 0 0 false)} a405 who
  else Jq x0 {b with addr:=(Zf.mk true who a405.beat (decide (b.last≠who)) by_ 0 0 false)} a405 who)=some (who,Z5c b who by_):=by
 obtain⟨ok,hi⟩:=Yj9 (h.mst _ hw).right;rw[X7 h.ml hw,ZZa];have hJ:∀f:Bool,Jq x0 {b with addr:=(Zf.mk true who (atI b.m who).beat f by_ 0 0 false)} (atI b.m who) who=some (who,{b with addr:=Zf.mk true who (atI b.m who).beat f by_ 0 0 false,holder:=if Yi (atI b.m who)=true/\b.holder=-1 then who else b.holder,held:=if Yi (atI b.m who)=true/\b.holder=-1 then 0 else b.held,m:=b.m.set who.toNat (Xz (atI b.m who)),last:=who}):=by
  intro f;unfold Jq Zg5 Zg7;simp only[Z5e,ZZa,hi,X7 h.ml hw,Wt];by_cases e1:Yi (atI b.m who)=true
  .by_cases e2:b.holder=-1
   .simp only[e1,if_true,decide_eq_true e2,true_and,ZZj e2]
   .simp only[e1,if_true,decide_eq_false e2,ZZf,if_false,true_and,ZZi e2]
  .simp only[e1,if_false,ZZf,false_and]
 unfold Z5c;by_cases e:(atI b.m who).beat=0
 .rw[ZZj (decide_eq_true e),hJ,decide_eq_true e];rfl
 .rw[ZZi (by simpa using e),hJ,decide_eq_false e,Vdw]
end
section
variable {n:Int} {b:Za} {s:Zg}
theorem Yux (h:Yw n b):Zpc b=some ((K7 b).1,(K7 b).2):=by
 have hp:=Zvh h;unfold Zpc K7;rw[Yxs h,ZZa];by_cases e:(Zac b).1 < 0
 .rw[ZZj (decide_eq_true e),ZZj e]
 .rw[ZZi (by simpa using e),ZZi e]
  rcases hp.who with h1|h1
  .exact absurd (show (Zac b).1 < 0 by rw[h1];decide) e
  .exact Yxg b hp.ok (by rw[hp.conf];exact h1.1)
theorem Y0i {c:Zk} {m:Zc} (h:Yr c m=true):(Zf6 c m).2=decide (c.tokens > 0):=by
 unfold Zf6;by_cases hp:m.prio=true
 .have h2:=h
  unfold Yr at h2;rw[ZZj hp] at h2;simp only[ZZg,ZZl] at h2;by_cases e:c.tokens=0
  .simp[hp,h,e]
  .have:c.tokens > 0:=by omega
   simp[hp,h,e,this]
 .have h2:=h
  unfold Yr at h2;rw[ZZi hp] at h2;simp only[ZZg,ZZl] at h2;simp[hp,h2.1]
theorem Z7u (x0:Za) (h:Yw n b) {who by_:Int} (hw:Zr b.conf who=true) (Yf1:Kh b who=true):K9 x0 b (Zf.mk false who 0 false by_ 0 0 false)=some (Z5c b who by_):=by
 obtain⟨ok,hi⟩:=Yjt (h.mst _ hw).right;have hq:=Y10 (h.mst _ hw).right Yf1;have hmb:=X5 hw;unfold K9;simp only;rw[ZZi (by simp;omega),X7 h.ml hw,ZZa];have hh:=Z0h h;have Z5:b.holder < 0↔b.holder=-1:=by
  rcases hh with hh|hh
  .omega
  .have:=X5 hh;omega
 have hJ:∀f:Bool,Zei x0 b (Zf.mk true who (atI b.m who).beat f by_ 0 0 false) (atI b.m who)=some {b with addr:=Zf.mk true who (atI b.m who).beat f by_ 0 0 false,holder:=if Yi (atI b.m who)=true/\b.holder=-1 then who else b.holder,held:=if Yi (atI b.m who)=true/\b.holder=-1 then 0 else b.held,m:=b.m.set who.toNat (Xz (atI b.m who)),last:=who}:=by
  intro f;unfold Zei Zdi Zg8;simp only[Zu2 hq,ZZa,hi,X7 h.ml hw,Wt];unfold Yi;by_cases e1:(atI (atI b.m who).queue 0).lock=true
  .by_cases e2:(atI b.m who).broken=true
   .simp[e1,e2]
   .by_cases e3:b.holder=-1
    .have e4:=Z5.2 e3
     simp[e1,e2,e3,hq]
    .have e4:=mt Z5.1 e3
     simp[e1,e2,e3,e4]
  .simp[e1]
 unfold Z5c;by_cases e:(atI b.m who).beat=0
 .rw[ZZj (decide_eq_true e),hJ,decide_eq_true e];rfl
 .rw[ZZi (by simpa using e),hJ,decide_eq_false e,Vdw]
theorem Z99 (x0:Za) (c:Za) (by_:Int):K9 x0 c (Zf.mk false (-1) 0 false by_ 0 0 false)=some c:=by
 unfold K9;rw[ZZj (by simp)]
theorem Ytl (h:Yw n b):Zrh b=some (K7 b).2:=by
 have Yl:=Jr h.conf;have hml:=h.ml;have hh:=Z0h h;have Z5:b.holder < 0↔b.holder=-1:=by
  rcases hh with hh|hh
  .omega
  .have:=X5 hh;omega
 have hp:=Zvh h;have hgo:∀(m:Nat) (c:Za) (who by_:Int) (k:Nat),0<=who->Zag b (m+1) c (Zf.mk false who 0 false by_ 0 0 false) (Qr b) (k:Int)=K9 b c (Zf.mk false who 0 false by_ 0 0 false):=by
  intro m c who by_ k hwho;have hn:¬who < 0:=by omega
  show Jp b _ c _ _ _=_;unfold Jp Zb6 Zeq;simp only[decide_eq_false hn,ZZf,if_false,Ybk]
 have hL2:(¬(b.holder≠-1/\Kh b b.holder=true))->Zag b FU b (Zf.mk false (-1) 0 false 0 0 0 false) (Qr b) 0=some (K7 b).2:=by
  intro hnl;have key:∀(r m k:Nat),r+1 < m->k+r=b.m.length->(List.range b.m.length).find? (Zat b)=(List.range' k r).find? (Zat b)->Zag b m b (Zf.mk false (-1) 0 false 0 0 0 false) (Qr b) (k:Int)=some (K7 b).2:=by
   intro r
   induction r with
   | zero=>
    intro m k hm hk Zxk;obtain⟨m,rfl⟩:∃m',m=m'+1:=⟨m - 1,by omega⟩;show Jp b _ b _ (Qr b) (k:Int)=_;unfold Jp Zb6 Zeq;have hf:(List.range b.m.length).find? (Zat b)=none:=by rw[Zxk];rfl
    rw[ZZi (by simp;omega),ZZi (by simp),ZZj (by simp)];have hpk:Zac b=if b.holder≠-1 then (-1,0,b) else ((Zcz b.arb b.conf (Qr b)).2,2,{b with arb:=(Zcz b.arb b.conf (Qr b)).1}):=by
     unfold Zac;rw[ZZi hnl,hf]
    by_cases e:b.holder=-1
    .rw[decide_eq_true (Z5.2 e),ZZj rfl,Yk7 _ _ _ h.arb (by rw[Zds,hml]),ZZa]
     rw[ZZi (by simpa using e)] at hpk;have hw:=hp.who;have Y2:=hp.ok;unfold K7;rw[hpk] at hw Y2 ⊢;simp only at hw Y2 ⊢;rcases hw with hw|hw
     .rw[hw,Z99,ZZj (by decide)]
     .have hmb:=X5 hw.1
      rw[ZZi (by omega)];exact Z7u b Y2 hw.1 hw.2.1
    .rw[decide_eq_false (mt Z5.1 e),ZZi (by simp),Z99]
     rw[ZZj e] at hpk;unfold K7;rw[hpk,ZZj (show (-1:Int) < 0 by decide)]
   | succ r ih=>
    intro m k hm hk Zxk;obtain⟨m,rfl⟩:∃m',m=m'+1:=⟨m - 1,by omega⟩;show Jp b _ b _ (Qr b) (k:Int)=_;have hmk:=mas (c:=b.conf) (k:=k) (by omega);have hix:idx (Qr b) (k:Int)=some (Kh b (k:Int)):=by
     rw[Xj (by omega) (by rw[Zds];omega),Zu6 h hmk]
    rw[Vdf,List.find?_cons] at Zxk;unfold Jp Zb6 Zje;rw[ZZj (by simp;omega),ZZj (by simp),hix,ZZa,Z83 h.bl hmk,ZZa,ZZa,Zzv hmk,ZZa,Yc2 _ (Zhi h.conf hmk),ZZa,Wt,ZZa,X4 (by omega),<-Y0i (h.mst _ hmk).bucket];by_cases e1:Kh b (k:Int)=true
    .by_cases e2:(Zf6 (atI b.buckets (k:Int)) (atI b.conf.masters (k:Int))).2=true
     .have e3:Zat b k=true:=by simp[Zat,e1,e2]
      rw[e3] at Zxk;have hpk:Zac b=((k:Int),1,{b with buckets:=b.buckets.set k (Zf6 (atI b.buckets (k:Int)) (atI b.conf.masters (k:Int))).1}):=by
       unfold Zac;rw[ZZi hnl,Zxk]
      rw[ZZj e1,ZZj e2];obtain⟨m,rfl⟩:∃m',m=m'+1:=⟨m - 1,by omega⟩;rw[hgo m _ _ _ _ (by omega)];have hw:=hp.who;have Y2:=hp.ok;unfold K7;rw[hpk] at hw Y2 ⊢;simp only at hw Y2 ⊢;rcases hw with hw|hw
      .omega
      .rw[ZZi (by omega)]
       exact Z7u b Y2 hw.1 hw.2.1
     .have e3:Zat b k=false:=by simp[Zat,e1,e2]
      rw[e3] at Zxk;rw[ZZj e1,ZZi e2];exact ih m (k+1) (by omega) (by omega) Zxk
    .have e3:Zat b k=false:=by simp[Zat,e1]
     rw[e3] at Zxk;rw[ZZi e1,ZZi (by simp)];exact ih m (k+1) (by omega) (by omega) Zxk
  have:=key b.m.length FU 0 (by have:=Qe;omega) (by omega) (by rw[Vcz]);simpa using this
 unfold Zrh;refine Zcb (σ:=List Bool) (n:=b.m.length) (by omega) (λk=>(List.range k).map λj:Nat=>Kh b (j:Int)) (B:=Zhb b) (L:=Zip b) (λm s i=>rfl) (λk hk κ=>?_) λκ=>?_
 .have hmk:=mas (c:=b.conf) (k:=k) (by omega)
  unfold Zhb;have Y0y:∀x:Bool,Xt 1 ((List.range k).map λj:Nat=>Kh b (j:Int)) [x]=some (((List.range k).map λj:Nat=>Kh b (j:Int))++[x]):=λx=>Wa (by simp;omega) (by simp;omega);rw[ZZj (by simpa using hk),X7 hml hmk,ZZa,Z5r (h.mst _ hmk).right,ZZa,Zpm h.sl hmk,ZZa,Yd6];simp only[Y0y,ZZa];unfold Kh;by_cases e1:Zo5 (atI b.m (k:Int))=true
  .by_cases e2:atI b.splits (k:Int)=0
   .by_cases e3:b.holder=-1
    .simp[e1,e2,e3]
    .have e4:=mt Z5.1 e3
     simp only[e1,e2,e3,e4,decide_true,decide_false,if_true,ZZf,if_false,Vbx,Vdw]
   .simp[e1,e2]
  .simp[e1]
 .unfold Zhb Zi6 Ziz
  rw[ZZi (by simp)];show (if decide (b.holder≥0)=true then (idx (Qr b) b.holder).bind _ else _)=_;by_cases e:b.holder=-1
  .rw[ZZi (by simp;omega),ZZi (by simp)]
   exact hL2 λhx=>hx.1 e
  .have hw:=(Zen h e).1
   have hmb:=X5 hw;rw[ZZj (by simpa using hmb.1),Xj hmb.1 (by rw[Zds];omega),ZZa,Zu6 h hw];by_cases e2:Kh b b.holder=true
   .have hpk:Zac b=(b.holder,3,b):=by
     unfold Zac;rw[ZZj ⟨e,e2⟩]
    rw[ZZj e2];have hfu:FU=(FU - 1)+1:=by decide
    show Zag b FU b (Zf.mk false b.holder 0 false 3 0 0 false) (Qr b) ((0:Nat):Int)=_;rw[hfu,hgo _ _ _ _ _ hmb.1];unfold K7;rw[hpk,ZZi (by simp;omega)];exact Z7u b h hw e2
   .rw[ZZi e2]
    exact hL2 λhx=>e2 hx.2
theorem Yr5 {α:Type} {X Y:List α} (hl:X.length=Y.length) {k:Nat} (hk:k < Y.length):idx (X.take k++Y.drop k) (k:Int)=some Y[k]/\(X.take k++Y.drop k).set k (X[k]'(by omega))=X.take (k+1)++Y.drop (k+1):=by
 have h1:(X.take k).length=k:=by rw[Vbr];omega
 constructor
 .rw[Xp (by simp;omega)]
  simp[List.getElem_append_right,h1]
 .rw[Veg _ _ (by omega),h1,Vej,Va2 hk,Vdr,List.take_succ_eq_append_getElem (show k < X.length by omega),List.append_assoc]
  rfl
def Zk8 (c:Za) (k:Nat):Za:={c with splits:=(Xc c).splits.take k++c.splits.drop k,buckets:=(Xc c).buckets.take k++c.buckets.drop k}
theorem Ysm (c:Za):Zk8 c 0=c:=by simp[Zk8]
theorem Yij (h:Yw n b):Zk8 b b.conf.masters.length=Xc b:=by
 have h1:=h.sl;have h2:=h.bl;unfold Zk8 Xc;simp only;rw[Vbi (by simp;omega),Vcq (by omega),Vbi (by simp;omega),Vcq (by omega),Vb1,Vb1]
theorem Yd3 (h:Yw n b) {k:Nat} (hk:k < b.conf.masters.length):idx (Zk8 b k).splits (k:Int)=some (atI b.splits (k:Int))/\(Zk8 b k).splits.set k (max (atI b.splits (k:Int) - 1) 0)=(Zk8 b (k+1)).splits/\
  idx (Zk8 b k).buckets (k:Int)=some (atI b.buckets (k:Int))/\(Zk8 b k).buckets.set k (Zrn (atI b.buckets (k:Int)) (atI b.conf.masters (k:Int)))=(Zk8 b (k+1)).buckets:=by
 have h1:=h.sl;have h2:=h.bl;have m1:=Yr5 (X:=(Xc b).splits) (Y:=b.splits) (by simp[Xc]) (k:=k) (by omega);have m2:=Yr5 (X:=(Xc b).buckets) (Y:=b.buckets) (by simp[Xc];omega) (k:=k) (by omega);rw[Wk (by omega),Wk (by omega),Wk hk];refine⟨m1.1,?_,m2.1,?_⟩
 .have:=m1.2
  simp only[Xc,List.getElem_map] at this;exact this
 .have:=m2.2
  simp only[Xc,List.getElem_zipWith] at this;exact this
end
section
variable {n:Int} {b:Za} {s:Zg}
theorem Ya4 (h:Yw n b) (s:Zg) (hd:b.data_=Zf.z0):Yw n (Y7 b)/\Yw n (Qt (Y7 b) s):=⟨Ycl h,(Yby (Ycl h) s (by rw[(Zwj b).1];exact hd)).1⟩
theorem Ylm (x0:Za) (w:Zq) (h:Yw n b) (hs:s.sm) (hd:b.data_=Zf.z0) (hp:0<=b.picks/\b.picks<=4000) (hn:0<=b.now/\b.now<=4000):(if decide (b.holder≠(-1))=true then K8 x0 s b w (decide (b.held=b.conf.lockMost)) else K8 x0 s b w false)=some ({w with got:=(Wr b s).1},{(Wr b s).2 with now:=b.now+1}):=by
 obtain⟨h1,h2⟩:=Ya4 h s hd;have e1:=Zwj b;have hJ9:∀(c:Za) (w:Zq),Yw n c->c.now=b.now->Zeb x0 s c w=some ({w with got:=(K7 c).1},{(K7 c).2 with now:=b.now+1}):=by
  intro c w hc hcn;unfold Zeb Zew;rw[Yux hc,ZZa];simp only;rw[(Z3u hc).1,hcn,Yn (by omega) (by omega)]
 have hJ8:∀w:Zq,Zce x0 s (Y7 b) w=some ({w with got:=(Wr b s).1},{(Wr b s).2 with now:=b.now+1}):=by
  intro w;unfold Zce Wr;have e2:=Z3o (Y7 b) s;by_cases hl:(Y7 b).addr.live=true
  .rw[ZZj hl,Yqt h1 hs hl,ZZa,Yn (by rw[e1.2.2.1];omega) (by rw[e1.2.2.1];omega)]
   have hb:Qt (Y7 b) s={Y7 b with addr:=Zf.z0,data_:={(Y7 b).addr with left:=(Zda (Y7 b) s (Y7 b).addr).2,resp:=(Zda (Y7 b) s (Y7 b).addr).1},picks:=(Y7 b).picks+1}:=by
    unfold Qt;rw[ZZj hl]
   rw[<-hb];exact hJ9 _ _ h2 (by rw[e2.1,e1.2.2.2.1])
  .rw[ZZi hl]
   have hb:Qt (Y7 b) s=Y7 b:=by
    unfold Qt;rw[ZZi hl]
   rw[hb];exact hJ9 _ _ h1 e1.2.2.2.1
 have hJ6:K8 x0 s b w false=Zce x0 s b w:=by unfold K8;rw[ZZi (by simp)]
 by_cases e:b.holder=-1
 .have hb:Y7 b=b:=by unfold Y7;rw[ZZi (λhx:b.holder≠-1/\b.held=b.conf.lockMost=>hx.1 e)]
  rw[ZZi (by simpa using e),hJ6];have:=hJ8 w
  rwa [hb] at this
 .rw[ZZj (by simpa using e)]
  by_cases e2:b.held=b.conf.lockMost
  .have hb:Y7 b=Ytf {b with m:=b.m.set b.holder.toNat {atI b.m b.holder with broken:=true}}:=by unfold Y7;rw[ZZj ⟨e,e2⟩]
   unfold K8 Zl7;rw[decide_eq_true e2,ZZj rfl,X7 h.ml (Zen h e).1,ZZa,Wt,ZZa,ZZa];have:=hJ8 w;rw[hb] at this;exact this
  .have hb:Y7 b=b:=by unfold Y7;rw[ZZi (λhx:b.holder≠-1/\b.held=b.conf.lockMost=>e2 hx.2)]
   rw[decide_eq_false e2,hJ6];have:=hJ8 w
   rwa [hb] at this
theorem Ymz (x0:Za) (w:Zq) (h:Yw n b) (hs:s.sm) (hd:b.data_=Zf.z0) (hp:0<=b.picks/\b.picks<=4000) (hn:0<=b.now/\b.now<=4000) (hg:w.got=-1):(if decide (b.holder≥0)=true then Jw x0 s b w (decide (b.held≥b.conf.lockMost)) else Jw x0 s b w false)=some ({(Wr b s).2 with now:=b.now+1},{w with got:=(Wr b s).1}):=by
 obtain⟨h1,h2⟩:=Ya4 h s hd;have e1:=Zwj b;have e2:=Z3o (Y7 b) s;have hz:=(Yby h1 s (by rw[e1.1];exact hd)).2;have hJ9:Zc6 x0 s (Y7 b) w=some ({(Wr b s).2 with now:=b.now+1},{w with got:=(Wr b s).1}):=by
  unfold Zc6 Zc9 Wr;have hgr:=Ytl h2;have hgd:=(Z3u h2).1;rw[Yuc h1 hs (by rw[e1.2.2.1];exact hp),ZZa,hgr,ZZa];have hpk:=Zvh h2;rw[hgd,e2.1,e1.2.2.2.1,Yn (by omega) (by omega)];unfold K7;rcases hpk.who with hw|hw
  .rw[ZZj (show (Zac (Qt (Y7 b) s)).1 < 0 by rw[hw];decide)]
   have:(Zac (Qt (Y7 b) s)).2.2.addr.live=false:=by rw[hpk.addr,hz]
   rw[ZZi (by simp[this])];rw[show (-1,(Zac (Qt (Y7 b) s)).2.2).1=w.got from hg.symm]
  .have hmb:=X5 hw.1
   rw[ZZi (show ¬(Zac (Qt (Y7 b) s)).1 < 0 by omega),ZZj (by rfl)];rfl
 have hh:=Z0h h;have Z5:b.holder≥0↔b.holder≠-1:=by
  rcases hh with hh|hh
  .omega
  .have:=X5 hh;omega
 have hJ7:Jw x0 s b w false=Zc6 x0 s b w:=by unfold Jw;rw[ZZi (by simp)]
 by_cases e:b.holder=-1
 .have hb:Y7 b=b:=by unfold Y7;rw[ZZi (λhx:b.holder≠-1/\b.held=b.conf.lockMost=>hx.1 e)]
  rw[ZZi (by simp;omega),hJ7]
  rwa [hb] at hJ9
 .rw[ZZj (by simpa using Z5.2 e)]
  have hhe:=(Zen h e).2.2.2;by_cases e2:b.held=b.conf.lockMost
  .have hb:Y7 b=Ytf {b with m:=b.m.set b.holder.toNat {atI b.m b.holder with broken:=true}}:=by unfold Y7;rw[ZZj ⟨e,e2⟩]
   unfold Jw;rw[decide_eq_true (show b.held≥b.conf.lockMost by omega),ZZj rfl,X7 h.ml (Zen h e).1,ZZa,Wt,ZZa];rw[hb] at hJ9;exact hJ9
  .have hb:Y7 b=b:=by unfold Y7;rw[ZZi (λhx:b.holder≠-1/\b.held=b.conf.lockMost=>e2 hx.2)]
   rw[decide_eq_false (show ¬b.held≥b.conf.lockMost by omega),hJ7]
   rwa [hb] at hJ9
theorem Y29 (x0:Za) (w:Zq) (h:Yw b.now b) (hs:s.sm) (hw:w.ready=true) (hg:w.resp=0) (hp:0<=b.picks/\b.picks<=4000) (hn:0<=b.now/\b.now < 4000):
  K3 x0 s b w=some (if (Ya b s).2.1=true then ({w with resp:=(Ya b s).2.2,got:=(Wr (Ya b s).1 s).1},{(Wr (Ya b s).1 s).2 with now:=b.now+1}) else ({w with ready:=false,resp:=(Ya b s).2.2},{(Ya b s).1 with now:=b.now+1})):=by
 have hf:=Z6d s hn.1 h;have hfn:=Z4m b s;obtain⟨w1,w2,w3,w4,w5,w6,rdy,rsp,w9⟩:=w;simp only at hw hg;subst hw;subst hg;unfold K3;rw[Yq0 (Zq.mk w1 w2 w3 w4 w5 w6 true 0 w9) h hs (by omega),ZZa];simp only;have hresp:(if b.data_.live=true/\¬b.data_.left > 0 then Zq.mk w1 w2 w3 w4 w5 w6 true b.data_.resp w9 else Zq.mk w1 w2 w3 w4 w5 w6 true 0 w9)=Zq.mk w1 w2 w3 w4 w5 w6 true (Ya b s).2.2 w9:=by
  unfold Ya;by_cases hd:b.data_.live=true
  .by_cases hl:b.data_.left > 0
   .rw[ZZi (λhx:b.data_.live=true/\¬b.data_.left > 0=>hx.2 hl),ZZi (by simp[hd]),ZZj hl]
   .rw[ZZj ⟨hd,hl⟩,ZZi (by simp[hd]),ZZi hl]
    congr 1
    split
    .rfl
    .split
     .rfl
     .split<;>rfl
  .rw[ZZi (λhx:b.data_.live=true/\¬b.data_.left > 0=>hd hx.1),ZZj (by simpa using hd)]
 rw[hresp];by_cases hr:(Ya b s).2.1=true
 .rw[ZZj hr,ZZj hr]
  simp only[hr];have:=Ylm x0 (Zq.mk w1 w2 w3 w4 w5 w6 true (Ya b s).2.2 w9) hf.1 hs (hf.2 hr) (by rw[hfn.2.1];exact hp) (by rw[hfn.1];omega);rw[hfn.1] at this;exact this
 .rw[ZZi hr,ZZi hr]
  unfold Zew;have Z8:(Ya b s).2.1=false:=by simpa using hr
  rw[Z8,hfn.1,Yn (by omega) (by omega)]
theorem Y18 (x0:Za) (w:Zq) (h:Yw b.now b) (hs:s.sm) (hw:w.ready=true) (hg:w.resp=0) (hgot:w.got=-1) (hp:0<=b.picks/\b.picks<=4000) (hn:0<=b.now/\b.now < 4000):
  Jv x0 s b w=some (if (Ya b s).2.1=true then ({(Wr (Ya b s).1 s).2 with now:=b.now+1},{w with resp:=(Ya b s).2.2,got:=(Wr (Ya b s).1 s).1}) else ({(Ya b s).1 with now:=b.now+1},{w with ready:=false,resp:=(Ya b s).2.2})):=by
 have hf:=Z6d s hn.1 h;have hfn:=Z4m b s;have Yhz:=(Wz h.conf).2.1;obtain⟨w1,w2,w3,w4,w5,w6,rdy,rsp,w9⟩:=w;simp only at hw hg hgot;subst hw;subst hg;subst hgot;have hT:∀w2:Zq,w2.ready=true->w2.got=-1->(Ya b s).2.1=true->Q1 x0 s (Ya b s).1 w2=some ({(Wr (Ya b s).1 s).2 with now:=b.now+1},{w2 with got:=(Wr (Ya b s).1 s).1}):=by
  intro w2 h1 h2 hr;unfold Q1;rw[ZZj h1];have:=Ymz x0 w2 hf.1 hs (hf.2 hr) (by rw[hfn.2.1];exact hp) (by rw[hfn.1];omega) h2;rw[hfn.1] at this;exact this
 have hF:∀(c:Za) (w2:Zq),w2.ready=false->c.now=b.now->Q1 x0 s c w2=some ({c with now:=b.now+1},w2):=by
  intro c w2 h1 h2;unfold Q1 Zc9;rw[ZZi (by simp[h1]),h2,Yn (by omega) (by omega)]
 unfold Jv Zki;by_cases hd:b.data_.live=true
 .have Zaw:=h.data
  unfold Qz at Zaw;rw[ZZj hd] at Zaw;rw[ZZj hd];by_cases hl:b.data_.left > 0
  .have e:Ya b s=({b with data_:={b.data_ with left:=b.data_.left - 1}},false,0):=by
    unfold Ya;rw[ZZi (by simp[hd]),ZZj hl]
   rw[decide_eq_true hl,ZZj rfl,Xa (by omega) (by omega),hF {b with data_:={b.data_ with left:=b.data_.left - 1}} (Zq.mk w1 w2 w3 w4 w5 w6 false 0 (-1)) rfl rfl,e,ZZi (by simp)]
  .rw[decide_eq_false hl,ZZi (by simp),ZZj hd]
   have Yf0:¬(b.data_.resp≠0/\b.data_.second=false)->Js x0 s b (Zq.mk w1 w2 w3 w4 w5 w6 true 0 (-1)) false=some (if (Ya b s).2.1=true then ({(Wr (Ya b s).1 s).2 with now:=b.now+1},Zq.mk w1 w2 w3 w4 w5 w6 true (Ya b s).2.2 (Wr (Ya b s).1 s).1) else ({(Ya b s).1 with now:=b.now+1},Zq.mk w1 w2 w3 w4 w5 w6 false (Ya b s).2.2 (-1))):=by
    intro hns;unfold Js;rw[ZZi (by simp),ZZj hd,Yrm h hs (by omega) hd hl hns,ZZa];have hr:(Ya b s).2.1=true/\(Ya b s).2.2=b.data_.resp:=by
     unfold Ya;rw[ZZi (by simp[hd]),ZZi hl,ZZi hns];split
     .exact⟨rfl,rfl⟩
     .split<;>exact⟨rfl,rfl⟩
    rw[ZZj hr.1,hr.2];exact hT _ rfl rfl hr.1
   by_cases h2:b.data_.resp≠0
   .rw[ZZj (decide_eq_true h2)]
    by_cases h3:b.data_.second=false
    .rw[h3]
     have e:Ya b s=(if b.addr.live then {Wc {b with data_:={b.data_ with second:=true}} b.addr with addr:=Zf.z0} else {b with data_:={b.data_ with second:=true}},false,b.data_.resp):=by
      unfold Ya;rw[ZZi (by simp[hd]),ZZi hl,ZZj ⟨h2,h3⟩]
     have hq:∀(x y:Option (Za×Zq)),(if (Ya b s).2.1=true then x else y)=y:=by
      intro x y;rw[e];exact ZZi (by simp)
     have hq2:(some (if (Ya b s).2.1=true then ({(Wr (Ya b s).1 s).2 with now:=b.now+1},Zq.mk w1 w2 w3 w4 w5 w6 true (Ya b s).2.2 (Wr (Ya b s).1 s).1) else ({(Ya b s).1 with now:=b.now+1},Zq.mk w1 w2 w3 w4 w5 w6 false (Ya b s).2.2 (-1))))=some ({(Ya b s).1 with now:=b.now+1},Zq.mk w1 w2 w3 w4 w5 w6 false b.data_.resp (-1)):=by
      rw[show (Ya b s).2.2=b.data_.resp by rw[e]];exact congrArg some (ZZi (by rw[e];simp))
     refine Eq.trans ?_ hq2.symm;unfold Js;rw[ZZj (by rfl),show (Ya b s).1=(if b.addr.live then {Wc {b with data_:={b.data_ with second:=true}} b.addr with addr:=Zf.z0} else {b with data_:={b.data_ with second:=true}}) by rw[e]];by_cases ha:b.addr.live=true
     .rw[ZZj ha,ZZj ha]
      have hwa:=Za3 h ha;rw[Z1p (b:={b with addr:=Zf.z0,data_:={b.data_ with second:=true}}) b.addr h.conf hwa h.ml h.bl (h.mst _ hwa).right h.arb,ZZa];have er:Wc {b with addr:=Zf.z0,data_:={b.data_ with second:=true}} b.addr={Wc {b with data_:={b.data_ with second:=true}} b.addr with addr:=Zf.z0}:=by
       unfold Wc;split
       .rfl
       .split<;>rfl
      rw[er];exact hF _ _ rfl (Zw5 _ _).1
     .rw[ZZi ha,ZZi ha]
      exact hF _ _ rfl rfl
    .have h4:b.data_.second=true:=by simpa using h3
     rw[h4,Va5];exact Yf0 λhx=>h3 hx.2
   .rw[ZZi (by simpa using h2)]
    exact Yf0 λhx=>h2 hx.1
 .have hd2:b.data_.live=false:=by simpa using hd
  have e:Ya b s=(b,true,0):=by unfold Ya;rw[ZZj hd2]
  rw[ZZi hd,ZZi (by simp),ZZi hd];unfold Js;have:=hT (Zq.mk w1 w2 w3 w4 w5 w6 true 0 (-1)) rfl rfl (by rw[e]);rw[e] at this ⊢;rw[ZZi (by simp),ZZi hd,ZZj rfl];simp only at this ⊢;rw[this]
theorem Y3f (x0:Za) (w:Zq) (h:Yw b.now b) (hs:s.sm) (hw:w.ready=true) (hg:w.resp=0) (hp:0<=b.picks/\b.picks<=4000) (hn:0<=b.now/\b.now < 4000):
  Zaj x0 s FU b w (b.splits.length:Int) 0=K3 x0 s (Jl (Xc b)) w:=by
 have Yl:=Jr h.conf;have hsl:=h.sl;rw[hsl];have:=Zcb (σ:=Za×Zq×Int) (n:=b.conf.masters.length) (by omega) (λk=>(Zk8 b k,w,(b.conf.masters.length:Int))) (B:=λκ st i=>Zg9 x0 s (λa b c i=>κ (a,b,c) i) st.1 st.2.1 st.2.2 i) (L:=λm st i=>Zaj x0 s m st.1 st.2.1 st.2.2 i) (λm s i=>rfl) (r:=K3 x0 s (Jl (Xc b)) w) (λk hk κ=>?_) λκ=>?_
 .simp only[Ysm] at this
  exact this
 .have hmk:=mas (c:=b.conf) hk
  obtain⟨t1,t2,t3,t4⟩:=Yd3 h hk;have hsp:=(h.mst _ hmk).split;have hlm:=(Wz h.conf).2.2.2;unfold Zg9;simp only;rw[ZZj (by simpa using hk),t1,ZZa,Wt,ZZa,t3,ZZa,show (Zk8 b k).conf=b.conf from rfl,Zzv hmk,ZZa,Yda _ (Zhi h.conf hmk),ZZa,Wt,ZZa,Xa (by omega) (by omega),Znt,Vcb,t2,t4];rfl
 .have hto:=Z5d h
  unfold Zg9;simp only[Yij h];rw[ZZi (by simp)];unfold Jl;by_cases e:b.holder=-1
  .rw[ZZi (by simp[Xc,e]),ZZj (show (Xc b).holder=-1 from e)]
  .have hh:=(Zen hto (show (Xc b).holder≠-1 from e)).2.2.2
   have hl:=(Wz h.conf).2.2.1;have h3:(Xc b).conf.lockMost=b.conf.lockMost:=rfl;rw[ZZj (by simp[Xc,e]),ZZi (show ¬(Xc b).holder=-1 from e),Yn (by omega) (by omega),Zb2]
theorem Y17 (x0:Za) (w:Zq) (h:Yw b.now b) (hs:s.sm):Za5 x0 s FU b w 0=Jv x0 s (Jl (Xc b)) w:=by
 have Yl:=Jr h.conf;have hml:=h.ml;have:=Zcb (σ:=Za×Zq) (n:=b.conf.masters.length) (by omega) (λk=>(Zk8 b k,w)) (B:=λκ st i=>Zjo x0 s (λa b i=>κ (a,b) i) st.1 st.2 i) (L:=λm st i=>Za5 x0 s m st.1 st.2 i) (λm s i=>rfl) (r:=Jv x0 s (Jl (Xc b)) w) (λk hk κ=>?_) λκ=>?_
 .simp only[Ysm] at this
  exact this
 .have hmk:=mas (c:=b.conf) hk
  obtain⟨t1,t2,t3,t4⟩:=Yd3 h hk;have hsp:=(h.mst _ hmk).split;have hlm:=(Wz h.conf).2.2.2;unfold Zjo;simp only;rw[ZZj (by show decide ((k:Int) < (b.m.length:Int))=true;rw[hml];simpa using hk),t1,ZZa,Wt,ZZa,t3,ZZa,show (Zk8 b k).conf=b.conf from rfl,Zzv hmk,ZZa,Yd8 _ (Zhi h.conf hmk),ZZa,Wt,ZZa,Xa (by omega) (by omega),Znt,Int.max_comm,Vcb,t2,t4];rfl
 .have hto:=Z5d h
  have hh:=Z0h h;unfold Zjo;simp only[Yij h];rw[ZZi (by show ¬decide ((b.conf.masters.length:Int) < (b.m.length:Int))=true;rw[hml];simp)];unfold Jl;by_cases e:b.holder=-1
  .rw[ZZi (by show ¬decide (b.holder≥0)=true;rw[e];simp),ZZj (show (Xc b).holder=-1 from e)]
  .have hh2:=(Zen hto (show (Xc b).holder≠-1 from e)).2.2.2
   have hl:=(Wz h.conf).2.2.1;have h3:(Xc b).conf.lockMost=b.conf.lockMost:=rfl;have hmb:=X5 (Zen h e).1;rw[ZZj (by show decide (b.holder≥0)=true;simpa using hmb.1),ZZi (show ¬(Xc b).holder=-1 from e),Yn (by omega) (by omega),Zb2,Vdo]
theorem Yrt (h:Yw n b):Zhu b s=Zet b s (Zkx b):=by
 unfold Zhu Zej Zkx;by_cases ha:b.addr.live=true
 .have hwa:=Za3 h ha
  by_cases hd:b.data_.live=true
  .have hwd:=Qs h hd
   simp only[ha,hd,if_true,X7 h.ml hwa,X7 h.ml hwd,ZZa,Zeg _ (h.mst _ hwa).right,Zeg _ (h.mst _ hwd).right];by_cases hf:b.addr.first=true<;>simp[hf]
  .have hd2:b.data_.live=false:=by simpa using hd
   simp only[ha,hd2,if_true,ZZf,if_false,X7 h.ml hwa,ZZa,Zeg _ (h.mst _ hwa).right];by_cases hf:b.addr.first=true<;>simp[hf]
 .have Ka:b.addr.live=false:=by simpa using ha
  by_cases hd:b.data_.live=true
  .have hwd:=Qs h hd
   simp only[Ka,hd,if_true,ZZf,if_false,X7 h.ml hwd,ZZa,Zeg _ (h.mst _ hwd).right]
  .have hd2:b.data_.live=false:=by simpa using hd
   simp only[Ka,hd2,if_true,ZZf,if_false]
theorem Yxj (h:Yw n b):Zt0 b=some (Zkx b):=by
 unfold Zt0 Zf7 Zkx;by_cases ha:b.addr.live=true
 .have hwa:=Za3 h ha
  by_cases hd:b.data_.live=true
  .have hwd:=Qs h hd
   simp only[ha,hd,if_true,X7 h.ml hwa,X7 h.ml hwd,ZZa,Zhy _ (h.mst _ hwa).right,Zhy _ (h.mst _ hwd).right];by_cases hf:b.addr.first=true<;>simp[hf]
  .have hd2:b.data_.live=false:=by simpa using hd
   simp only[ha,hd2,if_true,ZZf,if_false,X7 h.ml hwa,ZZa,Zhy _ (h.mst _ hwa).right];by_cases hf:b.addr.first=true<;>simp[hf]
 .have Ka:b.addr.live=false:=by simpa using ha
  by_cases hd:b.data_.live=true
  .have hwd:=Qs h hd
   simp only[Ka,hd,if_true,ZZf,if_false,X7 h.ml hwd,ZZa,Zhy _ (h.mst _ hwd).right]
  .have hd2:b.data_.live=false:=by simpa using hd
   simp only[Ka,hd2,if_true,ZZf,if_false]
theorem Y3l (x0:Za) (w:Zq) (h:Yw n b) (ps:List Zv) (hps:ps.length < 1048577/\∀p∈ps,p.req.sm):Zee x0 s FU b w ps (ps.length:Int) 0=Zaj x0 s FU (Xo b ps) w ((Xo b ps).splits.length:Int) 0:=by
 have Z5:=Zb9 h.conf;have:=Zcb (σ:=Za×Zq×List Zv×Int) (n:=ps.length) (by omega) (λk=>(Xo b (ps.take k),w,ps,(ps.length:Int))) (B:=λκ st i=>Zg4 x0 s (λa b c d i=>κ (a,b,c,d) i) st.1 st.2.1 st.2.2.1 st.2.2.2 i) (L:=λm st i=>Zee x0 s m st.1 st.2.1 st.2.2.1 st.2.2.2 i) (λm s i=>rfl) (r:=Zaj x0 s FU (Xo b ps) w ((Xo b ps).splits.length:Int) 0) (λk hk κ=>?_) λκ=>?_
 .exact this
 .have hI:=Zrt h (ps.take k)
  have hc:=(Zl8 b (ps.take k)).1;rw[Z65 b ps k hk];generalize Xo b (ps.take k)=c at hI hc ⊢;unfold Zg4 Ko;simp only;rw[ZZj (by simpa using hk),Xp hk,ZZa,Jf _ _ (by rw[hc];exact Z5),ZZa];by_cases e:Zr c.conf ps[k].who=true
  .obtain⟨ok,hp⟩:=Ym7 (r:=ps[k].req) (hI.mst _ e).right (hps.2 _ (Vao hk))
   rw[ZZj e,ZZj e,X7 hI.ml e,ZZa,hp,ZZa,Wt,ZZa]
  .rw[ZZi e,ZZi e]
 .unfold Zg4
  simp only;rw[ZZi (by simp),Vbl]
theorem Y1p (x0:Za) (w:Zq) (h:Yw n b) (ps:List Zv) (hps:ps.length < 1048577/\∀p∈ps,p.req.sm):Zfp x0 s FU b w ps 0=Za5 x0 s FU (Xo b ps) w 0:=by
 have Z5:=Zb9 h.conf;have:=Zcb (σ:=Za×Zq×List Zv) (n:=ps.length) (by omega) (λk=>(Xo b (ps.take k),w,ps)) (B:=λκ st i=>Zjf x0 s (λa b c i=>κ (a,b,c) i) st.1 st.2.1 st.2.2 i) (L:=λm st i=>Zfp x0 s m st.1 st.2.1 st.2.2 i) (λm s i=>rfl) (r:=Za5 x0 s FU (Xo b ps) w 0) (λk hk κ=>?_) λκ=>?_
 .exact this
 .have hI:=Zrt h (ps.take k)
  have hc:=(Zl8 b (ps.take k)).1;rw[Z65 b ps k hk];generalize Xo b (ps.take k)=c at hI hc ⊢;unfold Zjf Ko;simp only;rw[ZZj (by simpa using hk),Xp hk,ZZa,Zjs hI.ml (by rw[hc];exact Z5),ZZa];by_cases e:Zr c.conf ps[k].who=true
  .obtain⟨ok,hp⟩:=Yly (r:=ps[k].req) (hI.mst _ e).right (hps.2 _ (Vao hk))
   rw[ZZj e,ZZj e,X7 hI.ml e,ZZa,hp,ZZa,Wt,ZZa]
  .rw[ZZi e,ZZi e]
 .unfold Zjf
  simp only;rw[ZZi (by simp),Vbl]
end
theorem Yh8 {b:Za} {s:Zg} (h:Zgr b) (hs:s.sm) (hn:b.now < 4000):Zhu b s=some ((Zdt b s).2,(Zdt b s).1):=by
 have hP:=Zrt h.i (Za7 s b.now);have hc:=Zl8 b (Za7 s b.now);have hp:=h.picks;have hn2:=h.now;have hO:=Yhv h s;have eO:=Z6y b s;rw[Yrt h.i];unfold Zet;rw[Yn8 _ _ hs,ZZa,Y3l b (Zkx b) h.i _ (Ym8 hs _)];have hP2:Yw (Xo b (Za7 s b.now)).now (Xo b (Za7 s b.now)):=by rw[hc.2.1];exact hP
 rw[Y3f b (Zkx b) hP2 hs rfl rfl (by rw[hc.2.2.1];omega) (by rw[hc.2.1];omega)];have hO2:Yw (Kn b s).now (Kn b s):=by rw[eO.1];exact hO
 show K3 b s (Kn b s) (Zkx b)=_;rw[Y29 b (Zkx b) hO2 hs rfl rfl (by rw[eO.2.2.1];omega) (by rw[eO.1];omega),eO.1];unfold Zdt;split<;>rfl
theorem Yio {b:Za} {s:Zg} (h:Zgr b) (hs:s.sm) (hn:b.now < 4000):Zuo b s=some ((Zdt b s).1,(Zdt b s).2):=by
 have hP:=Zrt h.i (Za7 s b.now);have hc:=Zl8 b (Za7 s b.now);have hp:=h.picks;have hn2:=h.now;have hO:=Yhv h s;have eO:=Z6y b s;unfold Zuo;rw[Z69 b h.sm,ZZa,Yxj h.i,ZZa,Ylr _ _ hs,ZZa,Y1p b (Zkx b) h.i _ (Ym8 hs _)];have hP2:Yw (Xo b (Za7 s b.now)).now (Xo b (Za7 s b.now)):=by rw[hc.2.1];exact hP
 rw[Y17 b (Zkx b) hP2 hs];have hO2:Yw (Kn b s).now (Kn b s):=by rw[eO.1];exact hO
 show Jv b s (Kn b s) (Zkx b)=_;rw[Y18 b (Zkx b) hO2 hs rfl rfl rfl (by rw[eO.2.2.1];omega) (by rw[eO.1];omega),eO.1];unfold Zdt;split<;>rfl
def okB (b:Za):Bool:=(Zmv b).getD false
theorem Ysr {b:Za} (hs:b.sm):okB b=true↔Zgr b:=by
 obtain⟨r,-,h2,h3⟩:=Yb4 b hs;unfold okB;rw[h2];exact h3
theorem i_okB {b:Za} (hs:b.sm):Zqf b=some (okB b):=by
 obtain⟨r,h1,h2,h3⟩:=Yb4 b hs;unfold okB;rw[h1,h2];rfl
theorem s_okB {b:Za} (hs:b.sm):Zmv b=some (okB b):=by
 obtain⟨r,h1,h2,h3⟩:=Yb4 b hs;unfold okB;rw[h2];rfl
def K5 (c:Zh):Za:={Za.z0 with conf:=c,m:=List.replicate c.masters.length Zd.z0,buckets:=c.masters.map Zuu,splits:=List.replicate c.masters.length 0,holder:=-1,last:=-1,model:=Zj.mk (List.replicate 192 0) (Zl.mk (List.replicate 4 0) 0 [])}
def Z9c (c:Zh):Za×Bool:=if Y6 c=true then (K5 c,true) else (Za.z0,false)
theorem Yrr:Z48=some (Zl.mk (List.replicate 4 0) 0 []):=rfl
theorem Yj8:Zr7=some (Zj.mk (List.replicate 192 0) (Zl.mk (List.replicate 4 0) 0 [])):=by
 unfold Zr7;rw[show (192:Int)=((192:Nat):Int) from rfl,Z2e (by decide) (by decide),ZZa,Yrr];rfl
theorem Yju:Zqy=some (Zj.mk (List.replicate 192 0) (Zl.mk (List.replicate 4 0) 0 [])):=by
 unfold Zqy
 first
 | rfl
 | (rw[show (192:Int)=((192:Nat):Int) from rfl,Z2e (by decide) (by decide),ZZa];rfl)
def Zfa (c:Zh) (k:Nat):Za:={K5 c with m:=List.replicate k Zd.z0,buckets:=(c.masters.take k).map Zuu,splits:=List.replicate k 0}
theorem Yim (c:Zh) {k:Nat} (hk:k < c.masters.length):Zfa c (k+1)={Zfa c k with m:=(Zfa c k).m++[Zd.z0],buckets:=(Zfa c k).buckets++[Zuu c.masters[k]],splits:=(Zfa c k).splits++[0]}:=by
 unfold Zfa;simp only[List.replicate_succ'];rw[List.take_succ_eq_append_getElem hk,Vcn];rfl
theorem Yn6 (c:Zh):Zfa c c.masters.length=K5 c:=by
 unfold Zfa;rw[Vbl];rfl
theorem Yry (c:Zh) (hl:c.masters.length < 1048577):Zwg c=some (Z9c c):=by
 unfold Zwg Z9c;rw[Zub c hl,ZZa];by_cases h:Y6 c=true
 .rw[h,ZZi (by simp),(Zz9 c hl).1,ZZa,Yju,ZZa,ZZj rfl]
  rw[<-Yn6 c];refine Zcb (σ:=Za) (n:=c.masters.length) (by omega) (Zfa c) (B:=Zkv c) (L:=Znj c) (λm s i=>rfl) (λk hk κ=>?_) λκ=>?_
  .unfold Zkv
   have e1:(Zfa c k).m.length=k:=by simp[Zfa]
   have e2:(Zfa c k).buckets.length=k:=by simp[Zfa];omega
   have e3:(Zfa c k).splits.length=k:=by simp[Zfa]
   rw[ZZj (by simpa using hk),Xp hk,ZZa,Wa (by simp only[Vaa,Vaq];omega) (by simp only[Vaa,Vaq];omega),ZZa,Ygs,ZZa,Wa (by simp only[Vaa,Vaq];omega) (by simp only[Vaa,Vaq];omega),ZZa,Wa (by simp only[Vaa,Vaq];omega) (by simp only[Vaa,Vaq];omega),ZZa,Yim c hk]
  .unfold Zkv
   rw[ZZi (by simp)]
 .simp[h]
theorem Yrh (c:Zh) (hl:c.masters.length < 1048577):Zwz c=some (Z9c c):=by
 unfold Zwz Z9c;rw[Zgp c hl,ZZa];by_cases h:Y6 c=true
 .rw[h,ZZi (by simp),(Zz9 c hl).2,ZZa,Yj8,ZZa,ZZj rfl]
  rw[<-Yn6 c];refine Zcb (σ:=Za) (n:=c.masters.length) (by omega) (Zfa c) (B:=Zlr c) (L:=Zn2 c) (λm s i=>rfl) (λk hk κ=>?_) λκ=>?_
  .unfold Zlr
   have e1:(Zfa c k).m.length=k:=by simp[Zfa]
   have e2:(Zfa c k).buckets.length=k:=by simp[Zfa];omega
   have e3:(Zfa c k).splits.length=k:=by simp[Zfa]
   rw[ZZj (by simpa using hk),Wa (by simp only[Vaa,Vaq];omega) (by simp only[Vaa,Vaq];omega),ZZa,Xp hk,ZZa,Yhu,ZZa,Wa (by simp only[Vaa,Vaq];omega) (by simp only[Vaa,Vaq];omega),ZZa,Wa (by simp only[Vaa,Vaq];omega) (by simp only[Vaa,Vaq];omega),ZZa,Yim c hk]
  .unfold Zlr
   rw[ZZi (by simp)]
 .simp[h]
theorem Yy9 (c:Zh) (i:Int):Kp (K5 c) i=0:=rfl
theorem Yke (c:Zh) {i:Int} (h:Zr c i=true):atI (K5 c).m i=Zd.z0:=by
 obtain⟨k,rfl,hk⟩:=Z20 h;have hk2:k < (K5 c).m.length:=by simpa [K5] using hk
 rw[Wk hk2];simp[K5]
theorem Yy1:Yq Zd.z0:=⟨by decide,by decide,λr hr=>absurd hr (by simp[Zd.z0]),λ_=>⟨rfl,rfl,rfl,rfl,rfl⟩,λh=>absurd rfl h⟩
theorem Yxo:Zdj (Zj.mk (List.replicate 192 0) (Zl.mk (List.replicate 4 0) 0 [])):=⟨Vcw,by show (List.replicate 192 (0:Int)).all Zbu=true;rw[List.all_replicate];rfl,⟨rfl,by show ∀v∈List.replicate 4 (0:Int),Xm v 2=true;decide,by show Xm 0 2=true;decide,by show 0<=4;decide,λv hv=>absurd hv (by show ¬v∈([]:List Int);simp)⟩⟩
theorem Ym0 {c:Zh} (h:Y6 c=true):Zgr (K5 c):=by
 have hl:=Jr h;have hm0:Zr c 0=true:=by simp only[Zr,ZZl];omega
 have hsl:0 < Kl c:=by
  have:=Zxy c;simp only[Y6,ZZg,ZZl] at h;omega
 have Yhz:=Wz h;have e0:(0:Int)<=0:=Vcj 0;refine⟨h,⟨e0,by show (0:Int)<=4000;omega⟩,by simp[K5],by simp[K5],by simp[K5],λi hi=>⟨by rw[Yke c hi];exact Yy1,?_,?_,?_⟩,?_,.inl rfl,?_,⟨e0,e0⟩,λhx=>absurd hx (by simp[K5,Za.z0,Zf.z0]),λhx=>absurd hx (by simp[K5,Za.z0,Zf.z0]),λi hi=>?_,?_,?_,⟨λi hi hb=>?_,?_⟩,λd hd=>absurd hd (by simp[K5,Za.z0]),?_⟩
 .rw[Yke c hi]
  show (0:Int)<=c.maxRetry;exact Yhz.1.1
 .obtain⟨k,rfl,hk⟩:=Z20 hi
  have hk2:k < (K5 c).buckets.length:=by simpa [K5] using hk
  have hk:k < c.masters.length:=hk;have hm:=Zhi h hi;show Yr (atI (K5 c).buckets k) (atI c.masters k)=true;rw[Wk hk] at hm ⊢;rw[Wk hk2];have:(K5 c).buckets[k]=Zuu c.masters[k]:=by simp[K5]
  rw[this];exact Y2v hm ⟨hsl,λhp=>List.countP_pos_iff.2 ⟨_,Vao hk,hp⟩⟩
 .obtain⟨k,rfl,hk⟩:=Z20 hi
  have hk2:k < (K5 c).splits.length:=by simpa [K5] using hk
  rw[Wk hk2];have:(K5 c).splits[k]=0:=by simp[K5]
  rw[this];exact⟨e0,by show (0:Int)<=c.maxSplit;omega⟩
 .show J2 Z6.z0 c=true
  unfold J2;have:=Ztl c 0;simp[h,hm0,Z6.z0,this.1]
 .exact Yxo
 .rw[Yke c hi,Yy9];rfl
 .unfold Km
  rw[ZZi (by simp[K5,Za.z0,Zf.z0])];rfl
 .unfold Qz
  rw[ZZi (by simp[K5,Za.z0,Zf.z0])];rfl
 .rw[Yke c hi] at hb
  exact absurd hb (by decide)
 .show if (-1:Int)=-1 then (0:Int)=0 else _
  rw[ZZj rfl]
 .exact List.Pairwise.nil
theorem Y2d {c:Zh} (h:Y6 c=true):Z9c c=(K5 c,true):=ZZj h
def Zm3 (b:Za):Bool:=b.m.all λm=>decide (m.queue=[])
theorem Ypv {b:Za} (hl:b.m.length < 1048577):Znm b=some (Zm3 b):=by
 unfold Znm Qd Qv;have e:∀a:Zd,Zeu a=some (!decide (a.queue=[])):=by
  intro a;unfold Zeu;by_cases h:a.queue=[]
  .simp[h]
  .have:=Van.2 h
   simp only[h,decide_false,Vbf];exact congrArg some (decide_eq_true (by omega))
 rcases Z4p b.m (by omega) Zeu (λm=>decide (m.queue=[])) (λa _=>e a) (Xy b.m) (λm i=>rfl) with⟨h1,h2⟩|⟨k,hk,h2,h3,-⟩
 .rw[h2]
  unfold Zm3;rw[h1];rfl
 .rw[h2]
  have:Zm3 b=false:=by
   unfold Zm3;rw[Vdz];exact⟨_,Vao hk,by rw[h3];simp⟩
  rw[this];simp
theorem Y0o {α ρ:Type} (xs:List α) (hl:xs.length < 4611686018427387904) (c:α->Bool) {no:Option ρ} (fin:Option ρ) (L:Nat->Int->Option ρ)
  (hL:∀m i,L (m+1) i=if decide (i < (xs.length:Int))=true then (idx xs i).bind λa=>if c a=true then no else L m (Zu i 1) else fin):L FU 0=if xs.any c=true then no else fin:=by
 have key:∀(m k:Nat),k<=xs.length->xs.length - k < m->L m (k:Int)=if (xs.drop k).any c=true then no else fin:=by
  intro m
  induction m with
  | zero=>intro k _ h;omega
  | succ m ih=>
   intro k hk hm;rw[hL];by_cases hc:k < xs.length
   .rw[ZZj (by simpa using hc),Xp hc,ZZa,X4 (by omega),ih (k+1) (by omega) (by omega),Va2 hc,Vcm]
    by_cases h:c xs[k]=true
    .simp[h]
    .simp[h]
   .rw[ZZi (by simpa using hc),Vcq (by omega)]
    simp
 have:=key FU 0 (Vbj _) (by have:=Qe;omega);simpa using this
theorem Yww (b:Za):(b.m.any λa=>decide ((a.queue.length:Int) > 0))=!Zm3 b:=by
 unfold Zm3;rw[List.not_all_eq_any_not]
 congr 1
 funext a
 by_cases h:a.queue=[]
 .simp[h]
 .have:=Van.2 h
  simp only[h,decide_false,Vbf];exact decide_eq_true (by omega)
def Zxc (s:Zg):Int:=s.posts.foldl (λm p=>Zkh m p.at_) (-1)
theorem Yjz (s:Zg) (hl:s.posts.length < 1048577):Zrv s=some (Zxc s):=by
 unfold Zrv;rw[Zze (ρ:=Int) s.posts (by omega) (λ(p:Zv) m=>some (.inl (Zkh m p.at_))) (λm=>some m) (Zjg s) (λm v i=>rfl) (-1)];exact Yix _ _ (λm (p:Zv)=>Zkh m p.at_) (λ_ _=>True) (λa l s _=>⟨rfl,trivial⟩) _ _ trivial
theorem Yjy (s:Zg) (hl:s.posts.length < 1048577):Zq9 s=some (Zxc s):=by
 unfold Zq9;rw[Zze (ρ:=Int) s.posts (by omega) (λ(p:Zv) m=>some (.inl (Zkh m p.at_))) (λm=>some m) (Zjh s) (λm v i=>rfl) (-1)];exact Yix _ _ (λm (p:Zv)=>Zkh m p.at_) (λ_ _=>True) (λa l s _=>⟨rfl,trivial⟩) _ _ trivial
theorem Ynd {b:Za} (hl:b.m.length < 1048577):Zt2 b=some (Zm3 b):=by
 unfold Zt2;rw[Y0o b.m (by omega) (λa=>decide ((a.queue.length:Int) > 0)) (some true) (Zlh b) (λm i=>rfl),Yww];cases Zm3 b<;>simp
def Zur (s:Zg) (b:Za):Prop:=b.now < 4000/\(Zm3 b=false\/b.now<=Zxc s)
instance (s:Zg) (b:Za):Decidable (Zur s b):=by unfold Zur;infer_instance
def Zhe (s:Zg):Nat->Za->Za
 | 0,b=>b
 | f+1,b=>if Zur s b then Zhe s f (Zdt b s).1 else b
def Z4g (b:Za) (s:Zg):Za×Int:=if okB b=true then (Zhe s (4000 - b.now).toNat b,(Zhe s (4000 - b.now).toNat b).now - b.now) else (b,0)
theorem Y25 (s:Zg):∀(f:Nat) {b:Za},Zgr b->f=(4000 - b.now).toNat->Zgr (Zhe s f b)/\¬Zur s (Zhe s f b)/\b.now<=(Zhe s f b).now/\(Zhe s f b).conf=b.conf:=by
 intro f
 induction f with
 | zero=>
  intro b h hf;have hn:=h.now;exact⟨h,λhx=>by have:=hx.1;simp only[Zhe] at this;omega,Vcj _,rfl⟩
 | succ f ih=>
  intro b h hf;have hn:=h.now;unfold Zhe;split
  .rename_i hg
   have hs:=Yhe h s hg.1;have:=ih hs.1 (by rw[hs.2.1];omega);rw[hs.2.1,hs.2.2] at this;exact⟨this.1,this.2.1,by omega,this.2.2.2⟩
  .rename_i hg
   exact⟨h,hg,Vcj _,rfl⟩
theorem Ypj {b:Za} {s:Zg} (hb:b.sm) (hs:s.sm):Zwr b s=some (Z4g b s):=by
 unfold Zwr Z4g;rw[Yar b hb,ZZa,i_okB hb,ZZa];by_cases h:okB b=true
 .have hP:=(Ysr hb).1 h
  have hN:=hP.now;rw[h,ZZi (by simp),ZZj rfl,Yjy s hs.posts,ZZa];have hJ:∀c:Za,Zgr c->b.now<=c.now->Zhx b s c=some (c,c.now - b.now):=by
   intro c hc hn;have:=hc.now;unfold Zhx;rw[Yar _ hc.sm,ZZa,Xa (by omega) (by omega)]
  have key:∀(f m:Nat) (c:Za),Zgr c->b.now<=c.now->f=(4000 - c.now).toNat->f < m->Zb8 b s m c (Zxc s)=some (Zhe s f c,(Zhe s f c).now - b.now):=by
   intro f
   induction f with
   | zero=>
    intro m c hc hn hf hm;obtain⟨m,rfl⟩:∃k,m=k+1:=⟨m - 1,by omega⟩;have:=hc.now;show Zfy b s (Zb8 b s m) c (Zxc s)=_;unfold Zfy;rw[ZZi (by simp;omega),hJ c hc hn];rfl
   | succ f ih=>
    intro m c hc hn hf hm;obtain⟨m,rfl⟩:∃k,m=k+1:=⟨m - 1,by omega⟩;have hcn:=hc.now;have hst:=Yhe hc s (by omega);have hgo:Zb8 b s m (Zdt c s).1 (Zxc s)=some (Zhe s f (Zdt c s).1,(Zhe s f (Zdt c s).1).now - b.now):=ih m _ hst.1 (by rw[hst.2.1];omega) (by rw[hst.2.1];omega) (by omega);show Zfy b s (Zb8 b s m) c (Zxc s)=_;unfold Zfy Zhe;have Z5:c.now < 4000:=by omega
    rw[ZZj (by simpa using Z5),Ypv hc.sm.ml,ZZa];by_cases hq:Zm3 c=true
    .rw[ZZi (by simp[hq])]
     by_cases hl:c.now<=Zxc s
     .rw[ZZj (by simpa using hl),Yh8 hc hs Z5,ZZa,ZZj (show Zur s c from⟨Z5,.inr hl⟩)]
      exact hgo
     .rw[ZZi (by simpa using hl),ZZi (show ¬Zur s c fromλhx=>hx.2.elim (λh1=>by rw[hq] at h1;exact absurd h1 (by decide)) hl),hJ c hc hn]
    .rw[ZZj (by simpa using hq),Yh8 hc hs Z5,ZZa,ZZj (show Zur s c from⟨Z5,.inl (by simpa using hq)⟩)]
     exact hgo
  exact key _ FU b hP (Vcj _) rfl (by have:=Qe;omega)
 .simp[h]
theorem Ypi {b:Za} {s:Zg} (hb:b.sm) (hs:s.sm):Zw2 b s=some (Z4g b s):=by
 unfold Zw2 Z4g;rw[Z69 b hb,ZZa,s_okB hb,ZZa];by_cases h:okB b=true
 .have hP:=(Ysr hb).1 h
  have hN:=hP.now;rw[h,ZZi (by simp),ZZj rfl];have key:∀(f m:Nat) (c:Za),Zgr c->b.now<=c.now->f=(4000 - c.now).toNat->f < m->Zb3 b s m c (c.now - b.now)=some (Zhe s f c,(Zhe s f c).now - b.now):=by
   intro f
   induction f with
   | zero=>
    intro m c hc hn hf hm;obtain⟨m,rfl⟩:∃k,m=k+1:=⟨m - 1,by omega⟩;have:=hc.now;show Zge b s (Zb3 b s m) c _=_;unfold Zge Zd5;rw[ZZi (by simp;omega),ZZi (by simp)];rfl
   | succ f ih=>
    intro m c hc hn hf hm;obtain⟨m,rfl⟩:∃k,m=k+1:=⟨m - 1,by omega⟩;have hcn:=hc.now;have hst:=Yhe hc s (by omega);have hgo:Zb3 b s m (Zdt c s).1 ((Zdt c s).1.now - b.now)=some (Zhe s f (Zdt c s).1,(Zhe s f (Zdt c s).1).now - b.now):=ih m _ hst.1 (by rw[hst.2.1];omega) (by rw[hst.2.1];omega) (by omega);have e1:Zu (c.now - b.now) 1=(Zdt c s).1.now - b.now:=by rw[hst.2.1,Yn (by omega) (by omega)];omega
    show Zge b s (Zb3 b s m) c _=_;unfold Zge Zd5 Zhe;have Z5:c.now < 4000:=by omega
    rw[ZZj (by simpa using Z5),Ynd hc.sm.ml,ZZa];by_cases hq:Zm3 c=true
    .rw[ZZi (by simp[hq]),Yjz s hs.posts,ZZa]
     by_cases hl:c.now<=Zxc s
     .rw[ZZj (by simpa using hl),Yio hc hs Z5,ZZa,ZZj (show Zur s c from⟨Z5,.inr hl⟩),e1]
      exact hgo
     .rw[ZZi (by simpa using hl),ZZi (show ¬Zur s c fromλhx=>hx.2.elim (λh1=>by rw[hq] at h1;exact absurd h1 (by decide)) hl)]
    .rw[ZZj (by simpa using hq),ZZj rfl,Yio hc hs Z5,ZZa,ZZj (show Zur s c from⟨Z5,.inl (by simpa using hq)⟩),e1]
     exact hgo
  have:=key _ FU b hP (Vcj _) rfl (by have:=Qe;omega)
  rwa [Int.sub_self] at this
 .simp[h]
def Zcp (left:Int) (n:Nat):Int:=if left < (n:Int) then -1 else left - n
def Sz (f:Int->Option Int) (n:Nat):Prop:=∀left,0<=left->left<=1048576->f left=some (Zcp left n)
theorem Sz.tail {f:Int->Option Int} {n:Nat} (h:Sz f n):Sz (λl=>(f l).bind λr=>if decide (r < 0)=true then some (-1) else some r) n:=by
 intro l h0 h1;dsimp only;rw[h l h0 h1,ZZa];unfold Zcp;by_cases hc:l < (n:Int)
 .simp[hc]
 .rw[ZZi hc,ZZi (by simp;omega)]
theorem Sz.flat {n:Nat} (hn:n<=9223372036854775807):Sz (λl=>if decide ((Y9 l (n:Int)) < 0)=true then some (-1) else some (Y9 l (n:Int))) n:=by
 intro l h0 h1;dsimp only;rw[Xa (by omega) (by omega)];unfold Zcp;by_cases h:l < (n:Int)
 .rw[ZZj (by simp;omega),ZZj h]
 .rw[ZZi (by simp;omega),ZZi h]
theorem Sz.list {α:Type} (xs:List α) (f:α->Int->Option Int) (t:α->Nat) (hn:xs.length<=9223372036854775807) (hf:∀a∈xs,Sz (f a) (t a)) (L:Int->Nat->Int->Int->Option Int)
  (hL:∀l m v i,L l (m+1) v i=if decide (i < (xs.length:Int))=true then (idx xs i).bind λa=>(f a v).bind λr=>if decide (r < 0)=true then some (-1) else L l m r (Zu i 1) else some v):
  Sz (λl=>if decide ((Y9 l (xs.length:Int)) < 0)=true then some (-1) else L l FU (Y9 l (xs.length:Int)) 0) (xs.length+(xs.map t).sum):=by
 intro l h0 h1;dsimp only;rw[Xa (by omega) (by omega)];by_cases h:l < (xs.length:Int)
 .rw[ZZj (by simp;omega)]
  unfold Zcp;rw[ZZj (by omega)]
 .rw[ZZi (by simp;omega)]
  have key:=Zze (ρ:=Int) xs (by omega) (λa s=>(f a s).bind λr=>if decide (r < 0)=true then some (.inr (-1)) else some (.inl r)) some (L l) (λm s i=>by
   rw[hL]
   congr 1;congr 1;funext a
   cases f a s with
   | none=>rfl
   | some r=>
    simp only[ZZa];by_cases hr:r < 0<;>simp[hr,goL]) (l - xs.length)
  rw[key];have run:∀(ys:List α) (s:Int),0<=s->s<=1048576->(∀a∈ys,Sz (f a) (t a))->Zvz (λa s=>(f a s).bind λr=>if decide (r < 0)=true then some (.inr (-1)) else some (.inl r)) some ys s=some (Zcp s (ys.map t).sum):=by
   intro ys
   induction ys with
   | nil=>intro s hs0 _ _;simp[Zvz,Zcp];omega
   | cons p ys ih=>
    intro s hs0 hs1 hp;simp only[Zvz,hp p Vab s hs0 hs1,ZZa,Va7,Vdd];unfold Zcp;by_cases hr:s < (t p:Int)
    .rw[ZZj hr,ZZj (by decide),ZZj (by omega)]
     rfl
    .rw[ZZi hr,ZZi (by simp;omega)]
     simp only[ZZa];rw[ih _ (by omega) (by omega) (λq hq=>hp q (Vad _ hq))];unfold Zcp;by_cases h3:s - (t p:Int) < ((ys.map t).sum:Nat)
     .rw[ZZj h3,ZZj (by omega)]
     .rw[ZZi h3,ZZi (by omega)]
      congr 1;omega
  rw[run xs _ (by omega) (by omega) hf];unfold Zcp;by_cases h3:l - (xs.length:Int) < ((xs.map t).sum:Nat)
  .rw[ZZj h3,ZZj (by omega)]
  .rw[ZZi h3,ZZi (by omega)]
   congr 1;omega
theorem Yn4 {α:Type} {xs:List α} {t:α->Nat} {a:α} (h:a∈xs):t a<=(xs.map t).sum:=by
 induction xs with
 | nil=>simp at h
 | cons q l ih=>
  simp only[Va7,Vdd];rcases Vav.1 h with rfl|h
  .omega
  .have:=ih h;omega
def Zb.tot (r:Zb):Nat:=r.data_.length
def Zcg (l:List Zb):Nat:=l.length+(l.map Zb.tot).sum
def Zd.tot (m:Zd):Nat:=Zcg m.queue
def Ysj (l:List Zd):Nat:=l.length+(l.map Zd.tot).sum
def Zj.tot (m:Zj):Nat:=m.mem.length+(m.dev.regs.length+m.dev.fifo.length)
def Za.tot (b:Za):Nat:=b.conf.masters.length+(Ysj b.m+(b.buckets.length+(b.splits.length+(b.model.tot+b.log.length))))
theorem Yx1 (c:Zh) (h:c.ok):Sz (Zrr c) c.masters.length:=(Sz.flat (by have:=h.1.1;unfold maxLen at this;omega)).tail
theorem Y0n (r:Zb) (h:r.ok):Sz (Z0o r) r.tot:=(Sz.flat (by have:=h.2.2.2.2.2.1;unfold maxLen at this;omega)).tail
theorem Yx2 (l:List Zb) (h0:l.length<=maxLen) (h:∀r∈l,r.ok):Sz (Zxd l) (Zcg l):=
 Sz.list l Z0o Zb.tot (by unfold maxLen at h0;omega) (λa ha=>Y0n a (h a ha)) (Znc l) (λ_ _ _ _=>rfl)
theorem Ywo (xs:List Int) (hl:xs.length < 1048577):Zwo xs=some xs:=by
 unfold Zwo;rw[Z2e (by omega) (by omega),ZZa];have:=Ybv xs id (by omega) some (λa _=>rfl) (Znr xs) (λm v i=>rfl) (List.replicate xs.length 0) (by simp);simpa using this
theorem Yxb (c:Zh) (hl:c.masters.length < 1048577):Zxf c=some c:=by
 have:Zr1 c.masters=some c.masters:=by
  unfold Zr1;rw[Z2e (by omega) (by omega),ZZa];have:=Ybv c.masters id (by omega) Z1w (λa _=>rfl) (Zii c.masters) (λm v i=>rfl) (List.replicate c.masters.length Zc.z0) (by simp);simpa using this
 unfold Zxf;rw[this];rfl
theorem Yzg (r:Zb) (h:r.data_.length < 1048577):Zqg r=some r:=by
 unfold Zqg;rw[Ywo _ h];rfl
theorem Yx0 (l:List Zb) (h:Zcg l < 1048577):Zwn l=some l:=by
 unfold Zcg at h;unfold Zwn;rw[Z2e (by omega) (by omega),ZZa];have:=Ybv l id (by omega) Zqg (λa ha=>Yzg a (by have:=Yn4 (t:=Zb.tot) ha;unfold Zb.tot at this h;omega)) (Znk l) (λm v i=>rfl) (List.replicate l.length Zb.z0) (by simp);simpa using this
theorem Yg0 {α:Type} (xs:List α) (hl:xs.length < 4611686018427387904) (e:α->α->Option Bool) (L:Nat->Int->Option Bool)
  (hL:∀m i,L (m+1) i=if decide (i < (xs.length:Int))=true then (idx xs i).bind λa=>(idx xs i).bind λb=>(e a b).bind λr=>if (!r)=true then some false else L m (Zu i 1) else some true)
  (he:∀a∈xs,e a a=some true):(if decide ((xs.length:Int)≠(xs.length:Int))=true then some false else L FU 0)=some true:=by
 rw[ZZi (by simp)];refine Yk5 (n:=xs.length) hl (B:=λκ i=>if decide (i < (xs.length:Int))=true then (idx xs i).bind λa=>(idx xs i).bind λb=>(e a b).bind λr=>if (!r)=true then some false else κ (Zu i 1) else some true) (L:=L) hL (λk hk κ=>?_) λκ=>?_
 .rw[ZZj (by simpa using hk),Xp hk,ZZa,ZZa,he _ (Vao hk)]
  rfl
 .rw[ZZi (by simp)]
theorem Yrl (xs:List Int) (hl:xs.length < 1048577):Zxa xs xs=some true:=by
 unfold Zxa;rw[ZZi (by simp)];refine Yk5 (n:=xs.length) (by omega) (B:=Zkl xs xs) (L:=Znx xs xs) (λm i=>rfl) (λk hk κ=>?_) λκ=>?_
 .unfold Zkl
  rw[ZZj (by simpa using hk),Xp hk];simp
 .unfold Zkl
  rw[ZZi (by simp)]
theorem Ylc (m:Zc):Zo8 m m=some true:=by unfold Zo8;simp
theorem Yqr (c:Zh) (hl:c.masters.length < 1048577):Zws c c=some true:=by
 have:Zqv c.masters c.masters=some true:=by
  unfold Zqv;exact Yg0 c.masters (by omega) Zo8 (Ziq c.masters c.masters) (λm i=>rfl) (λa _=>Ylc a)
 unfold Zws;rw[this];simp
theorem Yuu (r:Zb) (h:r.data_.length < 1048577):Zu8 r r=some true:=by
 unfold Zu8;rw[Yrl _ h];simp
theorem Yqe (l:List Zb) (h:Zcg l < 1048577):Zw1 l l=some true:=by
 unfold Zcg at h;unfold Zw1;exact Yg0 l (by omega) Zu8 (Zn4 l l) (λm i=>rfl) (λa ha=>Yuu a (by have:=Yn4 (t:=Zb.tot) ha;unfold Zb.tot at this h;omega))
theorem Yrc (d:Zm):Zss d d=some true:=by unfold Zss;simp
theorem Ym6 (l:List Zm) (h:l.length < 1048577):Zuf l l=some true:=by
 unfold Zuf;exact Yg0 l (by omega) Zss (Zku l l) (λm i=>rfl) (λa _=>Yrc a)
theorem Yqc {l:List Zb} {r:Zb} (h:r∈l):r.data_.length<=Zcg l:=by
 have:=Yn4 (t:=Zb.tot) h;unfold Zcg;unfold Zb.tot at this ⊢;omega
theorem Y1t {α:Type} {w t:α->Nat} {c:Nat} (h:∀x,w x<=c*t x+c) (l:List α):Zmg w l<=c*(l.length+(l.map t).sum):=by
 induction l with
 | nil=>simp[Zmg]
 | cons x l ih=>
  have:=h x;rw[Zmd,Vaa,Va7,Vdd];have e:c*(l.length+1+(t x+(l.map t).sum))=c*(l.length+(l.map t).sum)+(c*t x+c):=by
   rw[Ved,Ved,Ved,Ved];omega
  omega
theorem Ywl (l:List Zb):Zmg wReq l<=5*Zcg l:=Y1t (λx=>by unfold wReq Zb.tot;omega) l
theorem Y2i {l:List Zc} {k:Int} (h0:0<=k) (h1:k+4*(l.length:Int)<=1152921504606846976):(mkL Zcf l k).2=k+4*(l.length:Int):=by
 have e:=Z40 (α:=Zc) 4 l;rw[Z8y Ywy (l:=l) h0 (by rw[e];omega),e];omega
theorem Y21 {l:List Zm} {k:Int} (h0:0<=k) (h1:k+7*(l.length:Int)<=1152921504606846976):(mkL Xw l k).2=k+7*(l.length:Int):=by
 have e:=Z40 (α:=Zm) 7 l;rw[Z8y Yne (l:=l) h0 (by rw[e];omega),e];omega
theorem Yqy {c:Zh} (h:c.masters.length < 1048577) {k:Int} (h0:0<=k) (h1:k < 1048577*1000):(J5 c k).2=k+4*(c.masters.length:Int):=by
 simp only[J5];exact Y2i h0 (by omega)
theorem Yzv {r:Zb} (h:Jz r=true):r.data_.length < 1000:=by
 have:=Yw4 h;unfold Jz at h;simp only[ZZg,ZZl] at h;have h1:=h.2.1;have:Xs r.burst<=16:=by unfold Xs;repeat (first|omega|split)
 split at h1<;>omega
theorem Zgr.tot_lt {b:Za} (h:Zgr b):b.tot < 100000:=by
 have h1:=Jr h.conf;have h2:=h.ml;have h3:=h.bl;have h4:=h.sl;have h5:=Z85 (by have:=h.now;omega) h.log;have h6:=h.model.len;have h7:=h.model.dev.regs;have h8:=h.model.dev.len;have hq:∀x∈b.m,Zcg x.queue<=4004:=λx hx=>by
  obtain⟨k,hk,rfl⟩:=Vbt hx;have hr:=(h.mst (k:Int) (mas (by omega))).right;rw[Wk hk] at hr;have key:∀(l:List Zb),(∀r∈l,r.data_.length<=1000)->(l.map Zb.tot).sum<=1000*l.length:=by
   intro l
   induction l with
   | nil=>intro _;simp
   | cons r l ih=>
    intro hl;have:=hl r (Vab ..);have:=ih λq hq=>hl q (Vad _ hq);simp only[Va7,Vdd,Vaa];unfold Zb.tot at*;omega
  have:=key _ λr Jx=>Nat.le_of_lt (Yzv (hr.reqs r Jx));have:=hr.len;unfold Zcg;omega
 have key:∀(l:List Zd),(∀x∈l,Zcg x.queue<=4004)->(l.map Zd.tot).sum<=4004*l.length:=by
  intro l
  induction l with
  | nil=>intro _;simp
  | cons r l ih=>
   intro hl;have:=hl r (Vab ..);have:=ih λq hq=>hl q (Vad _ hq);simp only[Va7,Vdd,Vaa];unfold Zd.tot at*;omega
 have:=key _ hq;unfold Za.tot Ysj Zj.tot;omega
theorem Y16 {n:Nat} (h:(1048576:Int) < (n:Int)):Zcp 1048576 n < 0:=by unfold Zcp;rw[ZZj h];omega
theorem Y2x {n:Nat} (h:¬(1048576:Int) < (n:Int)):Zcp 1048576 n=1048576 - (n:Int)/\0<=Zcp 1048576 n/\n < 1048577:=by unfold Zcp;rw[ZZi h];omega
def Yew (c:Zh) (rs:List Zb):Bool:=Y6 c&&(decide (rs.length<=4)&&rs.all Jz)
def Zsj (rs:List Zb):List Zv:=rs.map λr=>Zv.mk 0 0 r
def Znu (rs:List Zb):Zg:={Zg.z0 with posts:=Zsj rs}
def Zw6 (c:Zh) (rs:List Zb):List Zm×Bool:=if Yew c rs=true then ((Z4g (K5 c) (Znu rs)).1.log,true) else ([],false)
theorem Ysw {rs:List Zb} (hl:rs.length<=5) (hr:∀r∈rs,r.sm):(Znu rs).sm:=by
 refine⟨by simp[Znu,Zsj];omega,λp hp=>?_,by simp[Znu,Zg.z0],by simp[Znu,Zg.z0],λw hw=>absurd hw (by simp[Znu,Zg.z0])⟩;obtain⟨r,h1,rfl⟩:=Vbd.1 hp;exact hr r h1
theorem Ydg {rs:List Zb} {k:Nat} (hk:k < rs.length):Zsj (rs.take (k+1))=Zsj (rs.take k)++[Zv.mk 0 0 rs[k]]:=by
 unfold Zsj;rw[List.take_succ_eq_append_getElem hk,Vcn];rfl
theorem Yir (rs:List Zb) (k:Nat):(Zsj (rs.take k)).length<=rs.length:=by
 unfold Zsj;rw[Vcg,Vbr];omega
theorem Yyr {c:Zh} {rs:List Zb} (hl:c.masters.length < 1048577) (h5:rs.length < 1048577) (hr:∀r∈rs,r.sm):Z4u c rs=some (Zw6 c rs):=by
 unfold Z4u;rw[Yry c hl,ZZa];unfold Z9c Zw6 Yew;by_cases hc:Y6 c=true
 .rw[ZZj hc,hc]
  dsimp only;rw[ZZi (by simp)];by_cases h4:rs.length<=4
  .rw[ZZi (by simp;omega),decide_eq_true h4]
   have hf:=Zvm rs (by omega) Zwv Jz (λa ha=>by unfold Zwv;rw[Z32 _ (hr a ha)];rfl) (Wp rs) (λm i=>rfl);unfold Kk Jb;rw[hf,ZZa];by_cases ha:rs.all Jz=true
   .rw[ha]
    unfold Zmo;rw[ZZi (by simp),ZZj (by rfl)];refine Zcb (σ:=Za×Zg) (n:=rs.length) (by omega) (λk=>(K5 c,{Zg.z0 with posts:=Zsj (rs.take k)})) (B:=λκ st i=>Zpf c rs (λx y i=>κ (x,y) i) st.1 st.2 i) (L:=λm st i=>Zsh c rs m st.1 st.2 i) (λm s i=>rfl) (λk hk κ=>?_) λκ=>?_
    .unfold Zpf
     have hpl:=Yir rs k;dsimp only;rw[ZZj (by simpa using hk),Xp hk,ZZa,Wa (by simp only[Vaa,Vaq];omega) (by simp only[Vaa,Vaq];omega),ZZa,Ydg hk]
    .unfold Zpf
     dsimp only;rw[ZZi (by simp),Vbl,show ({Zg.z0 with posts:=Zsj rs}:Zg)=Znu rs from rfl,Ypj (Ym0 hc).sm (Ysw (by omega) hr)];rfl
   .have Ka:rs.all Jz=false:=by simpa using ha
    rw[Ka];rfl
  .rw[ZZj (by simp;omega),decide_eq_false h4]
   rfl
 .have hc2:Y6 c=false:=by simpa using hc
  rw[ZZi hc,hc2];rfl
theorem Yym {c:Zh} {rs:List Zb} (hl:c.masters.length < 1048577) (h5:rs.length < 1048577) (hr:∀r∈rs,r.sm):Z4r c rs=some (Zw6 c rs):=by
 unfold Z4r Zw6 Yew;rw[Zgp c hl,ZZa];by_cases hc:Y6 c=true
 .rw[hc,ZZi (by simp)]
  by_cases h4:rs.length<=4
  .rw[decide_eq_true h4]
   unfold Zl1;rw[show decide ((rs.length:Int) > 4)=false from decide_eq_false (by omega),ZZi (by simp)];have key:∀(m k:Nat),k<=rs.length->rs.length - k < m->(rs.take k).all Jz=true->Zm5 c rs m {Zg.z0 with posts:=Zsj (rs.take k)} (k:Int)=some (if (true&&(true&&rs.all Jz))=true then ((Z4g (K5 c) (Znu rs)).1.log,true) else ([],false)):=by
    intro m
    induction m with
    | zero=>intro k _ h;omega
    | succ m ih=>
     intro k hk hm ht;show Zv3 c rs (Zm5 c rs m) _ _=_;unfold Zv3;by_cases Z5:k < rs.length
     .rw[ZZj (by simpa using Z5),Xp Z5,ZZa,Z30 _ (hr _ (Vao Z5)),ZZa]
      by_cases hq:Jz rs[k]=true
      .have hpl:=Yir rs k
       rw[ZZi (by simp[hq]),Wa (by simp only[Vaa,Vaq];omega) (by simp only[Vaa,Vaq];omega),ZZa,X4 (by omega)];have:=ih (k+1) (by omega) (by omega) (by rw[List.take_succ_eq_append_getElem Z5,List.all_append,ht];simp[hq]);rw[Ydg Z5] at this;exact this
      .rw[ZZj (by simpa using hq)]
       have:rs.all Jz=false:=by
        rw[Vdz];exact⟨rs[k],Vao Z5,hq⟩
       rw[this];rfl
     .rw[ZZi (by simpa using Z5)]
      have he:k=rs.length:=by omega
      subst he;rw[Vbl] at ht ⊢;rw[Yrh c hl,ZZa,Y2d hc,show ({Zg.z0 with posts:=Zsj rs}:Zg)=Znu rs from rfl,Ypi (Ym0 hc).sm (Ysw (by omega) hr),ZZa,ht];rfl
   exact key FU 0 (Vbj _) (by have:=Qe;omega) rfl
  .rw[decide_eq_false h4]
   unfold Zl1;rw[show decide ((rs.length:Int) > 4)=true from decide_eq_true (by omega),ZZj rfl];rfl
 .have hc2:Y6 c=false:=by simpa using hc
  rw[hc2];rfl
theorem Yy0 (c:Zh) (rs:List Zb):(Zw6 c rs).1.length < 1048577:=by
 unfold Zw6;split
 .rename_i hs
  have hc:Y6 c=true:=by
   unfold Yew at hs;simp only[ZZg] at hs;exact hs.1
  have hP:=Ym0 hc;have key:(Z4g (K5 c) (Znu rs)).1.tot < 1048577:=by
   unfold Z4g;split
   .have:=(Y25 (Znu rs) _ hP rfl).1.tot_lt
    show (Zhe (Znu rs) (4000 - (K5 c).now).toNat (K5 c)).tot < _;omega
   .have:=hP.tot_lt
    show (K5 c).tot < _;omega
  unfold Za.tot at key;show (Z4g (K5 c) (Znu rs)).1.log.length < _;omega
 .simp
theorem left2 {n m:Nat} (e1:0<=Zcp 1048576 n) (hc2:¬Zcp (Zcp 1048576 n) m < 0):m < 1048577:=by
 unfold Zcp at hc2 e1;split at hc2
 .omega
 .omega
theorem Z9h (c:Zh) (rs:List Zb) (h:c.ok) (hs:rs.length<=maxLen/\∀r∈rs,r.ok):c.ok/\(rs.length<=maxLen/\∀r∈rs,r.ok):=⟨h,hs⟩
theorem Yfa [Anchor] {c:Zh} {rs:List Zb} (h:c.ok/\(rs.length<=maxLen/\∀r∈rs,r.ok)):Zt Tryz.prog Mo (3,[.agg (Zh.enc c),.tr (rs.map Zb.enc)],.lit (.bool true),[.undef,.undef]):=by
 have c0:=Yx1 c h.1 1048576 (by omega) (by omega);by_cases hc:(1048576:Int) < (c.masters.length:Int)
 .exact Z9m c rs c0 (Y16 hc)
 .obtain⟨e0,e1,ht⟩:=Y2x hc
  have c1:=Yx2 rs h.2.1 h.2.2 (Zcp 1048576 c.masters.length) e1 (by omega);by_cases hc2:Zcp (Zcp 1048576 c.masters.length) (Zcg rs) < 0
  .exact Z9i c rs c0 e1 c1 hc2
  .have hst:Zcg rs < 1048577:=left2 e1 hc2
   have hl:rs.length < 1048577:=by unfold Zcg at hst;omega
   have hd:∀r∈rs,r.data_.length < 1048577:=λr hr=>Nat.lt_of_le_of_lt (Yqc hr) hst;have hsm:∀r∈rs,r.sm:=λr hr=>by have:=hd r hr;unfold Zb.sm;omega
   have f3:=Yqy ht (k:=1) (by omega) (by omega);have hw:=Ywl rs;have g:=Z8y Y1j (l:=rs) (k:=1+4*(c.masters.length:Int)) (by omega) (by omega);have hn:=Yy0 c rs;have k1:=Y21 (l:=(Zw6 c rs).1) (k:=1) (by omega) (by omega);exact Yel c rs (Zw6 c rs).1 (Zw6 c rs).2 c0 e1 c1 (by omega) (Yxb c ht) (Yx0 rs hst) (Yym ht hl hsm) (Yyr ht hl hsm) (Ym6 _ (by omega)) (Yqr c ht) (Yqe rs hst) (by unfold Zh.mok;omega) ⟨by omega,λy hy=>by have:=hd y hy;omega⟩ (by rw[f3,g];omega) (by omega) (Yrb _ 1 (by omega) (by omega) (by omega)) (by rw[k1];omega)
end Go.Proofs.YtagdmghmblplbaaGreat.Ev
