/- A part of the proof of FnExactRunOut: see the text YtagdmghmblplbaaGreatLawFnExactRunOut for what is proved and its conditions. Conditions here: those in each line. -/
import Derived.Test.YtagdmghmblplbaaGreatA9
set_option linter.unusedSimpArgs false
set_option linter.unusedVariables false
set_option linter.unusedSectionVars false
namespace Go.Proofs.YtagdmghmblplbaaGreat.Ev
open Go Go.Proofs
theorem X7 (x a b:Int):Yu x a b=some (decide (a<=x/\x<=b)):=by
 unfold Yu;by_cases h:a<=x<;>simp[h]
theorem Xk (x a b:Int):Z5 x a b=some (decide (a<=x/\x<=b)):=by
 unfold Z5;by_cases h:a<=x<;>simp[h]
def Zjx (c:Zk):Int:=if (0<=c.maxRetry/\c.maxRetry<=3)/\(0<=c.maxWait/\c.maxWait<=3) then (c.maxRetry+2)*(c.maxWait+6) else 0
def Zag (c:Zk):Int:=if Zjx c=0 then 0 else if 1<=c.lockMost/\c.lockMost<=40 then 2*Zjx c+c.lockMost else 0
def Ku (c:Zk):Nat:=c.masters.countP (·.prio)
def Ke (c:Zk) (m:Zd):Bool:=decide (1<=m.weight/\m.weight<=4)&&if m.prio then decide (2*Zag c*Ku c<=m.every/\m.every<=1000)&&decide (1<=m.cap/\m.cap<=8) else decide (m.every=0)&&decide (m.cap=0)
def X9 (c:Zk):Bool:=decide (1<=(c.masters.length:Int)/\(c.masters.length:Int)<=4)&&decide (1<=c.quantum/\c.quantum<=4)&&decide (1<=c.maxSplit/\c.maxSplit<=12)&&decide (Zag c≠0)&&c.masters.all (Ke c)
theorem Z61 (c:Zk):0<=Zjx c/\Zjx c<=45:=by
 unfold Zjx;split
 .rename_i h
  obtain⟨⟨h1,h2⟩,h3,h4⟩:=h;generalize c.maxRetry=a at*;generalize c.maxWait=b at*;have:a=0\/a=1\/a=2\/a=3:=by omega
  rcases this with rfl|rfl|rfl|rfl<;>omega
 .omega
theorem Z5x (c:Zk):0<=Zag c/\Zag c<=130:=by
 have:=Z61 c;unfold Zag;split
 .omega
 .split<;>omega
theorem Zvw (c:Zk):Zjt c=some (Zjx c):=by
 unfold Zjt;rw[Xk,ZZa,Xk,ZZa];unfold Zoe Zjx;by_cases h1:0<=c.maxRetry/\c.maxRetry<=3
 .by_cases h2:0<=c.maxWait/\c.maxWait<=3
  .have:=Z61 c
   unfold Zjx at this;rw[ZZj ⟨h1,h2⟩] at this;simp only[h1,h2,decide_true,Va5,ZZf,if_false,and_self,if_true];rw[Yq (by omega) (by omega),Yq (by omega) (by omega),Zfy (by omega) (by omega)]
  .simp[h1,h2]
 .simp[h1]
theorem Ys0 (c:Zk):Zsd c=some (Zjx c):=by
 rw[<-Zvw];unfold Zsd Zjt;simp only[Xk,X7];rfl
theorem Yco (c:Zk):Zgb c=some (Zag c):=by
 have:=Z61 c;unfold Zgb Zag;rw[Zvw,ZZa,Xk,ZZa,ZZa];by_cases h0:Zjx c=0
 .simp[h0]
 .by_cases h1:1<=c.lockMost/\c.lockMost<=40
  .simp only[h0,h1,decide_true,decide_false,Va5,ZZf,if_false,and_self,if_true]
   rw[Zfy (by omega) (by omega),Yq (by omega) (by omega)]
  .simp[h0,h1]
theorem Yb2 (c:Zk):Zs6 c=some (Zag c):=by
 rw[<-Yco];unfold Zs6 Zgb;simp only[Xk,X7,Zvw,Ys0]
theorem Ymr (c:Zk):Ztx c=some (decide (1<=c.quantum/\c.quantum<=4)&&decide (1<=c.maxSplit/\c.maxSplit<=12)&&decide (Zag c≠0)):=by
 have:=Z61 c;unfold Ztx Zag;simp only[Xk,Zvw,ZZa];by_cases h1:1<=c.quantum/\c.quantum<=4
 .by_cases h2:Zjx c=0
  .simp[h2]
  .have h3:Zjx c > 0:=by omega
   by_cases h4:1<=c.maxSplit/\c.maxSplit<=12
   .by_cases h5:1<=c.lockMost/\c.lockMost<=40
    .have:¬(2*Zjx c+c.lockMost=0):=by omega
     simp[h1,h2,h3,h4,h5,this]
    .simp[h1,h2,h3,h4,h5]
   .simp[h1,h2,h3,h4]
 .simp[h1]
theorem Yin (xs:List Zd):∀(n:Int),0<=n->n+xs.length < 4611686018427387904->∀{ρ:Type} (fin:Int->Option ρ),Zxr (λ(a:Zd) n=>some (.inl (if a.prio=true then Zs n 1 else n))) fin xs n=fin (n+(xs.countP (·.prio):Nat)):=by
 induction xs with
 | nil=>intro n _ _ ρ fin;simp[Zxr]
 | cons a l ih=>
  intro n h0 hl ρ fin;simp only[Vag] at hl;simp only[Zxr,ZZa,List.countP_cons];by_cases h:a.prio=true
  .rw[ZZj h,Yq (by omega) (by omega),ih _ (by omega) (by omega),ZZj h]
   congr 1;omega
  .rw[ZZi h,ih _ (by omega) (by omega),ZZi h]
   congr 1
theorem Yzb (c:Zk) (hl:c.masters.length < 1048577):Z1k c=some (Ku c:Int):=by
 unfold Z1k;rw[Zz9 c.masters (by omega) (λ(a:Zd) n=>some (.inl (if a.prio=true then Zs n 1 else n))) some (Zqs c) (λm s i=>?_) 0,Yin _ _ (by omega) (by omega)]
 .simp[Ku]
 .show Zuv c _ s i=_
  unfold Zuv
  congr 1;congr 1;funext a
  by_cases h:a.prio=true<;>simp[h,goL]
theorem Ylh (c:Zk):Ku c<=c.masters.length:=List.countP_le_length
theorem Yqo (c:Zk) (hl:c.masters.length < 1048577):0<=Zag c*(Ku c:Int)/\Zag c*(Ku c:Int)<=136314880:=by
 have h1:=Z5x c;have h2:=Ylh c;constructor
 .exact Veh h1.1 (by omega)
 .have h3:Zag c*(Ku c:Int)<=130*(Ku c:Int):=Int.mul_le_mul_of_nonneg_right h1.2 (by omega)
  omega
theorem Yh5 (c:Zk) (hl:c.masters.length < 1048577):Zn6 c=some (2*Zag c*Ku c):=by
 have h1:=Z5x c;have h2:=Yqo c hl;unfold Zn6;rw[Yb2,ZZa,Yzb c hl,ZZa];rw[Zfy (a:=2) (by omega) (by omega),Zfy (by rw[Int.mul_assoc];omega) (by rw[Int.mul_assoc];omega)]
theorem Ym1 (c:Zk) (m:Zd) (hl:c.masters.length < 1048577):Ztn m c=some (!Ke c m):=by
 unfold Ztn Ke;simp only[X7,ZZa,Yh5 c hl];by_cases h1:1<=m.weight/\m.weight<=4
 .by_cases h2:m.prio=true
  .by_cases h3:2*Zag c*Ku c<=m.every/\m.every<=1000
   .simp[h1,h2,h3]
   .simp[h1,h2,h3]
  .by_cases h3:m.every=0
   .simp[h1,h2,h3]
   .simp[h1,h2,h3]
 .simp[h1]
theorem Ytd (c:Zk) (xs:List Zd) (hl:c.masters.length < 1048577) (hx:xs.length < 4611686018427387904):X8 xs c=some (!xs.all (Ke c)):=by
 unfold X8 Q0;have key:∀(m k:Nat),k<=xs.length->xs.length - k < m->∃r,Y1 xs c m k=some r/\decide (r≥0)=!(xs.drop k).all (Ke c):=by
  intro m
  induction m with
  | zero=>intro k _ h;omega
  | succ m ih=>
   intro k hk hm;have e:Y1 xs c (m+1) k=W8 xs c (Y1 xs c m) k:=rfl;rw[e];unfold W8;by_cases hc:k < xs.length
   .have h1:decide ((k:Int) < (xs.length:Int))=true:=by simpa using hc
    rw[ZZj h1,Xs hc,ZZa,Ym1 c _ hl,ZZa,Va2 hc,Va6];by_cases hq:Ke c xs[k]=true
    .have h2:¬(!Ke c xs[k])=true:=by simp[hq]
     rw[ZZi h2,Wj (by omega),hq,Vby];exact ih (k+1) (by omega) (by omega)
    .have h2:(!Ke c xs[k])=true:=by simpa using hq
     rw[ZZj h2];refine⟨_,rfl,?_⟩;simp[hq]
   .have h1:¬decide ((k:Int) < (xs.length:Int))=true:=by simpa using hc
    rw[ZZi h1,Va9 (by omega)];exact⟨_,rfl,by simp⟩
 obtain⟨r,hr,hq⟩:=key FU 0 (Vbk _) (by have:=Qx;omega);rw[show ((0:Nat):Int)=0 from rfl] at hr;rw[hr,ZZa,hq,List.drop_zero]
theorem Z3z (c:Zk) (hl:c.masters.length < 1048577):Zn4 c=some (X9 c):=by
 unfold Zn4 X9;simp only[X7,ZZa,Yb2,Ytd c c.masters hl (by omega),Vek];by_cases h1:1<=(c.masters.length:Int)/\(c.masters.length:Int)<=4
 .by_cases h2:1<=c.quantum/\c.quantum<=4
  .by_cases h3:1<=c.maxSplit/\c.maxSplit<=12
   .by_cases h4:Zag c=0<;>simp[h1,h2,h3,h4]
   .simp[h1,h2,h3]
  .simp[h1,h2]
 .simp[h1]
theorem Y4g (c:Zk) (m:Zd) (hl:c.masters.length < 1048577) (k:Option Bool):
  ((Z5 m.weight 1 4).bind λr1102=>
  if (!r1102)=true then some false
  else if (!m.prio)=true then
    if decide (m.every≠0)=true then some false
    else if decide (m.cap≠0)=true then some false
     else if m.prio=true then
       (Zgb c).bind λr1128=>
       (Z5 m.every (Jw (Jw 2 (Ku c:Int)) r1128) 1000).bind λr1130=>
       if (!r1130)=true then some false
       else (Z5 m.cap 1 8).bind λr1135=>if (!r1135)=true then some false else k
      else k
   else if m.prio=true then
     (Zgb c).bind λr1128=>
     (Z5 m.every (Jw (Jw 2 (Ku c:Int)) r1128) 1000).bind λr1130=>
     if (!r1130)=true then some false
     else (Z5 m.cap 1 8).bind λr1135=>if (!r1135)=true then some false else k
    else k)=if Ke c m=true then k else some false:=by
 have h1:=Z5x c;have h2:=Yqo c hl;have h3:=Ylh c;have e:Jw (Jw 2 (Ku c:Int)) (Zag c)=2*Zag c*Ku c:=by
  have e2:2*(Ku c:Int)*Zag c=2*(Zag c*(Ku c:Int)):=by rw[Int.mul_assoc,Vc4 (Ku c:Int)]
  rw[Zfy (a:=2) (by omega) (by omega),Zfy (by rw[e2];omega) (by rw[e2];omega),e2,Int.mul_assoc]
 unfold Ke;simp only[Xk,ZZa,Yco,e];by_cases h1:1<=m.weight/\m.weight<=4
 .by_cases h2:m.prio=true
  .by_cases h3:2*Zag c*Ku c<=m.every/\m.every<=1000
   .by_cases h4:1<=m.cap/\m.cap<=8<;>simp[h1,h2,h3,h4]
   .simp[h1,h2,h3]
  .by_cases h3:m.every=0
   .by_cases h4:m.cap=0<;>simp[h1,h2,h3,h4]
   .simp[h1,h2,h3]
 .simp[h1]
theorem Ygs (c:Zk) (hl:c.masters.length < 1048577):Zax c FU (Ku c:Int) 0=some (X9 c):=by
 have key:∀(m k:Nat),k<=c.masters.length->c.masters.length - k < m->Zax c m (Ku c:Int) k=some (decide (1<=(c.masters.length:Int)/\(c.masters.length:Int)<=4)&&decide (1<=c.quantum/\c.quantum<=4)&&decide (1<=c.maxSplit/\c.maxSplit<=12)&&decide (Zag c≠0)&&(c.masters.drop k).all (Ke c)):=by
  intro m
  induction m with
  | zero=>intro k _ h;omega
  | succ m ih=>
   intro k hk hm;have e:Zax c (m+1) (Ku c:Int) k=Zua c (Zax c m) (Ku c:Int) k:=rfl;rw[e];unfold Zua;by_cases hc:k < c.masters.length
   .have h1:decide ((k:Int) < (c.masters.length:Int))=true:=by simpa using hc
    rw[ZZj h1,Xs hc,ZZa,Y4g c _ hl,Va2 hc,Va6,Wj (by omega),ih (k+1) (by omega) (by omega)];by_cases hq:Ke c c.masters[k]=true
    .simp[hq]
    .simp[hq]
   .have h1:¬decide ((k:Int) < (c.masters.length:Int))=true:=by simpa using hc
    rw[ZZi h1,Va9 (by omega),Xk,ZZa,Ymr];by_cases h2:1<=(c.masters.length:Int)/\(c.masters.length:Int)<=4
    .simp[h2]
    .simp[h2]
 have:=key FU 0 (Vbk _) (by have:=Qx;omega);simpa [X9] using this
theorem Zp4 (c:Zk) (hl:c.masters.length < 1048577):Zjm c=some (X9 c):=by
 unfold Zjm;rw[Zz9 c.masters (by omega) (λ(a:Zd) n=>some (.inl (if a.prio=true then Zs n 1 else n))) (λn=>Zax c FU n 0) (Zn7 c) (λm s i=>?_) 0,Yin _ _ (by omega) (by omega)]
 .rw[show (0:Int)+(c.masters.countP (·.prio):Nat)=(Ku c:Int) by simp[Ku]]
  exact Ygs c hl
 .show Zso c _ s i=_
  unfold Zso
  congr 1;congr 1;funext a
  by_cases h:a.prio=true<;>simp[h,goL]
def Z4l (c:Zk) (i:Int):Int:=((c.masters[i.toNat]?).map (·.weight)).getD 0
def Zv (c:Zk) (i:Int):Bool:=decide (0<=i/\i < (c.masters.length:Int))
def Zhx (c:Zk) (i:Int):Int:=if X9 c=true/\Zv c i=true then Z4l c i*c.quantum else 0
theorem Yhv {c:Zk} {i:Int} (h:Zv c i=true):∃m,idx c.masters i=some m/\m∈c.masters/\m.weight=Z4l c i:=by
 simp only[Zv,ZZl] at h;obtain⟨k,rfl⟩:∃k:Nat,i=k:=⟨i.toNat,by omega⟩;have hk:k < c.masters.length:=by omega
 refine⟨c.masters[k],Xs hk,Vaq hk,?_⟩;simp[Z4l,hk]
theorem Ycz {c:Zk} {m:Zd} (h:X9 c=true) (hm:m∈c.masters):1<=m.weight/\m.weight<=4:=by
 simp only[X9,ZZg,ZZk] at h;have:=h.2 m hm;simp only[Ke,ZZg,ZZl] at this;exact this.1
theorem Z8j {c:Zk} (h:X9 c=true):1<=c.quantum/\c.quantum<=4:=by
 simp only[X9,ZZg,ZZl] at h;exact h.1.1.1.2
theorem Yrn {c:Zk} {i:Int} (h:X9 c=true) (hm:Zv c i=true):1<=Z4l c i/\Z4l c i<=4:=by
 obtain⟨m,_,h1,h2⟩:=Yhv hm;rw[<-h2];exact Ycz h h1
theorem Yor {a b:Int} (h1:1<=a) (h2:a<=4) (h3:1<=b) (h4:b<=4):1<=a*b/\a*b<=16:=by
 have:a=1\/a=2\/a=3\/a=4:=by omega
 rcases this with rfl|rfl|rfl|rfl<;>omega
theorem Z1g {c:Zk} {i:Int} (h:X9 c=true) (hm:Zv c i=true):1<=Zhx c i/\Zhx c i<=16:=by
 unfold Zhx;rw[ZZj ⟨h,hm⟩];have h1:=Yrn h hm;have h2:=Z8j h;exact Yor h1.1 h1.2 h2.1 h2.2
theorem Yxq {c:Zk} {i:Int}:Zhx c i=0↔¬(X9 c=true/\Zv c i=true):=by
 constructor
 .intro h hc
  have:=Z1g hc.1 hc.2;omega
 .intro h;unfold Zhx;rw[ZZi h]
theorem Z0o (c:Zk) (i:Int):0<=Zhx c i/\Zhx c i<=16:=by
 by_cases h:X9 c=true/\Zv c i=true
 .have:=Z1g h.1 h.2;omega
 .rw[Yxq.2 h];omega
theorem Z37 {c:Zk} (i:Int) (hl:c.masters.length < 1048577):decide (0<=i/\i<=Y8 (c.masters.length:Int) 1)=Zv c i:=by
 rw[Xe (by omega) (by omega)];unfold Zv
 congr 1
 apply propext;omega
theorem Zv8 (c:Zk) (i:Int) (hl:c.masters.length < 1048577):Zke c i=some (Zhx c i):=by
 unfold Zke;rw[Zp4 c hl,ZZa,Xk,ZZa,Z37 i hl];unfold Zoa;by_cases h1:X9 c=true
 .by_cases h2:Zv c i=true
  .obtain⟨m,hm1,hm2,hm3⟩:=Yhv h2
   have hw:=Ycz h1 hm2;have hq:=Z8j h1;have:=Yor hw.1 hw.2 hq.1 hq.2;simp only[h1,h2,hm1,Va5,ZZf,if_false,ZZa];rw[Zfy (by omega) (by omega)];simp[Zhx,h1,h2,hm3]
  .simp[Zhx,h1,h2]
 .simp[Zhx,h1]
theorem Jr (c:Zk) (i:Int) (hl:c.masters.length < 1048577):Jh c i=some (Zv c i):=by
 unfold Jh;rw[X7,ZZa,Z37 i hl]
theorem Z3r (c:Zk) (i:Int) (hl:c.masters.length < 1048577):Zpb c i=some (Zhx c i):=by
 rw[<-Zv8 c i hl];unfold Zpb Zke;rw[Zp4 c hl,Z3z c hl,Jr c i hl,Xk,Z37 i hl];rfl
theorem Zcf (a b:Int):Zje a b=min a b:=by unfold Zje;omega
theorem Zun (a b:Int):Zm5 a b=max a b:=by unfold Zm5;omega
theorem Zar {c:Zk} (h:X9 c=true):1<=(c.masters.length:Int)/\(c.masters.length:Int)<=4:=by
 simp only[X9,ZZg,ZZl] at h;exact h.1.1.1.1
theorem Zcj {c:Zk} (h:X9 c=true):c.masters.length < 1048577:=by have:=Zar h;omega
instance:Inhabited Zd:=⟨Zd.z0⟩
instance:Inhabited Zc:=⟨Zc.z0⟩
theorem Zk0 {c:Zk} {i:Int} (h:X9 c=true) (hm:Zv c i=true):Ke c (atI c.masters i)=true:=by
 simp only[Zv,ZZl] at hm;have:=Zkq hm.1 hm.2;simp only[X9,ZZg,ZZk] at h;exact h.2 _ this
theorem Zg5 {c:Zk} {m:Zd} (h:Ke c m=true):-1<=m.every/\m.every<=1000/\0<=m.cap/\m.cap<=8:=by
 have h1:=Z5x c;have h2:0<=2*Zag c*(Ku c:Int):=Veh (by omega) (by omega);simp only[Ke,ZZg,ZZl] at h;obtain⟨h3,h4⟩:=h;split at h4
 .simp only[ZZg,ZZl] at h4;omega
 .simp only[ZZg,ZZl] at h4;omega
def Y5 (b:Zc) (m:Zd):Bool:=if m.prio then decide (0<=b.tokens/\b.tokens<=m.cap)&&decide (0<=b.count/\b.count < m.every) else decide (b.tokens=0)&&decide (b.count=0)
def Zs2 (b:Zc) (m:Zd):Zc:=if (m.prio&&Y5 b m)=true then (if b.count+1=m.every then ⟨min (b.tokens+1) m.cap,0⟩ else ⟨b.tokens,b.count+1⟩) else b
def Zf4 (b:Zc) (m:Zd):Zc×Bool:=if (m.prio&&Y5 b m&&decide (b.tokens≠0))=true then (⟨b.tokens - 1,b.count⟩,true) else (b,false)
def Z04 (b:Zc) (m:Zd):Zc:=if (m.prio&&Y5 b m)=true then ⟨min (b.tokens+1) m.cap,b.count⟩ else b
theorem Zqn (b:Zc) {m:Zd} (h:-1<=m.every/\m.every<=1000):Zfd b m=some (Y5 b m):=by
 unfold Zfd Y5;rw[Xk,ZZa,Xk,ZZa,Xe (by omega) (by omega)];by_cases h1:m.prio=true
 .have e:(0<=b.count/\b.count<=m.every - 1)↔(0<=b.count/\b.count < m.every):=by omega
  by_cases h2:0<=b.tokens/\b.tokens<=m.cap
  .simp[h1,h2,e]
  .simp[h1,h2]
 .simp[h1]
theorem Z7f (b:Zc) (m:Zd):Zmq b m=some (Y5 b m):=by
 unfold Zmq Y5;rw[X7,ZZa];by_cases h1:m.prio=true
 .by_cases h2:0<=b.tokens/\b.tokens<=m.cap
  .by_cases h3:0<=b.count<;>simp[h1,h2,h3]
  .simp[h1,h2]
 .simp[h1]
theorem Zi7 {b:Zc} {c:Zk} {m:Zd} (h:Y5 b m=true) (hm:Ke c m=true):0<=b.tokens/\b.tokens<=8/\0<=b.count/\b.count<=1000:=by
 have:=Zg5 hm;unfold Y5 at h;split at h<;>simp only[ZZg,ZZl] at h<;>omega
theorem Yhb (b:Zc) {c:Zk} {m:Zd} (h:Ke c m=true):Zoq b m=some (Zs2 b m):=by
 have hm:=Zg5 h;unfold Zoq Zgp Zs2;rw[Zqn b ⟨hm.1,hm.2.1⟩,ZZa];by_cases h1:m.prio=true
 .by_cases h2:Y5 b m=true
  .have:=Zi7 h2 h
   simp only[h1,h2,Va5,ZZf,if_false,Vce,if_true];rw[Yq (by omega) (by omega),Yq (by omega) (by omega),Zcf,Vdo];by_cases h3:b.count+1=m.every<;>simp[h3]
  .simp[h1,h2]
 .simp[h1]
theorem Z3d (b:Zc) (m:Zd):Zo9 b m=some (m.prio&&Y5 b m):=by
 unfold Zo9;rw[Z7f,ZZa];by_cases h1:m.prio=true<;>simp[h1]
theorem Yhm (b:Zc) {c:Zk} {m:Zd} (h:Ke c m=true):Zpa b m=some (Zs2 b m):=by
 unfold Zpa Zs2;rw[Z3d,ZZa];by_cases h1:(m.prio&&Y5 b m)=true
 .have h2:Y5 b m=true:=by simp only[ZZg] at h1;exact h1.2
  have:=Zi7 h2 h;rw[ZZi (by simp[h1]),ZZj h1,Yq (by omega) (by omega),Yq (by omega) (by omega),Zcf];by_cases h3:b.count+1=m.every<;>simp[h3]
 .rw[ZZj (by cases hq:(m.prio&&Y5 b m)<;>simp_all),ZZi h1]
theorem Yf0 (b:Zc) {c:Zk} {m:Zd} (h:Ke c m=true):Zox b m=some (Zf4 b m):=by
 have hm:=Zg5 h;unfold Zox Zc4 Zf4;rw[Zqn b ⟨hm.1,hm.2.1⟩,ZZa];by_cases h1:m.prio=true
 .by_cases h2:Y5 b m=true
  .have:=Zi7 h2 h
   rw[Xe (by omega) (by omega)];by_cases h3:b.tokens=0<;>simp[h1,h2,h3]
  .simp[h1,h2]
 .simp[h1]
theorem Yhp (b:Zc) {c:Zk} {m:Zd} (h:Ke c m=true):Zou b m=some (Zf4 b m):=by
 unfold Zou Zgk Zf4;rw[Z3d,ZZa];by_cases h1:(m.prio&&Y5 b m)=true
 .have h2:Y5 b m=true:=by simp only[ZZg] at h1;exact h1.2
  have:=Zi7 h2 h;rw[Xe (by omega) (by omega)];by_cases h3:b.tokens=0<;>simp[h1,h3]
 .simp[h1]
theorem Yfv (b:Zc) {c:Zk} {m:Zd} (h:Ke c m=true):Zop b m=some (Z04 b m):=by
 have hm:=Zg5 h;unfold Zop Zgm Z04;rw[Zqn b ⟨hm.1,hm.2.1⟩,ZZa];by_cases h1:m.prio=true
 .by_cases h2:Y5 b m=true
  .have:=Zi7 h2 h
   simp only[h1,h2,if_true,Vce];rw[Yq (by omega) (by omega),Zcf,Vdo]
  .simp[h1,h2]
 .simp[h1]
theorem Yh7 (b:Zc) {c:Zk} {m:Zd} (h:Ke c m=true):Zo7 b m=some (Z04 b m):=by
 unfold Zo7 Z04;rw[Z3d,ZZa];by_cases h1:(m.prio&&Y5 b m)=true
 .have h2:Y5 b m=true:=by simp only[ZZg] at h1;exact h1.2
  have h4:m.prio=true:=by simp only[ZZg] at h1;exact h1.1
  have:=Zi7 h2 h;have h5:b.tokens<=m.cap:=by
   unfold Y5 at h2;rw[ZZj h4] at h2;simp only[ZZg,ZZl] at h2;exact h2.1.2
  rw[ZZj h1,ZZj h1,Yq (by omega) (by omega)];by_cases h3:b.tokens < m.cap
  .rw[ZZj (by simpa using h3),Int.min_eq_left (by omega)]
  .rw[ZZi (by simpa using h3),Int.min_eq_right (by omega)]
   have:b.tokens=m.cap:=by omega
   rw[<-this]
 .rw[ZZi h1,ZZi h1]
theorem Y57 {b:Zc} {c:Zk} {m:Zd} (h:Y5 b m=true) (hm:Ke c m=true):Y5 (Zs2 b m) m=true:=by
 have hb:=Zg5 hm;have hn:=Zi7 h hm;unfold Zs2;split
 .rename_i h1
  simp only[ZZg] at h1;unfold Y5 at h;rw[ZZj h1.1] at h;simp only[ZZg,ZZl] at h;split
  .unfold Y5
   rw[ZZj h1.1];simp only[ZZg,ZZl];omega
  .unfold Y5
   rw[ZZj h1.1];simp only[ZZg,ZZl];omega
 .exact h
theorem Y7m {b:Zc} {c:Zk} {m:Zd} (h:Y5 b m=true) (hm:Ke c m=true):Y5 (Zf4 b m).1 m=true:=by
 unfold Zf4;split
 .rename_i h1
  simp only[ZZg,ZZl] at h1;unfold Y5 at h ⊢;rw[ZZj h1.1.1] at h ⊢;simp only[ZZg,ZZl] at h ⊢;omega
 .exact h
theorem Y4b {b:Zc} {c:Zk} {m:Zd} (h:Y5 b m=true) (hm:Ke c m=true):Y5 (Z04 b m) m=true:=by
 have hb:=Zg5 hm;unfold Z04;split
 .rename_i h1
  simp only[ZZg] at h1;unfold Y5 at h ⊢;rw[ZZj h1.1] at h ⊢;simp only[ZZg,ZZl] at h ⊢;omega
 .exact h
def Za5 (w:Z2) (c:Zk):Bool:=X9 c&&(Zv c w.at_&&decide (0<=w.credit/\w.credit<=Zhx c w.at_))
theorem Z6d (w:Z2) (c:Zk) (hl:c.masters.length < 1048577):Zrl w c=some (Za5 w c):=by
 unfold Zrl Za5;rw[Zp4 c hl,ZZa,Xk,ZZa,Z37 _ hl,Zv8 c _ hl,ZZa,Xk,ZZa];by_cases h1:X9 c=true<;>by_cases h2:Zv c w.at_=true<;>simp[h1,h2]
theorem Z5p (w:Z2) (c:Zk) (hl:c.masters.length < 1048577):Znx w c=some (Za5 w c):=by
 unfold Znx Za5;rw[Z3z c hl,ZZa,Jr c _ hl,ZZa,Z3r c _ hl,ZZa,X7,ZZa];by_cases h1:X9 c=true<;>by_cases h2:Zv c w.at_=true<;>simp[h1,h2]
def Zne (w:Z2) (c:Zk) (wants:List Bool):Nat->Int->Z2×Int
 | 0,_=>(⟨w.at_,0⟩,-1)
 | r+1,k=>if atI wants ((w.at_+k) % (wants.length:Int))=true then (⟨(w.at_+k) % (wants.length:Int),Zhx c ((w.at_+k) % (wants.length:Int)) - 1⟩,(w.at_+k) % (wants.length:Int)) else Zne w c wants r (k+1)
def Zda (w:Z2) (c:Zk) (wants:List Bool):Z2×Int:=if (decide (0 < w.credit)&&atI wants w.at_)=true then (⟨w.at_,w.credit - 1⟩,w.at_) else Zne w c wants wants.length 1
def Z0w (w:Z2) (c:Zk) (who:Int):Z2:=if w.at_=who then ⟨w.at_,min (w.credit+1) (Zhx c who)⟩ else w
theorem Zi4 {w:Z2} {c:Zk} (h:Za5 w c=true):X9 c=true/\Zv c w.at_=true/\0<=w.credit/\w.credit<=Zhx c w.at_:=by
 simp only[Za5,ZZg,ZZl] at h;exact⟨h.1,h.2.1,h.2.2.1,h.2.2.2⟩
theorem Yv3 (w:Z2) (c:Zk) (wants:List Bool) (h:Za5 w c=true) (hn:wants.length=c.masters.length):∀(m r:Nat) (k:Int),r < m->k+r=wants.length+1->1<=k->Zlt w c wants m k=some (Zne w c wants r k)/\Zl9 w c wants m k=some (Zne w c wants r k):=by
 obtain⟨hc,hm,h1,h2⟩:=Zi4 h;have hl:=Zar hc;have hl2:=Zcj hc;simp only[Zv,ZZl] at hm;intro m
 induction m with
 | zero=>intro r k hr;omega
 | succ m ih=>
  intro r k hr hk h1k;show Zq4 w c wants _ k=_/\Zq9 w c wants _ k=_;unfold Zq4 Zq9;rw[<-hn];cases r with
  | zero=>
   rw[ZZi (by simp;omega),ZZi (by simp;omega)];exact⟨rfl,rfl⟩
  | succ r=>
   have h0:0<=(w.at_+k) % (wants.length:Int):=Vc2 _ (by omega);have h0':(w.at_+k) % (wants.length:Int) < (wants.length:Int):=Vco _ (by omega);have hmm:Zv c ((w.at_+k) % (wants.length:Int))=true:=by
    simp only[Zv,ZZl];omega
   have ht:=Z1g hc hmm;rw[ZZj (by simp;omega),ZZj (by simp;omega),Zw6 (by omega),ZZa,ZZa,Yq (a:=w.at_) (by omega) (by omega),Zeq (by omega),Xq h0 h0',ZZa,ZZa,Z3r c _ hl2,Zv8 c _ hl2,ZZa,Xe (by omega) (by omega),Yq (a:=k) (by omega) (by omega)];have:=ih r (k+1) (by omega) (by omega) (by omega);simp only[Zne];by_cases hq:atI wants ((w.at_+k) % (wants.length:Int))=true
   .simp[hq]
   .simp only[hq,if_false,ZZf]
    exact this
theorem Yqw (w:Z2) (c:Zk) (wants:List Bool) (h:Za5 w c=true) (hn:wants.length=c.masters.length):Zvb w c wants=some (Zda w c wants):=by
 obtain⟨hc,hm,h1,h2⟩:=Zi4 h;have hl:=Zar hc;have hl2:=Zcj hc;simp only[Zv,ZZl] at hm;have hs:=(Yv3 w c wants h hn FU wants.length 1 (by have:=Qx;omega) (by omega) (by omega)).1;have ht:=Z0o c w.at_;unfold Zvb Zlx Zlj Zda;rw[Z5p w c hl2,ZZa,h,Xq hm.1 (by omega),ZZa,hs,Xe (by omega) (by omega)];have h3:¬((wants.length:Int)≠(c.masters.length:Int)):=by omega
 by_cases h4:0 < w.credit<;>by_cases h5:atI wants w.at_=true<;>simp[h3,h4,h5]
theorem Yqx (w:Z2) (c:Zk) (wants:List Bool) (h:Za5 w c=true) (hn:wants.length=c.masters.length):Zwb w c wants=some (Zda w c wants):=by
 obtain⟨hc,hm,h1,h2⟩:=Zi4 h;have hl:=Zar hc;have hl2:=Zcj hc;simp only[Zv,ZZl] at hm;have hs:=(Yv3 w c wants h hn FU wants.length 1 (by have:=Qx;omega) (by omega) (by omega)).2;have ht:=Z0o c w.at_;unfold Zwb Zlr Zl6 Zda;rw[Z6d w c hl2,ZZa,h,Xq hm.1 (by omega),ZZa,hs,Xe (by omega) (by omega)];have h3:¬((wants.length:Int)≠(c.masters.length:Int)):=by omega
 by_cases h4:0 < w.credit<;>by_cases h5:atI wants w.at_=true<;>simp[h3,h4,h5]
theorem Yq7 (w:Z2) (c:Zk) (who:Int) (h:Za5 w c=true):Zvo w c who=some (Z0w w c who):=by
 obtain⟨hc,hm,h1,h2⟩:=Zi4 h;have hl2:=Zcj hc;have ht:=Z0o c w.at_;unfold Zvo Zlf Z0w;rw[Z6d w c hl2,ZZa,h,Zv8 c _ hl2,ZZa,Yq (by omega) (by omega),Zcf,Vdo];by_cases h4:w.at_=who<;>simp[h4]
theorem Ypl (w:Z2) (c:Zk) (who:Int) (h:Za5 w c=true):Zv5 w c who=some (Z0w w c who):=by
 obtain⟨hc,hm,h1,h2⟩:=Zi4 h;have hl2:=Zcj hc;have ht:=Z0o c w.at_;unfold Zv5 Zlz Z0w;rw[Z5p w c hl2,ZZa,h,Z3r c _ hl2,ZZa,Yq (by omega) (by omega),Zcf];by_cases h4:w.at_=who
 .simp[h4]
 .have:¬who=w.at_:=λh=>h4 h.symm
  simp[h4,this]
theorem Y4z {w:Z2} {c:Zk} (who:Int) (h:Za5 w c=true):Za5 (Z0w w c who) c=true:=by
 obtain⟨hc,hm,h1,h2⟩:=Zi4 h;unfold Z0w;split
 .rename_i h4
  subst h4;have ht:=Z0o c w.at_;simp only[Za5,ZZg,ZZl];exact⟨hc,hm,by omega,by omega⟩
 .exact h
theorem Y30 {w:Z2} {c:Zk} {wants:List Bool} (h:Za5 w c=true) (hn:wants.length=c.masters.length):∀(r:Nat) (k:Int),1<=k->Za5 (Zne w c wants r k).1 c=true/\((Zne w c wants r k).2=-1\/(Zv c (Zne w c wants r k).2=true/\atI wants (Zne w c wants r k).2=true)):=by
 obtain⟨hc,hm,h1,h2⟩:=Zi4 h;have hl:=Zar hc;intro r
 induction r with
 | zero=>
  intro k _;refine⟨?_,.inl rfl⟩;simp only[Zne];simp only[Za5,ZZg,ZZl];exact⟨hc,hm,by omega,by omega⟩
 | succ r ih=>
  intro k hk;simp only[Zne];split
  .rename_i hq
   have h0:0<=(w.at_+k) % (wants.length:Int):=Vc2 _ (by omega);have h0':(w.at_+k) % (wants.length:Int) < (wants.length:Int):=Vco _ (by omega);have hmm:Zv c ((w.at_+k) % (wants.length:Int))=true:=by
    simp only[Zv,ZZl];omega
   have ht:=Z1g hc hmm;refine⟨?_,.inr ⟨hmm,hq⟩⟩;simp only[Za5,ZZg,ZZl];exact⟨hc,hmm,by omega,by omega⟩
  .exact ih (k+1) (by omega)
theorem Y4o {w:Z2} {c:Zk} {wants:List Bool} (h:Za5 w c=true) (hn:wants.length=c.masters.length):Za5 (Zda w c wants).1 c=true/\((Zda w c wants).2=-1\/(Zv c (Zda w c wants).2=true/\atI wants (Zda w c wants).2=true)):=by
 obtain⟨hc,hm,h1,h2⟩:=Zi4 h;unfold Zda;split
 .rename_i h3
  simp only[ZZg,ZZl] at h3;refine⟨?_,.inr ⟨hm,h3.2⟩⟩;simp only[Za5,ZZg,ZZl];exact⟨hc,hm,by omega,by omega⟩
 .exact Y30 h hn _ _ (by omega)
def Yz (s:Int):Int:=if s=0 then 1 else if s=1 then 2 else if s=2 then 4 else 0
def Zgx (s:Int):Int:=if s=0 then 256 else if s=1 then 65536 else if s=2 then 4294967296 else 0
def X1 (b:Int):Int:=if b=0 then 1 else if b=1 then 4 else if b=2 then 4 else if b=3 then 8 else 0
theorem Zi3 (s:Int):0<=Yz s/\Yz s<=4:=by unfold Yz;repeat' split<;>omega
theorem Z2u (s:Int):0<=Zgx s/\Zgx s<=4294967296:=by unfold Zgx;repeat' split<;>omega
theorem Zm2 (b:Int):0<=X1 b/\X1 b<=8:=by unfold X1;repeat' split<;>omega
theorem Zbv (s:Int):Jo s=some (Yz s):=by
 unfold Jo;rw[Xk,ZZa];by_cases h:0<=s/\s<=2
 .have:s=0\/s=1\/s=2:=by omega
  rcases this with rfl|rfl|rfl<;>rfl
 .have:Yz s=0:=by unfold Yz;repeat' split<;>omega
  simp[h,this]
theorem Zit (s:Int):Zab s=some (Yz s):=by
 rw[<-Zbv];unfold Zab Jo;rw[X7,Xk]
theorem Zie (b:Int):Zba b=some (X1 b):=by
 unfold Zba;rw[Xk,ZZa];by_cases h:0<=b/\b<=3
 .have:b=0\/b=1\/b=2\/b=3:=by omega
  rcases this with rfl|rfl|rfl|rfl<;>rfl
 .have:X1 b=0:=by unfold X1;repeat' split<;>omega
  simp[h,this]
theorem Zsl (b:Int):Zg9 b=some (X1 b):=by
 rw[<-Zie];unfold Zg9 Zba;rw[X7,Xk]
theorem Zbl (s:Int):Qr s=some (Zgx s):=by
 unfold Qr;rw[Zbv,ZZa,ZZa];by_cases h:s=0\/s=1\/s=2
 .rcases h with rfl|rfl|rfl<;>rfl
 .have h1:Yz s=0:=by unfold Yz;repeat' split<;>omega
  have h2:Zgx s=0:=by unfold Zgx;repeat' split<;>omega
  simp[h1,h2]
theorem Z97 (s:Int):Zpn s=some (Zgx s):=by
 rw[<-Zbl];unfold Zpn Qr;simp only[Zit,Zbv]
def Xz (v s:Int):Bool:=decide (0<=v/\v < Zgx s)
theorem Zjc (v s:Int):Zef v s=some (Xz v s):=by
 have:=Z2u s;unfold Zef Xz;rw[Z97,ZZa,X7,ZZa,Xe (by omega) (by omega)]
 congr 2
 apply propext;omega
theorem Zrb (v s:Int):Z5 v 0 (Y8 (Zgx s) 1)=some (Xz v s):=by
 have:=Z2u s;unfold Xz;rw[Xk,Xe (by omega) (by omega)]
 congr 2
 apply propext;omega
def Wd (a s:Int):Bool:=decide (0 < Yz s)&&(decide (0<=a)&&decide (a % Yz s=0))
theorem Zr3 (a s:Int):Zbb a s=some (Wd a s):=by
 unfold Zbb Wd;rw[Zbv,ZZa,ZZa];by_cases h1:0 < Yz s
 .by_cases h2:0<=a
  .rw[Zw6 (by omega),Zeq h2];simp[h1,h2]
  .simp[h1,h2]
 .simp[h1]
theorem Zrk (s:Int):0 < Yz s↔(0<=s/\s<=2):=by
 unfold Yz
 repeat' split<;>omega
theorem Zsn (a s:Int):Zhh a s=some (Wd a s):=by
 unfold Zhh Wd;rw[X7,ZZa,Zit,ZZa];by_cases h1:0 < Yz s
 .have h3:=(Zrk s).1 h1
  by_cases h2:0<=a
  .rw[Zw6 (by omega),Zeq h2];simp[h1,h2,h3]
  .simp[h1,h2,h3]
 .have h3:¬(0<=s/\s<=2):=λh=>h1 ((Zrk s).2 h)
  simp[h1,h3]
def Zl0 (a s b:Int):Int:=if (Wd a s=true/\a < 512)/\X1 b≠0 then (if b=2/\(a+Yz s) % (4*Yz s)=0 then a+Yz s - 4*Yz s else a+Yz s) else -1
theorem Zb2 {a s:Int} (h:Wd a s=true):0 < Yz s/\0<=a/\a % Yz s=0:=by
 simpa [Wd,ZZg,ZZl] using h
theorem Ym2 (a s b:Int):Znh a s b=some (Zl0 a s b):=by
 have hb:=Zi3 s;unfold Znh Zex Zkd Zl0;rw[Zbv,ZZa,Zr3,ZZa,Xk,ZZa,Zie,ZZa];by_cases h1:Wd a s=true
 .obtain⟨h2,h3,h4⟩:=Zb2 h1
  by_cases h5:a < 512
  .have h6:0<=a/\a<=511:=by omega
   rw[Zfy (by omega) (by omega),Yq (by omega) (by omega),Xe (by omega) (by omega),Zw6 (by omega),Zeq (by omega)];by_cases h7:X1 b=0
   .simp[h1,h5,h6,h7]
   .by_cases h8:b=2
    .subst h8
     by_cases h9:(a+Yz s) % (4*Yz s)=0<;>simp[h1,h5,h6,h7,h9]
    .simp[h1,h5,h6,h7,h8]
  .have h6:¬(0<=a/\a<=511):=by omega
   simp[h1,h5,h6]
 .simp[h1]
theorem Ym4 (a s b:Int):Zsw a s b=some (Zl0 a s b):=by
 have hb:=Zi3 s;unfold Zsw Ze4 Zl0;rw[Zsn,ZZa,Zit,ZZa,ZZa,Zsl,ZZa];by_cases h1:Wd a s=true
 .obtain⟨h2,h3,h4⟩:=Zb2 h1
  by_cases h5:a < 512
  .have h6:¬a≥512:=by omega
   rw[Zfy (by omega) (by omega),Yq (by omega) (by omega),Xe (by omega) (by omega),Zw6 (by omega),Zeq (by omega)];by_cases h7:X1 b=0
   .simp[h1,h5,h6,h7]
   .by_cases h8:b=2
    .subst h8
     by_cases h9:(a+Yz s) % (4*Yz s)=0<;>simp[h1,h5,h6,h7,h9]
    .simp[h1,h5,h6,h7,h8]
  .have h6:a≥512:=by omega
   simp[h1,h5,h6]
 .simp[h1]
theorem Ys2 {a s b:Int} (h:0<=Zl0 a s b):Wd a s=true/\a < 512:=by
 unfold Zl0 at h;split at h
 .rename_i h1;exact h1.1
 .omega
def Zdc (s b:Int):Nat->Int->Option (List Int)
 | 0,_=>some []
 | n+1,a=>if Zl0 a s b < 0 then none else (Zdc s b n (Zl0 a s b)).map (a::·)
def Zae (a s b:Int):List Int:=(Zdc s b (X1 b).toNat a).getD []
theorem Z2y (a s b:Int):Zip a s b=some (Zae a s b):=by
 have hb:=Zm2 b;unfold Zip;rw[Zsl,ZZa];have key:∀(n m:Nat) (x:Int) (out:List Int) (k:Nat),n < m->(k:Int)+n=X1 b->out.length=k->Zf3 a s b m x out (X1 b) k=some (match Zdc s b n x with|some l=>out++l|none=>[]):=by
  intro n
  induction n with
  | zero=>
   intro m x out k hm hk ho;obtain⟨m,rfl⟩:∃m',m=m'+1:=⟨m - 1,by omega⟩;show Zb8 a s b _ x out (X1 b) k=_;unfold Zb8;rw[ZZi (by simp;omega)];simp[Zdc]
  | succ n ih=>
   intro m x out k hm hk ho;obtain⟨m,rfl⟩:∃m',m=m'+1:=⟨m - 1,by omega⟩;show Zb8 a s b _ x out (X1 b) k=_;unfold Zb8;rw[ZZj (by simp;omega),Ym4,ZZa];simp only[Zdc];by_cases h1:Zl0 x s b < 0
   .rw[ZZj (by simpa using h1),ZZj h1]
   .rw[ZZi (by simpa using h1),ZZi h1,Kh (by simp;omega) (by simp;omega),ZZa,Wj (by omega),ih m _ _ (k+1) (by omega) (by omega) (by simp[ho])]
    cases Zdc s b n (Zl0 x s b)<;>simp
 have:=key (X1 b).toNat FU a [] 0 (by have:=Qx;omega) (by omega) rfl;rw[show ((0:Nat):Int)=0 from rfl] at this;rw[this];unfold Zae;cases Zdc s b (X1 b).toNat a<;>simp
theorem Z1m (a s b:Int):Ziu a s b=some (Zae a s b):=by
 have hb:=Zm2 b;unfold Ziu;have key:∀(n m:Nat) (x:Int) (out:List Int),n < m->(out.length:Int)+n=X1 b->Zgd a s b m x out=some (match Zdc s b n x with|some l=>out++l|none=>[]):=by
  intro n
  induction n with
  | zero=>
   intro m x out hm hk;obtain⟨m,rfl⟩:∃m',m=m'+1:=⟨m - 1,by omega⟩;show Zcc a s b _ x out=_;unfold Zcc Zc7;have h1:¬((out.length:Int) < X1 b):=by omega
   simp[Zie,h1,Zdc]
  | succ n ih=>
   intro m x out hm hk;obtain⟨m,rfl⟩:∃m',m=m'+1:=⟨m - 1,by omega⟩;show Zcc a s b _ x out=_;unfold Zcc Zc7;have h1:(out.length:Int) < X1 b:=by omega
   simp only[Zie,Ym2,ZZa,h1,decide_true,if_true,Zdc,ZZl];by_cases h2:Zl0 x s b < 0
   .have h3:¬(Zl0 x s b≥0):=by omega
    rw[ZZi h3,ZZj h2]
   .have h3:Zl0 x s b≥0:=by omega
    rw[ZZj h3,ZZi h2,Kh (by simp;omega) (by simp;omega),ZZa,ih m _ _ (by omega) (by simp;omega)];cases Zdc s b n (Zl0 x s b)<;>simp
 have:=key (X1 b).toNat FU a [] (by have:=Qx;omega) (by simp;omega);rw[this];unfold Zae;cases Zdc s b (X1 b).toNat a<;>simp
theorem Ylj {s b:Int}:∀{n:Nat} {a:Int} {l:List Int},Zdc s b n a=some l->l.length=n/\(∀x∈l,Wd x s=true/\x < 512)/\(0 < n->l.head?=some a):=by
 intro n
 induction n with
 | zero=>intro a l h;simp only[Zdc,ZZd] at h;subst h;simp
 | succ n ih=>
  intro a l h;simp only[Zdc] at h;split at h
  .cases h
  .rename_i h1
   obtain⟨l',h2,rfl⟩:=ZZc.1 h;obtain⟨h3,h4,_⟩:=ih h2;refine⟨by simp[h3],λx hx=>?_,λ_=>rfl⟩;rcases Vau.1 hx with rfl|hx
   .exact Ys2 (s:=s) (b:=b) (by omega)
   .exact h4 x hx
theorem Yh4 (a s b:Int):Zae a s b=[]\/((Zae a s b).length:Int)=X1 b:=by
 unfold Zae;have hb:=Zm2 b;cases h:Zdc s b (X1 b).toNat a with
 | none=>exact .inl rfl
 | some l=>
  have:=(Ylj h).1;exact .inr (by simp only[Vaz];omega)
theorem Z6g {a s b x:Int} (h:x∈Zae a s b):Wd x s=true/\0<=x/\x < 512:=by
 unfold Zae at h;cases h2:Zdc s b (X1 b).toNat a with
 | none=>rw[h2] at h;simp at h
 | some l=>
  rw[h2] at h;have:=(Ylj h2).2.1 x h;exact⟨this.1,(Zb2 this.1).2.1,this.2⟩
theorem Yl3 (a s b:Int):(Zae a s b).length<=8:=by
 have:=Zm2 b;rcases Yh4 a s b with h|h
 .rw[h];simp
 .omega
def Zpy (a s b:Int):Bool:=(Zae a s b).all (λx=>decide (x / 64=atI (Zae a s b) 0 / 64))&&decide (Zae a s b≠[])
theorem Ybh {x:Int} (h0:0<=x) (h1:x < 512):Zss x 64=x / 64:=Ybe h0 (by omega) (by omega)
theorem You (a s b:Int):Zvx a s b=some (Zpy a s b):=by
 unfold Zvx Zpy;rw[Z2y,ZZa];generalize hA:Zae a s b=l;have hm:∀x∈l,0<=x/\x < 512:=λx hx=>by rw[<-hA] at hx;exact (Z6g hx).2
 have hl:l.length<=8:=by rw[<-hA];exact Yl3 a s b
 have key:∀(m k:Nat),k<=l.length->l.length - k < m->Zly a s b m l (l.length:Int) k=some ((l.drop k).all (λx=>decide (x / 64=atI l 0 / 64))&&decide (l≠[])):=by
  intro m
  induction m with
  | zero=>intro k _ h;omega
  | succ m ih=>
   intro k hk hm2;show Zqy a s b _ l (l.length:Int) k=_;unfold Zqy;by_cases hc:k < l.length
   .have h0:=hm _ (Vaq hc)
    have h1:=hm _ (Vaq (by omega:0 < l.length));rw[ZZj (by simpa using hc),Xs hc,ZZa,show (0:Int)=((0:Nat):Int) from rfl,Xs (by omega:0 < l.length),ZZa,Ybh h0.1 h0.2,Ybh h1.1 h1.2,Qk (by omega:0 < l.length),Va2 hc,Va6];by_cases hq:(l[k]:Int) / (64:Int)=(l[0]:Int) / (64:Int)
    .rw[ZZi (by simpa using hq),Wj (by omega),ih (k+1) (by omega) (by omega),show (0:Int)=((0:Nat):Int) from rfl,Qk (by omega:0 < l.length),decide_eq_true hq,Vby]
    .rw[ZZj (by simpa using hq),decide_eq_false hq,Vbq,Vbq]
   .rw[ZZi (by simpa using hc),Va9 (by omega)]
    simp[Van]
 have:=key FU 0 (Vbk _) (by have:=Qx;omega);simpa using this
theorem Yqn (a s b:Int):Zwh a s b=some (Zpy a s b):=by
 unfold Zwh Zpy;rw[Z1m,ZZa];generalize hA:Zae a s b=l;have hm:∀x∈l,0<=x/\x < 512:=λx hx=>by rw[<-hA] at hx;exact (Z6g hx).2
 have hl:l.length<=8:=by rw[<-hA];exact Yl3 a s b
 have key:∀(m k:Nat),k<=l.length->l.length - k < m->Zls a s b m l k=some ((l.drop k).all (λx=>decide (x / 64=atI l 0 / 64))&&decide (l≠[])):=by
  intro m
  induction m with
  | zero=>intro k _ h;omega
  | succ m ih=>
   intro k hk hm2;show Zq6 a s b _ l k=_;unfold Zq6;by_cases hc:k < l.length
   .have h0:=hm _ (Vaq hc)
    have h1:=hm _ (Vaq (by omega:0 < l.length));rw[ZZj (by simpa using hc),Xs hc,ZZa,show (0:Int)=((0:Nat):Int) from rfl,Xs (by omega:0 < l.length),ZZa,Ybh h0.1 h0.2,Ybh h1.1 h1.2,Qk (by omega:0 < l.length),Va2 hc,Va6];by_cases hq:(l[k]:Int) / (64:Int)=(l[0]:Int) / (64:Int)
    .rw[ZZi (by simpa using hq),Wj (by omega),ih (k+1) (by omega) (by omega),show (0:Int)=((0:Nat):Int) from rfl,Qk (by omega:0 < l.length),decide_eq_true hq,Vby]
    .rw[ZZj (by simpa using hq),decide_eq_false hq,Vbq,Vbq]
   .rw[ZZi (by simpa using hc),Va9 (by omega)]
    simp[Van]
 have:=key FU 0 (Vbk _) (by have:=Qx;omega);simpa using this
instance:Inhabited Zg:=⟨Zg.z0⟩
def Zd2 (r:Zg):Bool:=Zpy r.addr r.size r.burst&&(decide ((r.data_.length:Int)=if r.write then X1 r.burst else 0)&&r.data_.all λv=>Xz v r.size)
def Zg.sm (r:Zg):Prop:=r.data_.length < 1048577
theorem Yie (r:Zg) (hs:r.sm):Zwr r=some (Zd2 r):=by
 unfold Zg.sm at hs;have hf:Wr r.data_ r=some (!r.data_.all λv=>Xz v r.size):=by
  unfold Wr K7;refine Z1j r.data_ (by omega) (λv=>Zwf v r) (λv=>Xz v r.size) (λv _=>?_) _ (λm i=>rfl);unfold Zwf;rw[Zjc];rfl
 unfold Zwr Zqd Zd2;rw[Zsl,ZZa,You,ZZa,hf,ZZa,Vek];by_cases h1:Zpy r.addr r.size r.burst=true
 .by_cases h2:r.write=true
  .by_cases h3:(r.data_.length:Int)=X1 r.burst<;>simp[h1,h2,h3]
  .by_cases h3:r.data_=[]<;>simp[h1,h2,h3]
 .by_cases h2:r.write=true<;>simp[h1,h2]
theorem Yg5 (r:Zg) (hs:r.sm):Zww r=some (Zd2 r):=by
 unfold Zg.sm at hs;unfold Zww;rw[Yqn,ZZa];have hb:=Zm2 r.burst;have key:∀(m k:Nat),k<=r.data_.length->r.data_.length - k < m->Zqq r m k=some (decide ((r.data_.length:Int)=if r.write then X1 r.burst else 0)&&(r.data_.drop k).all λv=>Xz v r.size):=by
  intro m
  induction m with
  | zero=>intro k _ h;omega
  | succ m ih=>
   intro k hk hm;show Zuy r _ k=_;unfold Zuy;by_cases hc:k < r.data_.length
   .rw[ZZj (by simpa using hc),Xs hc,ZZa,Zbl,ZZa,Zrb,ZZa,Va2 hc,Va6]
    by_cases hq:Xz r.data_[k] r.size=true
    .rw[ZZi (by simp[hq]),Wj (by omega),ih (k+1) (by omega) (by omega)]
     simp[hq]
    .rw[ZZj (by simp[hq])]
     simp[hq]
   .rw[ZZi (by simpa using hc),Va9 (by omega),Zie]
    cases h2:r.write<;>simp only[if_true,if_false,ZZf,ZZa,Vdm,Vci]<;>generalize decide ((r.data_.length:Int)=0)=x<;>generalize decide ((r.data_.length:Int)=X1 r.burst)=y<;>cases x<;>cases y<;>rfl
 have:=key FU 0 (Vbk _) (by have:=Qx;omega);unfold Zd2;by_cases h1:Zpy r.addr r.size r.burst=true
 .rw[ZZi (by simp[h1]),show (0:Int)=((0:Nat):Int) from rfl,this]
  simp[h1]
 .rw[ZZj (by simp[h1])]
  simp[h1]
theorem Zi5 {r:Zg} (h:Zd2 r=true):Zpy r.addr r.size r.burst=true/\(r.data_.length:Int)=(if r.write then X1 r.burst else 0)/\∀v∈r.data_,Xz v r.size=true:=by
 simp only[Zd2,ZZg,ZZl,ZZk] at h;exact⟨h.1,h.2.1,h.2.2⟩
theorem Zri {a s b:Int} (h:Zpy a s b=true):((Zae a s b).length:Int)=X1 b/\1<=X1 b:=by
 simp only[Zpy,ZZg,ZZl] at h;rcases Yh4 a s b with h1|h1
 .exact absurd h1 h.2
 .have:0 < (Zae a s b).length:=Van.2 h.2
  omega
theorem Y0s {r:Zg} (h:Zd2 r=true):r.sm:=by
 have:=(Zi5 h).2.1;have hb:=Zm2 r.burst;unfold Zg.sm;split at this<;>omega
theorem Z9o (r:Zg) (hs:r.sm):Zj6 r=some r:=by
 unfold Zg.sm at hs;unfold Zj6 Xc;rw[Kh (by simp;omega) (by simp;omega)];rfl
theorem Z79 (r:Zg) (hs:r.sm):Zj1 r=some r:=by
 unfold Zg.sm at hs;unfold Zj1;rw[Kh (by simp;omega) (by simp;omega)];rfl
instance:Inhabited Zb:=⟨Zb.z0⟩
def Z0 (m:Zb):Int:=if m.queue=[] then 0 else X1 (atI m.queue 0).burst
theorem Zsr (m:Zb):0<=Z0 m/\Z0 m<=8:=by
 unfold Z0;have:=Zm2 (atI m.queue 0).burst;split<;>omega
def Zw4 (m:Zb):Bool:=decide (m.queue.length<=4)&&(decide (0<=m.tries)&&(m.queue.all Zd2&&
 (if m.queue=[] then decide (m.beat=0)&&(decide (m.done=0)&&(decide (m.tries=0)&&(!m.parted&&!m.broken))) else decide (0<=m.done/\m.done<=Z0 m - 1)&&decide (m.done<=m.beat/\m.beat<=min (m.done+2) (Z0 m)))))
def Zb.sm (m:Zb):Prop:=m.queue.length < 1048577/\∀r∈m.queue,r.sm
structure Yt (m:Zb):Prop where
 len:m.queue.length<=4
 tries:0<=m.tries
 reqs:∀r∈m.queue,Zd2 r=true
 none:m.queue=[]->m.beat=0/\m.done=0/\m.tries=0/\m.parted=false/\m.broken=false
 some:m.queue≠[]->0<=m.done/\m.done < Z0 m/\m.done<=m.beat/\m.beat<=m.done+2/\m.beat<=Z0 m
theorem Jj {m:Zb}:Zw4 m=true↔Yt m:=by
 unfold Zw4;by_cases h:m.queue=[]
 .constructor
  .intro h1
   simp only[h,if_true,ZZg,ZZl,Vb1] at h1;exact⟨by simp[h],h1.2.1,by simp[h],λ_=>⟨h1.2.2.2.1,h1.2.2.2.2.1,h1.2.2.2.2.2.1,h1.2.2.2.2.2.2.1,h1.2.2.2.2.2.2.2⟩,λh2=>absurd h h2⟩
  .intro h1
   obtain⟨h2,h3,h4,h5,h6⟩:=h1.none h;simp[h,h2,h3,h4,h5,h6]
 .constructor
  .intro h1
   rw[ZZi h] at h1;simp only[ZZg,ZZl,ZZk] at h1;exact⟨h1.1,h1.2.1,h1.2.2.1,λh2=>absurd h2 h,λ_=>by omega⟩
  .intro h1
   have h2:=h1.some h;rw[ZZi h];simp only[ZZg,ZZl,ZZk];exact⟨h1.len,h1.tries,h1.reqs,by omega,by omega⟩
theorem Yt.sm {m:Zb} (h:Yt m):m.sm:=⟨by have:=h.len;omega,λr hr=>Y0s (h.reqs r hr)⟩
theorem Zyz (m:Zb):Zb1 m=some (Z0 m):=by
 unfold Zb1 Z0;by_cases h:m.queue=[]
 .simp[h]
 .have h1:0 < m.queue.length:=Van.2 h
  rw[ZZi (by simpa using h),ZZi h,Xq (by omega) (by omega),ZZa,Zsl];rfl
theorem Zye (m:Zb):Zc6 m=some (Z0 m):=by
 unfold Zc6 Z0;by_cases h:m.queue=[]
 .simp[h]
 .have h1:0 < m.queue.length:=Van.2 h
  rw[ZZi (by simpa using h),ZZi h,Xq (by omega) (by omega),ZZa,Zie];rfl
theorem Zbz (m:Zb) (hs:m.sm):Kq m=some (Zw4 m):=by
 have hf:X2 m.queue=some (!m.queue.all Zd2):=by
  unfold X2 Qu;refine Z1j m.queue (by have:=hs.1;omega) Zge Zd2 (λr hr=>?_) _ (λm i=>rfl);unfold Zge;rw[Yie r (hs.2 r hr)];rfl
 have hb:=Zsr m;have hJ:Wu m false=some (if m.queue=[] then decide (m.beat=0)&&(decide (m.done=0)&&(decide (m.tries=0)&&(!m.parted&&!m.broken))) else decide (0<=m.done/\m.done<=Z0 m - 1)&&decide (m.done<=m.beat/\m.beat<=min (m.done+2) (Z0 m))):=by
  unfold Wu;rw[Zyz,ZZa,ZZa,X7,ZZa,X7,ZZa,Xe (by omega) (by omega)];by_cases h:m.queue=[]
  .rw[ZZi (by simp),ZZj (by simpa using h),ZZj h]
   by_cases h1:m.beat=0<;>by_cases h2:m.done=0<;>by_cases h3:m.tries=0<;>by_cases h4:m.parted=true<;>simp[h1,h2,h3,h4]
  .rw[ZZi (by simp),ZZi (by simpa using h),ZZi h]
   by_cases h1:0<=m.done/\m.done<=Z0 m - 1
   .rw[Yq (by omega) (by omega),Zcf]
    simp[h1]
   .simp[h1]
 unfold Kq Zw4;rw[hf,ZZa];by_cases h1:(m.queue.length:Int) > 4
 .have h2:¬m.queue.length<=4:=by omega
  simp[h1,h2,Wu]
 .have h2:m.queue.length<=4:=by omega
  by_cases h3:m.tries < 0
  .have h4:¬0<=m.tries:=by omega
   simp[h1,h2,h3,h4,Wu]
  .have h4:0<=m.tries:=by omega
   rw[ZZi (by simpa using h1),ZZi (by simpa using h3)];by_cases h5:m.queue.all Zd2=true
   .rw[h5,Va5,hJ]
    simp only[h2,h4,decide_true,Vby]
   .have h6:m.queue.all Zd2=false:=by simpa using h5
    rw[h6,Vbd];simp[Wu]
theorem Zfz (m:Zb) (hs:m.sm):Zbt m=some (Zw4 m):=by
 have hb:=Zsr m;have hJ:Zap m false=some (if m.queue=[] then decide (m.beat=0)&&(decide (m.done=0)&&(decide (m.tries=0)&&(!m.parted&&!m.broken))) else decide (0<=m.done/\m.done<=Z0 m - 1)&&decide (m.done<=m.beat/\m.beat<=min (m.done+2) (Z0 m))):=by
  unfold Zap;rw[Zye,ZZa,ZZa,Xk,ZZa,Xk,ZZa,Xe (by omega) (by omega)];by_cases h:m.queue=[]
  .rw[ZZi (by simp),ZZj (by simpa using h),ZZj h]
   by_cases h1:m.beat=0<;>by_cases h2:m.done=0<;>by_cases h3:m.tries=0<;>by_cases h4:m.parted=true<;>simp[h1,h2,h3,h4]
  .rw[ZZi (by simp),ZZi (by simpa using h),ZZi h]
   by_cases h1:0<=m.done/\m.done<=Z0 m - 1
   .rw[Yq (by omega) (by omega),Zcf]
    simp[h1]
   .simp[h1]
 unfold Zbt;have hl:=hs.1;have key:∀(n k:Nat),k<=m.queue.length->m.queue.length - k < n->Zjd m n k=some (decide (m.queue.length<=4)&&(decide (0<=m.tries)&&((m.queue.drop k).all Zd2&&
 (if m.queue=[] then decide (m.beat=0)&&(decide (m.done=0)&&(decide (m.tries=0)&&(!m.parted&&!m.broken))) else decide (0<=m.done/\m.done<=Z0 m - 1)&&decide (m.done<=m.beat/\m.beat<=min (m.done+2) (Z0 m)))))):=by
  intro n
  induction n with
  | zero=>intro k _ h;omega
  | succ n ih=>
   intro k hk hm;show Zpj m _ k=_;unfold Zpj;by_cases hc:k < m.queue.length
   .rw[ZZj (by simpa using hc),Xs hc,ZZa,Yg5 _ (hs.2 _ (Vaq hc)),ZZa,Va2 hc,Va6]
    by_cases hq:Zd2 m.queue[k]=true
    .rw[ZZi (by simp[hq]),Wj (by omega),ih (k+1) (by omega) (by omega)]
     simp[hq]
    .rw[ZZj (by simp[hq])]
     simp[hq]
   .rw[ZZi (by simpa using hc),Va9 (by omega)]
    by_cases h1:(m.queue.length:Int) > 4
    .have h2:¬m.queue.length<=4:=by omega
     simp[h1,h2,Zap]
    .have h2:m.queue.length<=4:=by omega
     by_cases h3:m.tries < 0
     .have h4:¬0<=m.tries:=by omega
      simp[h1,h2,h3,h4,Zap]
     .have h4:0<=m.tries:=by omega
      rw[ZZi (by simpa using h1),decide_eq_false h3,hJ];simp only[h2,h4,decide_true,Vby,Vdm]
 have:=key FU 0 (Vbk _) (by have:=Qx;omega);simpa [Zw4] using this
theorem Zpp (m:Zb) (hs:m.sm):Zgw m=some m:=by
 unfold Zgw;refine (Ylg 64 (by decide) m.queue hs.1 Zj6 (λr hr=>Z9o r (hs.2 r hr)) (λv=>some {m with queue:=v}) (Zo1 m) (λn v i=>rfl)).trans ?_;rfl
theorem Zms (m:Zb) (hs:m.sm):Zeh m=some m:=by
 unfold Zeh;refine (Ylg 64 (by decide) m.queue hs.1 Zj1 (λr hr=>Z79 r (hs.2 r hr)) (λv=>some {m with queue:=v}) (Zlw m) (λn v i=>rfl)).trans ?_;rfl
def J5 (m:Zb) (r:Zg):Zb:=if Zd2 r=true/\m.queue.length≠4 then {m with queue:=m.queue++[r]} else m
def Zp1 (m:Zb):Bool:=decide (m.beat < Z0 m)
def X5 (m:Zb) (b:Int):Int:=if 0<=b/\b<=Z0 m - 1 then atI (Zae (atI m.queue 0).addr (atI m.queue 0).size (atI m.queue 0).burst) b else -1
def X6 (m:Zb):Zb:=if m.beat < Z0 m/\m.beat≠m.done+2 then {m with beat:=m.beat+1} else m
def Zbs (m:Zb):Zb:=if m.beat=m.done then m else {m with beat:=m.beat - 1}
def Jb (m:Zb):Zb:=if m.beat=m.done then m else if m.done+1=Z0 m then Zb.mk m.queue.tail 0 0 0 false false else Zb.mk m.queue m.beat (m.done+1) 0 false m.broken
theorem Je {m:Zb} (h:Yt m):0<=m.done/\m.done<=8/\0<=m.beat/\m.beat<=8:=by
 have hb:=Zsr m;by_cases hq:m.queue=[]
 .have:=h.none hq;omega
 .have:=h.some hq;omega
theorem Zvq {m:Zb} (h:Yt m) (hq:m.queue≠[]):Zd2 (atI m.queue 0)=true/\Z0 m=X1 (atI m.queue 0).burst/\1<=Z0 m:=by
 have h1:0 < m.queue.length:=Van.2 hq;have h2:Zd2 (atI m.queue 0)=true:=h.reqs _ (Zkq (by omega) (by omega));have h3:Z0 m=X1 (atI m.queue 0).burst:=by unfold Z0;rw[ZZi hq]
 exact⟨h2,h3,by rw[h3];exact (Zri (Zi5 h2).1).2⟩
theorem Yo9 {m:Zb} {b:Int} (h:Yt m) (h0:0<=b) (h1:b < Z0 m):X5 m b∈Zae (atI m.queue 0).addr (atI m.queue 0).size (atI m.queue 0).burst/\Wd (X5 m b) (atI m.queue 0).size=true/\0<=X5 m b/\X5 m b < 512:=by
 have hq:m.queue≠[]:=by
  intro hq;unfold Z0 at h1;rw[ZZj hq] at h1;omega
 obtain⟨h2,h3,h4⟩:=Zvq h hq;have h5:=(Zri (Zi5 h2).1).1;have h6:X5 m b=atI (Zae (atI m.queue 0).addr (atI m.queue 0).size (atI m.queue 0).burst) b:=by
  unfold X5;rw[ZZj (by omega)]
 have h7:=Zkq (xs:=Zae (atI m.queue 0).addr (atI m.queue 0).size (atI m.queue 0).burst) h0 (by omega);rw[h6];have h8:=Z6g h7;exact⟨h7,h8.1,h8.2.1,h8.2.2⟩
theorem Ze8 {m:Zb} (b:Int) (h:Yt m):Zea m b=some (X5 m b):=by
 have hb:=Zsr m;unfold Zea Zlp;rw[Zbz m h.sm,ZZa,Jj.2 h,Zyz,ZZa,X7,ZZa,Xe (by omega) (by omega)];by_cases h1:0<=b/\b<=Z0 m - 1
 .have hq:m.queue≠[]:=by
   intro hq;unfold Z0 at h1;rw[ZZj hq] at h1;omega
  obtain⟨h2,h3,h4⟩:=Zvq h hq;have h5:=(Zri (Zi5 h2).1).1;have h6:0 < m.queue.length:=Van.2 hq;rw[Xq (by omega) (by omega),ZZa,Z2y,ZZa,Xq h1.1 (by omega)];simp[h1,X5]
 .simp[h1,X5]
theorem Zid {m:Zb} (b:Int) (h:Yt m):Zhc m b=some (X5 m b):=by
 have hb:=Zsr m;unfold Zhc Zma;rw[Zfz m h.sm,ZZa,Jj.2 h,Zye,ZZa,Xk,ZZa,Xe (by omega) (by omega)];by_cases h1:0<=b/\b<=Z0 m - 1
 .have hq:m.queue≠[]:=by
   intro hq;unfold Z0 at h1;rw[ZZj hq] at h1;omega
  obtain⟨h2,h3,h4⟩:=Zvq h hq;have h5:=(Zri (Zi5 h2).1).1;have h6:0 < m.queue.length:=Van.2 hq;rw[Xq (by omega) (by omega),ZZa,Z1m,ZZa,Xq h1.1 (by omega)];simp[h1,X5]
 .simp[h1,X5]
theorem Z7e {m:Zb} (h:Yt m):Znq m=some (Zp1 m):=by
 unfold Znq Zp1;rw[Zbz m h.sm,ZZa,Jj.2 h,Zyz];rfl
theorem Z68 {m:Zb} (h:Yt m):Znz m=some (Zp1 m):=by
 unfold Znz Zp1;rw[Zfz m h.sm,ZZa,Jj.2 h,Zye];rfl
theorem Yp0 {m:Zb} {r:Zg} (h:Yt m) (hr:r.sm):∃b,Zvl m r=some (J5 m r,b):=by
 have hl:=h.len;unfold Zvl Zf2 J5;rw[Zpp m h.sm,ZZa,Zbz m h.sm,ZZa,Jj.2 h,Yie r hr,ZZa,Z9o r hr,ZZa,Kh (by simp;omega) (by simp;omega),ZZa];by_cases h1:Zd2 r=true
 .by_cases h2:m.queue.length=4
  .simp[h1,h2]
  .have h3:¬((m.queue.length:Int)=4):=by omega
   simp[h1,h2,h3]
 .simp[h1]
theorem Yn9 {m:Zb} {r:Zg} (h:Yt m) (hr:r.sm):∃b,Zv2 m r=some (J5 m r,b):=by
 have hl:=h.len;unfold Zv2 Zf5 J5;rw[Zms m h.sm,ZZa,Zfz m h.sm,ZZa,Jj.2 h,Yg5 r hr,ZZa,Z79 r hr,ZZa,Kh (by simp;omega) (by simp;omega),ZZa];by_cases h1:Zd2 r=true
 .by_cases h2:m.queue.length=4
  .simp[h1,h2]
  .have h3:¬((m.queue.length:Int)=4):=by omega
   simp[h1,h2,h3]
 .simp[h1]
theorem Ynm {m:Zb} (h:Yt m):∃b,Zr6 m=some (X6 m,b):=by
 have hb:=Je h;unfold Zr6 Zj0 X6;rw[Zpp m h.sm,ZZa,Z7e h,ZZa,Yq (a:=m.done) (by omega) (by omega),Yq (by omega) (by omega)];unfold Zp1;by_cases h1:m.beat < Z0 m
 .by_cases h2:m.beat=m.done+2<;>simp[h1,h2]
 .simp[h1]
theorem Yni {m:Zb} (h:Yt m):∃b,Zsh m=some (X6 m,b):=by
 have hb:=Je h;unfold Zsh Zkb X6;rw[Zms m h.sm,ZZa,Z68 h,ZZa,Yq (a:=m.done) (by omega) (by omega),Yq (by omega) (by omega)];unfold Zp1;by_cases h1:m.beat < Z0 m
 .by_cases h2:m.beat=m.done+2<;>simp[h1,h2]
 .simp[h1]
theorem Ypt {m:Zb} (h:Yt m):∃b,Zvf m=some (Zbs m,b):=by
 have hb:=Je h;unfold Zvf Zll Zbs;rw[Zpp m h.sm,ZZa,Zbz m h.sm,ZZa,Jj.2 h,Xe (by omega) (by omega)];by_cases h1:m.beat=m.done<;>simp[h1]
theorem Yol {m:Zb} (h:Yt m):∃b,Zv9 m=some (Zbs m,b):=by
 have hb:=Je h;unfold Zv9 Zl4 Zbs;rw[Zms m h.sm,ZZa,Zfz m h.sm,ZZa,Jj.2 h,Xe (by omega) (by omega)];by_cases h1:m.beat=m.done<;>simp[h1]
theorem Zyk {α:Type} (xs:List α) (h:xs≠[]) (hl:xs.length < 1048577):Zad xs 1 (xs.length:Int)=some xs.tail:=by
 have h1:0 < xs.length:=Van.2 h;unfold Zad;rw[ZZj ⟨by omega,by omega,by omega⟩]
 congr 1
 rw[Vbi (by simp),<-List.drop_one];rfl
theorem Zha {m:Zb} (h:Yt m) (hb:m.beat≠m.done):m.queue≠[]:=by
 intro hq;have:=h.none hq;omega
theorem Ysx {m:Zb} (h:Yt m):∃b,Zyh m=some (Jb m,b):=by
 have hb:=Je h;have hl:=h.len;unfold Zyh Zoh Jb;rw[Zpp m h.sm,ZZa,Zbz m h.sm,ZZa,Jj.2 h,Yq (by omega) (by omega),Zyz,ZZa];have e:Z0 {m with done:=m.done+1}=Z0 m:=rfl;rw[e];by_cases h1:m.beat=m.done
 .simp[h1]
 .rw[Zyk _ (Zha h h1) (by omega),ZZa]
  by_cases h2:m.done+1=Z0 m<;>simp[h1,h2]
theorem Yvm {m:Zb} (h:Yt m):∃b,Zx9 m=some (Jb m,b):=by
 have hb:=Je h;have hl:=h.len;unfold Zx9 Zow Jb;rw[Zms m h.sm,ZZa,Zfz m h.sm,ZZa,Jj.2 h,Yq (by omega) (by omega),Zye,ZZa];by_cases h1:m.beat=m.done
 .simp[h1]
 .rw[Zyk _ (Zha h h1) (by omega),ZZa]
  by_cases h2:m.done+1=Z0 m<;>simp[h1,h2]
theorem Yb6 {m:Zb} {r:Zg} (h:m.queue≠[]):atI (m.queue++[r]) 0=atI m.queue 0:=by
 cases hq:m.queue with
 | nil=>exact absurd hq h
 | cons a l=>rfl
theorem Yw3 {m:Zb} {r:Zg} (h:Yt m):Yt (J5 m r):=by
 unfold J5;split
 .rename_i h1
  have hl:=h.len;have Yh:m.queue++[r]≠[]:=by simp
  refine⟨by simp;omega,h.tries,λx hx=>?_,λhx=>absurd hx Yh,λ_=>?_⟩
  .rcases Vas.1 hx with hx|hx
   .exact h.reqs x hx
   .rw[List.mem_singleton.1 hx];exact h1.1
  .by_cases hq:m.queue=[]
   .obtain⟨h2,h3,h4,h5,h6⟩:=h.none hq
    have hm:Z0 {m with queue:=m.queue++[r]}=X1 r.burst:=by
     unfold Z0;rw[ZZi Yh];simp[hq,atI]
    have:=(Zri (Zi5 h1.1).1).2;rw[hm];simp only[h2,h3];omega
   .have h2:=h.some hq
    have hm:Z0 {m with queue:=m.queue++[r]}=Z0 m:=by
     unfold Z0;rw[ZZi Yh,ZZi hq];simp only[Yb6 hq]
    rw[hm];exact h2
 .exact h
theorem Ysz {m:Zb} (h:Yt m):Yt (X6 m):=by
 unfold X6;split
 .rename_i h1
  have hq:m.queue≠[]:=by
   intro hq;unfold Z0 at h1;rw[ZZj hq] at h1;have:=Je h;omega
  have h2:=h.some hq;refine⟨h.len,h.tries,h.reqs,λhx=>absurd hx hq,λ_=>?_⟩;have hm:Z0 {m with beat:=m.beat+1}=Z0 m:=rfl;rw[hm];simp only;omega
 .exact h
theorem Ygd {m:Zb} (h:Yt m):Yt (Zbs m):=by
 unfold Zbs;split
 .exact h
 .rename_i h1
  have hq:=Zha h h1;have h2:=h.some hq;refine⟨h.len,h.tries,h.reqs,λhx=>absurd hx hq,λ_=>?_⟩;have hm:Z0 {m with beat:=m.beat - 1}=Z0 m:=rfl;rw[hm];simp only;omega
theorem Y2r {m:Zb} (h:Yt m):Yt (Jb m):=by
 unfold Jb;split
 .exact h
 .rename_i h1
  have hq:=Zha h h1;have h2:=h.some hq;split
  .have hr:∀r∈m.queue.tail,Zd2 r=true:=λr hr=>h.reqs r (List.mem_of_mem_tail hr)
   refine⟨by have:=h.len;simp;omega,by simp,hr,λ_=>by simp,λhx=>?_⟩;have h3:Yt (Zb.mk m.queue.tail 0 0 0 false false)->True:=λ_=>trivial;have h4:0 < m.queue.tail.length:=Van.2 hx;have h5:Zd2 (atI m.queue.tail 0)=true:=hr _ (Zkq (by omega) (by omega));have h6:=(Zri (Zi5 h5).1).2;have hm:Z0 (Zb.mk m.queue.tail 0 0 0 false false)=X1 (atI m.queue.tail 0).burst:=by
    unfold Z0;rw[ZZi hx]
   rw[hm];simp only;omega
  .rename_i h3
   refine⟨h.len,by simp,h.reqs,λhx=>absurd hx hq,λ_=>?_⟩;have hm:Z0 (Zb.mk m.queue m.beat (m.done+1) 0 false m.broken)=Z0 m:=rfl;rw[hm];simp only;omega
theorem Y7w {a b:Int} {k:Nat} (h0:0<=a) (h1:a < 2^k) (hb:0<=b) (hk:b*2^k+a < 9223372036854775808):orW a (b*2^k)=a+b*2^k:=by
 obtain⟨a,rfl⟩:=Vc9 h0;obtain⟨b,rfl⟩:=Vc9 hb;have e1:(b:Int)*2^k=((b*2^k:Nat):Int):=by simp
 rw[e1] at hk ⊢;have h1':a < 2^k:=by
  have:((a:Nat):Int) < ((2^k:Nat):Int):=by simpa using h1
  exact Int.ofNat_lt.1 this
 have h2:a+b*2^k < 18446744073709551616:=by omega
 unfold orW;show IntKind.i64.wrap (((BitVec.ofInt 64 ((a:Nat):Int) ||| BitVec.ofInt 64 ((b*2^k:Nat):Int)).toNat:Nat):Int)=_;rw[Vcz,Vcz,BitVec.toNat_or,Vc5,Vc5,Vdg (by omega),Vdg (by omega)];have h3:a ||| b*2^k=a+b*2^k:=by
  rw[Nat.or_comm,<-Nat.shiftLeft_eq,<-Nat.shiftLeft_add_eq_or_of_lt h1',Vdi]
 rw[h3,Zzo (by omega) (by omega)];simp
theorem Y33 {a:Int} (h0:0<=a) (h1:a < 9223372036854775808):andW a 255=a % 256:=by
 obtain⟨a,rfl⟩:=Vc9 h0;unfold andW;show IntKind.i64.wrap (((BitVec.ofInt 64 ((a:Nat):Int) &&& BitVec.ofInt 64 ((255:Nat):Int)).toNat:Nat):Int)=_;rw[Vcz,Vcz,BitVec.toNat_and,Vc5,Vc5,Vdg (by omega),Vdg (by omega)];have h3:a &&& 255=a % 256:=Nat.and_two_pow_sub_one_eq_mod a 8;rw[h3,Zzo (by omega) (by omega)];omega
theorem Y6n {a:Int} {k:Nat} (hk:k<=64) (h0:0<=a) (h1:a*2^k < 9223372036854775808):Yec a (k:Int)=a*2^k:=by
 unfold Yec;have:min ((k:Int).toNat) IntKind.i64.bits=k:=by
  show min ((k:Int).toNat) 64=k;omega
 rw[this];have:0<=a*2^k:=Veh h0 (Int.pow_nonneg (by omega));exact Zzo (by omega) h1
theorem Y7v {a:Int} {k:Nat} (hk:k<=64) (h0:0<=a):shrW a (k:Int)=a / 2^k:=by
 unfold shrW;have:min ((k:Int).toNat) IntKind.i64.bits=k:=by
  show min ((k:Int).toNat) 64=k;omega
 rw[this,Int.fdiv_eq_ediv_of_nonneg _ (Int.pow_nonneg (by omega))]
def Zc2 (n:Int):Bool:=decide (0<=n/\n<=255)
def Z3a (mem:List Int):Bool:=decide (mem.length<=512)&&mem.all Zc2
def Zmk (mem:List Int) (a s:Int):Bool:=Z3a mem&&(Wd a s&&decide (a<=(mem.length:Int) - Yz s))
theorem Z9k (mem:List Int) (a s:Int) (hl:mem.length < 1048577):Zut mem a s=some (Zmk mem a s):=by
 have hb:=Zi3 s;have hf:Wz mem=some (!mem.all Zc2):=by
  unfold Wz Jl;refine Z1j mem (by omega) Zya Zc2 (λr hr=>?_) _ (λm i=>rfl);unfold Zya;rw[X7];rfl
 unfold Zut Zmk Z3a;rw[hf,ZZa,Zsn,ZZa,Zit,ZZa,Xe (by omega) (by omega)];by_cases h1:mem.length<=512
 .have h2:(mem.length:Int)<=512:=by omega
  by_cases h3:mem.all Zc2=true
  .by_cases h4:Wd a s=true<;>simp only[h1,h2,h3,h4,decide_true,if_true,Va5,Vbd,Vby,Vce,Vbq,ZZf,if_false]
  .simp[h1,h2,h3]
 .have h2:¬(mem.length:Int)<=512:=by omega
  simp[h1,h2]
theorem Z9b (mem:List Int) (hl:mem.length < 1048577):Zp7 mem=some (Z3a mem):=by
 unfold Zp7 Z3a;have key:∀(n k:Nat),k<=mem.length->mem.length - k < n->Zld mem n k=some (decide (mem.length<=512)&&(mem.drop k).all Zc2):=by
  intro n
  induction n with
  | zero=>intro k _ h;omega
  | succ n ih=>
   intro k hk hm;show Zra mem _ k=_;unfold Zra;by_cases hc:k < mem.length
   .rw[ZZj (by simpa using hc),Xs hc,ZZa,Xk,ZZa,Va2 hc,Va6]
    by_cases hq:0<=mem[k]/\mem[k]<=255
    .rw[ZZi (by simp[hq]),Wj (by omega),ih (k+1) (by omega) (by omega)]
     simp[hq,Zc2]
    .rw[ZZj (by simp[hq])]
     simp[hq,Zc2]
   .rw[ZZi (by simpa using hc),Va9 (by omega)]
    by_cases h1:mem.length<=512
    .have h2:(mem.length:Int)<=512:=by omega
     simp[h1,h2]
    .have h2:¬(mem.length:Int)<=512:=by omega
     simp[h1,h2]
 have:=key FU 0 (Vbk _) (by have:=Qx;omega);simpa using this
theorem Yc1 (mem:List Int) (a s:Int) (hl:mem.length < 1048577):Zs0 mem a s=some (Zmk mem a s):=by
 have hb:=Zi3 s;unfold Zs0 Zmk;rw[Z9b mem hl,ZZa,Zr3,ZZa,Zbv,ZZa,Xe (by omega) (by omega)];by_cases h3:Z3a mem=true
 .by_cases h4:Wd a s=true<;>simp only[h3,h4,if_true,Vby,Vbq,ZZf,if_false]
 .simp[h3]
def Zii (mem:List Int):Nat->Int->Int
 | 0,_=>0
 | n+1,a=>atI mem a+256*Zii mem n (a+1)
def Z5d:Nat->List Int->Int->Int->List Int
 | 0,l,_,_=>l
 | n+1,l,a,v=>Z5d n (l.set a.toNat (v % 256)) (a+1) (v / 256)
theorem Y43:∀(n:Nat) (l:List Int) (a v:Int),(Z5d n l a v).length=l.length:=by
 intro n
 induction n with
 | zero=>intro l a v;rfl
 | succ n ih=>intro l a v;simp only[Z5d,ih,Vbg]
theorem Yx5:∀(n:Nat) (l:List Int) (a v:Int),l.all Zc2=true->(Z5d n l a v).all Zc2=true:=by
 intro n
 induction n with
 | zero=>intro l a v h;exact h
 | succ n ih=>
  intro l a v h;refine ih _ _ _ ?_;rw[ZZk] at h ⊢;intro x hx;rcases Vca hx with hx|rfl
  .exact h x hx
  .have h1:0<=v % 256:=Vc2 _ (by omega)
   have h2:v % 256 < 256:=Vco _ (by omega);simp[Zc2];omega
theorem Ylw (mem:List Int):∀(n:Nat) (a:Int),Zii mem (n+1) a=Zii mem n a+256^n*atI mem (a+n):=by
 intro n
 induction n with
 | zero=>intro a;simp[Zii]
 | succ n ih=>
  intro a;rw[Zii,ih (a+1),Zii];rw[Int.mul_add,<-Int.mul_assoc,show (256:Int)*256^n=256^(n+1) by rw[Int.pow_succ,Vc4],show a+1+(n:Int)=a+((n+1:Nat):Int) by omega];omega
theorem Yvw {mem:List Int} (h:mem.all Zc2=true):∀(n:Nat) (a:Int),0<=a->a+n<=(mem.length:Int)->0<=Zii mem n a/\Zii mem n a < 256^n:=by
 intro n
 induction n with
 | zero=>intro a _ _;simp[Zii]
 | succ n ih=>
  intro a h0 h1;have h2:=ih (a+1) (by omega) (by omega);have h3:=ZZk.1 h _ (Zkq h0 (by omega:a < (mem.length:Int)));simp only[Zc2,ZZl] at h3;simp only[Zii];have e:(256:Int)^(n+1)=256*256^n:=by rw[Int.pow_succ,Vc4]
  rw[e];omega
def Yab (mem:List Int) (a s:Int):Int:=Zii mem (Yz s).toNat a
def Z9g (mem:List Int) (a s v:Int):List Int:=Z5d (Yz s).toNat mem a v
theorem Zub {mem:List Int} {a s:Int} (h:Zmk mem a s=true):mem.length<=512/\mem.all Zc2=true/\0 < Yz s/\0<=a/\a+Yz s<=(mem.length:Int):=by
 simp only[Zmk,Z3a,ZZg,ZZl] at h;have:=Zb2 h.2.1;exact⟨h.1.1,h.1.2,this.1,this.2.1,by omega⟩
theorem Ypc (k:Nat) (h:k<=4):(256:Int)^k=2^(8*k)/\(256:Int)^k<=4294967296:=by
 have:k=0\/k=1\/k=2\/k=3\/k=4:=by omega
 rcases this with rfl|rfl|rfl|rfl|rfl<;>decide
theorem Ys7 {mem:List Int} {a s:Int} (h:Zmk mem a s=true):Zyx mem a s=some (Yab mem a s,true):=by
 obtain⟨h1,h2,h3,h4,h5⟩:=Zub h;have hb:=Zi3 s;unfold Zyx Yab;rw[Z9k mem a s (by omega),ZZa,h,ZZi (by simp),Zit,ZZa];have key:∀(r n k:Nat),r < n->(k:Int)+r=Yz s->Zn9 mem a s n (Zii mem k a) (Yz s) k=some (Zii mem (k+r) a,true):=by
  intro r
  induction r with
  | zero=>
   intro n k hn hk;obtain⟨n,rfl⟩:∃m',n=m'+1:=⟨n - 1,by omega⟩;show Zgt mem a s _ (Zii mem k a) (Yz s) k=_;unfold Zgt;rw[ZZi (by simp;omega)];rfl
  | succ r ih=>
   intro n k hn hk;obtain⟨n,rfl⟩:∃m',n=m'+1:=⟨n - 1,by omega⟩;show Zgt mem a s _ (Zii mem k a) (Yz s) k=_;unfold Zgt;have h6:0<=a+(k:Int):=by omega
   have h7:a+(k:Int) < (mem.length:Int):=by omega
   have h8:=ZZk.1 h2 _ (Zkq h6 h7);simp only[Zc2,ZZl] at h8;have h9:=Yvw h2 k a h4 (by omega);have hp:=Ypc k (by omega);have hp1:(0:Int) < 2^(8*k):=Int.pow_pos (by omega);have h10:atI mem (a+k)*2^(8*k)<=255*4294967296:=by
    rw[<-hp.1];exact Int.mul_le_mul h8.2 hp.2 (by rw[hp.1];omega) (by omega)
   rw[ZZj (by simp;omega),Yq (by omega) (by omega),Xq h6 h7,ZZa,Zfy (by omega) (by omega),Y06 (by omega),ZZa,show (8:Int)*(k:Int)=((8*k:Nat):Int) by omega,Y6n (by omega) h8.1 (by omega),Y7w h9.1 (by rw[<-hp.1];exact h9.2) h8.1 (by have:=h9.2;rw[hp.1] at this;have:=hp.2;rw[hp.1] at this;omega),Wj (by omega)];have e:Zii mem k a+atI mem (a+k)*2^(8*k)=Zii mem (k+1) a:=by
    rw[Ylw,hp.1,Vc4]
   rw[e,ih n (k+1) (by omega) (by omega),show k+1+r=k+(r+1) by omega]
 have:=key (Yz s).toNat FU 0 (by have:=Qx;omega) (by omega);simpa [Zii] using this
theorem Yvn {mem:List Int} {a s:Int} (h:Zmk mem a s=true):Zx7 mem a s=some (Yab mem a s,true):=by
 obtain⟨h1,h2,h3,h4,h5⟩:=Zub h;have hb:=Zi3 s;unfold Zx7 Yab;rw[Yc1 mem a s (by omega),ZZa,h,ZZi (by simp),Zbv,ZZa,Xe (by omega) (by omega)];have key:∀(r n j:Nat) (v:Int),r < n->(r:Int)<=Yz s->j+r<=4->0<=v->v < 256^j->Zo2 mem a s n v ((r:Int) - 1)=some (v*256^r+Zii mem r a,true):=by
  intro r
  induction r with
  | zero=>
   intro n j v hn hk _ _ _;obtain⟨n,rfl⟩:∃m',n=m'+1:=⟨n - 1,by omega⟩;show Zgj mem a s _ v _=_;unfold Zgj;rw[ZZi (by simp)];simp[Zii]
  | succ r ih=>
   intro n j v hn hk hj hv hv2;obtain⟨n,rfl⟩:∃m',n=m'+1:=⟨n - 1,by omega⟩;show Zgj mem a s _ v _=_;unfold Zgj;have h6:0<=a+(r:Int):=by omega
   have h7:a+(r:Int) < (mem.length:Int):=by omega
   have h8:=ZZk.1 h2 _ (Zkq h6 h7);simp only[Zc2,ZZl] at h8;have hp:=(Ypc j (by omega)).2;have e1:(256:Int)^(r+1)=256^r*256:=Int.pow_succ ..;have e3:(256:Int)^(j+1)=256^j*256:=Int.pow_succ ..;have e2:(((r+1:Nat):Int) - 1)=(r:Int):=by omega
   rw[e2,ZZj (by simp),Yq (by omega) (by omega),Xq h6 h7,ZZa,Zfy (by omega) (by omega),Yq (by omega) (by omega),Xe (by omega) (by omega),ih n (j+1) _ (by omega) (by omega) (by omega) (by omega) (by rw[e3];omega)];rw[Ylw,Int.add_mul,e1,Vc4 (256^r) 256,<-Int.mul_assoc,Vc4 (256^r) (atI mem (a+r))]
   congr 2
   omega
 have:=key (Yz s).toNat FU 0 0 (by have:=Qx;omega) (by omega) (by omega) (by omega) (by simp);rw[show ((Yz s).toNat:Int)=Yz s by omega] at this;simpa using this
theorem Zus (xs:List Int) (h:xs.length < 1048577):Xc xs=some xs:=by
 unfold Xc;rw[Kh (by simp;omega) (by simp;omega)];rfl
theorem Z4x (xs:List Int) (h:xs.length < 1048577):We 8 [] xs=some xs:=by
 rw[Kh (by simp;omega) (by simp;omega)];rfl
theorem Yt4 {mem:List Int} {a s v:Int} (h:Zmk mem a s=true) (hv:Xz v s=true):Zx2 mem a s v=some (Z9g mem a s v,true):=by
 obtain⟨h1,h2,h3,h4,h5⟩:=Zub h;have hb:=Zi3 s;have hl:=Z2u s;simp only[Xz,ZZl] at hv;unfold Zx2 Zo6 Z9g;rw[Zus mem (by omega),ZZa,Z9k mem a s (by omega),ZZa,h,ZZi (by simp),Zjc,ZZa,Zit,ZZa];have hn:Xz v s=true:=by simp[Xz,hv]
 rw[hn,ZZi (by simp)];have key:∀(r n k:Nat) (l:List Int),r < n->(k:Int)+r=Yz s->l.length=mem.length->Zol mem a s v n l (Yz s) k=some (Z5d r l (a+k) (v / 256^k),true):=by
  intro r
  induction r with
  | zero=>
   intro n k l hn hk _;obtain⟨n,rfl⟩:∃m',n=m'+1:=⟨n - 1,by omega⟩;show Zgz mem a s v _ l (Yz s) k=_;unfold Zgz;rw[ZZi (by simp;omega)];rfl
  | succ r ih=>
   intro n k l hn hk hl2;obtain⟨n,rfl⟩:∃m',n=m'+1:=⟨n - 1,by omega⟩;show Zgz mem a s v _ l (Yz s) k=_;unfold Zgz;have h6:0<=a+(k:Int):=by omega
   have h7:a+(k:Int) < (l.length:Int):=by omega
   have hp:=Ypc k (by omega);have hp1:(0:Int) < 256^k:=Int.pow_pos (by omega);have h8:0<=v / 256^k:=Int.ediv_nonneg hv.1 (by omega);have h9:v / 256^k<=v:=Int.ediv_le_self _ hv.1;rw[ZZj (by simp;omega),Zfy (by omega) (by omega),Y06 (by omega),ZZa,Yq (a:=a) (by omega) (by omega),Xq h6 h7,ZZa,Wy,ZZa,show (8:Int)*(k:Int)=((8*k:Nat):Int) by omega,Y7v (by omega) hv.1,<-hp.1,Y33 h8 (by omega),Wj (by omega),ih n (k+1) _ (by omega) (by omega) (by simp[hl2])];simp only[Z5d];rw[Int.ediv_ediv_of_nonneg (by omega),<-Int.pow_succ,show a+((k+1:Nat):Int)=a+k+1 by omega]
 have:=key (Yz s).toNat FU 0 mem (by have:=Qx;omega) (by omega) rfl;simpa using this
theorem Yts {mem:List Int} {a s v:Int} (h:Zmk mem a s=true) (hv:Xz v s=true):Zyy mem a s v=some (Z9g mem a s v,true):=by
 obtain⟨h1,h2,h3,h4,h5⟩:=Zub h;have hb:=Zi3 s;have hl:=Z2u s;unfold Zyy Zok Z9g;rw[Z4x mem (by omega),ZZa,Yc1 mem a s (by omega),ZZa,h,ZZi (by simp),Zbl,ZZa,Zrb,ZZa,hv,ZZi (by simp)];simp only[Xz,ZZl] at hv;have key:∀(r n k:Nat) (l:List Int) (x:Int),r < n->(k:Int)+r=Yz s->l.length=mem.length->0<=x->x < 9223372036854775808->Zo8 mem a s v n x l k=some (Z5d r l (a+k) x,true):=by
  intro r
  induction r with
  | zero=>
   intro n k l x hn hk _ _ _;obtain⟨n,rfl⟩:∃m',n=m'+1:=⟨n - 1,by omega⟩;show Zgr mem a s v _ x l k=_;unfold Zgr;rw[Zbv,ZZa,ZZi (by simp;omega)];rfl
  | succ r ih=>
   intro n k l x hn hk hl2 hx hx2;obtain⟨n,rfl⟩:∃m',n=m'+1:=⟨n - 1,by omega⟩;show Zgr mem a s v _ x l k=_;unfold Zgr;have h6:0<=a+(k:Int):=by omega
   have h7:a+(k:Int) < (l.length:Int):=by omega
   rw[Zbv,ZZa,ZZj (by simp;omega),Yq (a:=a) (by omega) (by omega),Xq h6 h7,ZZa,Wy,ZZa,Zeq hx,Ybe hx hx2 (by omega),Wj (by omega),ih n (k+1) _ _ (by omega) (by omega) (by simp[hl2]) (by omega) (by omega)];simp only[Z5d];rw[show a+((k+1:Nat):Int)=a+k+1 by omega]
 have:=key (Yz s).toNat FU 0 mem v (by have:=Qx;omega) (by omega) rfl hv.1 (by omega);simpa using this
def Zo.sm (d:Zo):Prop:=d.regs.length < 1048577/\d.fifo.length < 1048577
def Yex (d:Zo):Bool:=decide (d.regs.length=4)&&(d.regs.all (λv=>Xz v 2)&&(Xz d.timer 2&&(decide (d.fifo.length<=4)&&d.fifo.all λv=>Xz v 2)))
theorem Yhy (d:Zo) (hs:d.sm):Zwv d=some (Yex d):=by
 have hf:∀xs:List Int,xs.length < 1048577->X0 xs=some (!xs.all λv=>Xz v 2):=by
  intro xs hl;unfold X0 K6;refine Z1j xs (by omega) Zwe (λv=>Xz v 2) (λr hr=>?_) _ (λm i=>rfl);unfold Zwe;rw[Zjc];rfl
 unfold Zwv Yex;rw[hf _ hs.1,ZZa,hf _ hs.2,ZZa,Zjc,ZZa];by_cases h1:d.regs.length=4
 .have h2:(d.regs.length:Int)=4:=by omega
  by_cases h3:d.fifo.length<=4
  .have h4:(d.fifo.length:Int)<=4:=by omega
   cases h5:(d.regs.all λv=>Xz v 2)<;>cases h6:(d.fifo.all λv=>Xz v 2)<;>cases h7:Xz d.timer 2<;>simp[h1,h2,h3,h4]
  .have h4:¬(d.fifo.length:Int)<=4:=by omega
   simp[h1,h2,h3,h4]
 .have h2:¬(d.regs.length:Int)=4:=by omega
  simp[h1,h2]
theorem Z8m (xs:List Int) (hl:xs.length < 1048577):Zpo xs=some (xs.all λv=>Xz v 2):=by
 unfold Zpo;have key:∀(n k:Nat),k<=xs.length->xs.length - k < n->Zk8 xs n k=some ((xs.drop k).all λv=>Xz v 2):=by
  intro n
  induction n with
  | zero=>intro k _ h;omega
  | succ n ih=>
   intro k hk hm;show Zqx xs _ k=_;unfold Zqx;by_cases hc:k < xs.length
   .rw[ZZj (by simpa using hc),Xs hc,ZZa,Zbl,ZZa,Zrb,ZZa,Va2 hc,Va6]
    by_cases hq:Xz xs[k] 2=true
    .rw[ZZi (by simp[hq]),Wj (by omega),ih (k+1) (by omega) (by omega)]
     simp[hq]
    .rw[ZZj (by simp[hq])]
     simp[hq]
   .rw[ZZi (by simpa using hc),Va9 (by omega)]
    rfl
 have:=key FU 0 (Vbk _) (by have:=Qx;omega);simpa using this
theorem Yg0 (d:Zo) (hs:d.sm):Zxb d=some (Yex d):=by
 unfold Zxb Yex;rw[Z8m _ hs.1,ZZa,Z8m _ hs.2,ZZa,Zbl,ZZa,Zrb,ZZa];by_cases h1:d.regs.length=4
 .have h2:(d.regs.length:Int)=4:=by omega
  by_cases h3:d.fifo.length<=4
  .have h4:(d.fifo.length:Int)<=4:=by omega
   cases h5:(d.regs.all λv=>Xz v 2)<;>cases h6:(d.fifo.all λv=>Xz v 2)<;>cases h7:Xz d.timer 2<;>simp[h1,h2,h3,h4]
  .have h4:¬(d.fifo.length:Int)<=4:=by omega
   cases h5:(d.regs.all λv=>Xz v 2)<;>cases h7:Xz d.timer 2<;>simp[h1,h2,h3,h4]
 .have h2:¬(d.regs.length:Int)=4:=by omega
  simp[h1,h2]
structure Z9p (d:Zo):Prop where
 regs:d.regs.length=4
 nums:∀v∈d.regs,Xz v 2=true
 timer:Xz d.timer 2=true
 len:d.fifo.length<=4
 fifo:∀v∈d.fifo,Xz v 2=true
theorem Yj8 {d:Zo}:Yex d=true↔Z9p d:=by
 simp only[Yex,ZZg,ZZl,ZZk];constructor
 .intro h;exact⟨h.1,h.2.1,h.2.2.1,h.2.2.2.1,h.2.2.2.2⟩
 .intro h;exact⟨h.regs,h.nums,h.timer,h.len,h.fifo⟩
theorem Z9p.sm {d:Zo} (h:Z9p d):d.sm:=⟨by have:=h.regs;omega,by have:=h.len;omega⟩
theorem Yby (d:Zo) (hs:d.sm):Zrz d=some d:=by
 unfold Zrz;rw[Zus _ hs.1,ZZa,Zus _ hs.2];rfl
theorem Ydq (d:Zo) (hs:d.sm):Ztg d=some d:=by
 unfold Ztg;rw[Z4x _ hs.1,ZZa,Z4x _ hs.2];rfl
def Zbu (d:Zo) (w:Bool) (a v:Int):Zo×Int×Bool:=
 if (w&&!Xz v 2)=true then (d,0,false) else
 if a=16 then (if w then ({d with timer:=v},v,true) else ({d with timer:=(d.timer+1) % 4294967296},d.timer,true)) else
 if a=20 then (if w then (if d.fifo.length < 4 then ({d with fifo:=d.fifo++[v]},v,true) else (d,0,false)) else (if d.fifo=[] then (d,0,false) else ({d with fifo:=d.fifo.tail},atI d.fifo 0,true))) else
 if (0<=a/\a < 16)/\a % 4=0 then (if w then ({d with regs:=d.regs.set (a / 4).toNat v},v,true) else (d,atI d.regs (a / 4),true)) else (d,0,false)
theorem num2 {v:Int} (h:Xz v 2=true):0<=v/\v < 4294967296:=by
 simpa [Xz,Zgx] using h
theorem Yze {d:Zo} (w:Bool) (a v:Int) (h:Z9p d):Z1q d w a v=some (Zbu d w a v):=by
 have ht:=num2 h.timer;have hl:=h.len;have hr:=h.regs;unfold Z1q;rw[Yby d h.sm,ZZa,Yhy d h.sm,ZZa,Yj8.2 h,Zjc,ZZa];have hJ:Zdr d w a v d false=some (if a=16 then (if w then ({d with timer:=v},v,true) else ({d with timer:=(d.timer+1) % 4294967296},d.timer,true)) else
 if a=20 then (if w then (if d.fifo.length < 4 then ({d with fifo:=d.fifo++[v]},v,true) else (d,0,false)) else (if d.fifo=[] then (d,0,false) else ({d with fifo:=d.fifo.tail},atI d.fifo 0,true))) else
 if (0<=a/\a < 16)/\a % 4=0 then (if w then ({d with regs:=d.regs.set (a / 4).toNat v},v,true) else (d,atI d.regs (a / 4),true)) else (d,0,false)):=by
  unfold Zdr Zql Zkm Zkp Zks;by_cases h16:a=16
  .subst h16
   rw[Z97,ZZa,show Zgx 2=4294967296 from rfl,Zw6 (by omega),Yq (by omega) (by omega),Zeq (by omega)];cases w<;>simp
  .by_cases h20:a=20
   .subst h20
    cases w with
    | true=>
     by_cases h3:d.fifo.length < 4
     .have h4:(d.fifo.length:Int) < 4:=by omega
      rw[Kh (by simp;omega) (by simp;omega)];simp[h3,h4]
     .have h4:¬(d.fifo.length:Int) < 4:=by omega
      simp[h3,h4]
    | false=>
     by_cases h3:d.fifo=[]
     .simp[h3]
     .have h4:0 < d.fifo.length:=Van.2 h3
      have h5:(d.fifo.length:Int) > 0:=by omega
      rw[Xq (by omega) (by omega),ZZa,Zyk _ h3 (by omega),ZZa,Zus _ (by simp;omega)];simp[h3,h5]
   .by_cases h3:(0<=a/\a < 16)/\a % 4=0
    .obtain⟨⟨h4,h5⟩,h6⟩:=h3
     have h7:¬a≥16:=by omega
     have h8:¬a < 0:=by omega
     rw[Ybe h4 (by omega) (by omega),Xq (xs:=d.regs) (by omega) (by omega),ZZa,ZZa,Wy,Zeq h4];cases w<;>simp[h16,h20,h4,h5,h6,h7,h8]
    .by_cases h4:a≥16
     .have h5:¬a < 16:=by omega
      cases w<;>simp[h16,h20,h4,h5]
     .by_cases h5:a < 0
      .have h6:¬0<=a:=by omega
       cases w<;>simp[h16,h20,h4,h5,h6]
      .have h6:a % 4≠0:=λh=>h3 ⟨by omega,h⟩
       rw[Zeq (by omega)];cases w<;>simp[h16,h20,h4,h5,h6]
 unfold Zbu;cases w with
 | false=>simp only[Va5,ZZf,if_false,Vbq];exact hJ
 | true=>
  by_cases hv:Xz v 2=true
  .simp only[hv,Va5,ZZf,if_false,if_true,Vc7]
   exact hJ
  .simp[hv,Zdr]
theorem Yy2 {d:Zo} (w:Bool) (a v:Int) (h:Z9p d):Z2i d w a v=some (Zbu d w a v):=by
 have ht:=num2 h.timer;have hl:=h.len;have hr:=h.regs;unfold Z2i;rw[Ydq d h.sm,ZZa,Yg0 d h.sm,ZZa,Yj8.2 h,Zbl,ZZa,Zrb,ZZa];have hJ:∀_:Za4 a 4=0,Zaf d w a v d false=some (if a=16 then (if w then ({d with timer:=v},v,true) else ({d with timer:=(d.timer+1) % 4294967296},d.timer,true)) else
 if a=20 then (if w then (if d.fifo.length < 4 then ({d with fifo:=d.fifo++[v]},v,true) else (d,0,false)) else (if d.fifo=[] then (d,0,false) else ({d with fifo:=d.fifo.tail},atI d.fifo 0,true))) else
 if (0<=a/\a < 16)/\a % 4=0 then (if w then ({d with regs:=d.regs.set (a / 4).toNat v},v,true) else (d,atI d.regs (a / 4),true)) else (d,0,false)):=by
  intro Z33;unfold Zaf Zqo Zqr Zkk Zkj;rw[Xk,ZZa,ZZa];by_cases h16:a=16
  .subst h16
   rw[Zbl,ZZa,show Zgx 2=4294967296 from rfl,Zw6 (by omega),Yq (by omega) (by omega),Zeq (by omega)];cases w<;>simp
  .by_cases h20:a=20
   .subst h20
    cases w with
    | true=>
     by_cases h3:d.fifo.length < 4
     .have h4:(d.fifo.length:Int) < 4:=by omega
      rw[Kh (by simp;omega) (by simp;omega)];simp[h3,h4]
     .have h4:¬(d.fifo.length:Int) < 4:=by omega
      simp[h3,h4]
    | false=>
     by_cases h3:d.fifo=[]
     .simp[h3]
     .have h4:0 < d.fifo.length:=Van.2 h3
      have h5:(d.fifo.length:Int) > 0:=by omega
      rw[Xq (xs:=d.fifo) (by omega) (by omega),ZZa,Zyk _ h3 (by omega),ZZa];simp[h3,h5]
   .by_cases h3:0<=a/\a < 16
    .rw[Zeq h3.1] at Z33
     have h4:0<=a/\a<=12:=by omega
     rw[Ybe h3.1 (by omega) (by omega),Xq (xs:=d.regs) (by omega) (by omega),ZZa,ZZa,Wy];cases w<;>simp[h16,h20,h3,h4,Z33]
    .have h4:¬(0<=a/\a<=12):=by omega
     cases w<;>simp[h16,h20,h3,h4]
 unfold Zbu;by_cases Z33:Za4 a 4=0
 .rw[ZZi (by simp),ZZi (by simp[Z33])]
  cases w with
  | false=>simp only[ZZf,if_false,Vbq];exact hJ Z33
  | true=>
   by_cases hv:Xz v 2=true
   .simp only[hv,Va5,ZZf,if_false,if_true,Vc7]
    exact hJ Z33
   .simp[hv,Zaf]
 .have h16:a≠16:=λh=>Z33 (by subst h;rfl)
  have h20:a≠20:=λh=>Z33 (by subst h;rfl);have h3:¬((0<=a/\a < 16)/\a % 4=0):=λh=>Z33 (by rw[Zeq h.1.1];exact h.2);rw[ZZi (by simp),ZZj (by simp[Z33])];simp only[h16,h20,h3,if_false,Zaf,if_true];split<;>rfl
theorem Y7k {xs:List Int} {p:Int->Prop} (h:∀x∈xs,p x) {k:Nat} {v:Int} (hv:p v):∀x∈xs.set k v,p x:=by
 intro x hx;rcases Vca hx with hx|rfl
 .exact h x hx
 .exact hv
theorem Y3n {d:Zo} {w:Bool} {a v:Int} (h:Z9p d):Z9p (Zbu d w a v).1/\((Zbu d w a v).2.2=true->Xz (Zbu d w a v).2.1 2=true):=by
 have ht:=num2 h.timer;have hl:=h.len;unfold Zbu;split
 .exact⟨h,by simp⟩
 .rename_i hw
  have hv:w=true->Xz v 2=true:=by
   intro h1;rw[h1] at hw;simpa using hw
  split
  .split
   .rename_i h1
    exact⟨⟨h.regs,h.nums,hv h1,h.len,h.fifo⟩,λ_=>hv h1⟩
   .refine⟨⟨h.regs,h.nums,?_,h.len,h.fifo⟩,λ_=>h.timer⟩
    have:Zgx 2=4294967296:=rfl;simp only[Xz,this,ZZl];omega
  .split
   .split
    .rename_i h1
     split
     .rename_i h2
      refine⟨⟨h.regs,h.nums,h.timer,by simp;omega,λx hx=>?_⟩,λ_=>hv h1⟩;rcases Vas.1 hx with hx|hx
      .exact h.fifo x hx
      .rw[List.mem_singleton.1 hx];exact hv h1
     .exact⟨h,by simp⟩
    .split
     .exact⟨h,by simp⟩
     .rename_i h2
      have h4:0 < d.fifo.length:=Van.2 h2;refine⟨⟨h.regs,h.nums,h.timer,by simp;omega,λx hx=>h.fifo x (List.mem_of_mem_tail hx)⟩,λ_=>h.fifo _ (Zkq (by omega) (by omega))⟩
   .split
    .rename_i h3
     split
     .rename_i h1
      exact⟨⟨by simp[h.regs],Y7k h.nums (hv h1),h.timer,h.len,h.fifo⟩,λ_=>hv h1⟩
     .refine⟨h,λ_=>h.nums _ (Zkq (by omega) (by have:=h.regs;omega))⟩
    .exact⟨h,by simp⟩
def Yx (a:Int):Int:=if a < 0\/224<=a then 0 else if a < 128 then 1 else if a < 192 then 2 else 3
theorem Z05 (a:Int):Zp3 a=some (Yx a):=by
 unfold Zp3 Zl8 Yx;by_cases h1:a < 0
 .simp[h1]
 .by_cases h2:a≥224
  .simp[h1,h2]
  .by_cases h3:a < 128
   .simp[h1,h2,h3]
   .by_cases h4:a < 192<;>simp[h1,h2,h3,h4]
theorem Z9w (a:Int):Zv6 a=some (Yx a):=by
 rw[<-Z05];rfl
def Zi.sm (m:Zi):Prop:=m.mem.length < 1048577/\m.dev.sm
def Z08 (m:Zi):Bool:=decide (m.mem.length=192)&&(m.mem.all Zc2&&Yex m.dev)
structure Zeu (m:Zi):Prop where
 len:m.mem.length=192
 bytes:m.mem.all Zc2=true
 dev:Z9p m.dev
theorem Zxa {m:Zi}:Z08 m=true↔Zeu m:=by
 simp only[Z08,ZZg,ZZl,Yj8];constructor
 .intro h;exact⟨h.1,h.2.1,h.2.2⟩
 .intro h;exact⟨h.len,h.bytes,h.dev⟩
theorem Zeu.sm {m:Zi} (h:Zeu m):m.sm:=⟨by have:=h.len;omega,h.dev.sm⟩
theorem Z9d (m:Zi) (hs:m.sm):Zhb m=some (Z08 m):=by
 unfold Zhb Z08;rw[Z9k m.mem 0 0 hs.1,ZZa,Yhy m.dev hs.2,ZZa];by_cases h1:m.mem.length=192
 .have h2:(m.mem.length:Int)=192:=by omega
  have h3:Zmk m.mem 0 0=m.mem.all Zc2:=by
   simp[Zmk,Z3a,h1,Wd,Yz]
  rw[h3];cases h4:m.mem.all Zc2<;>simp[h1,h2]
 .have h2:¬(m.mem.length:Int)=192:=by omega
  simp[h1,h2]
theorem Z93 (m:Zi) (hs:m.sm):Zpz m=some (Z08 m):=by
 unfold Zpz Z08;rw[Z9b m.mem hs.1,ZZa,Yg0 m.dev hs.2,ZZa];by_cases h1:m.mem.length=192
 .have h2:(m.mem.length:Int)=192:=by omega
  have h3:Z3a m.mem=m.mem.all Zc2:=by
   simp[Z3a,h1]
  rw[h3];cases h4:m.mem.all Zc2<;>simp[h1,h2]
 .have h2:¬(m.mem.length:Int)=192:=by omega
  simp[h1,h2]
theorem Zxm (m:Zi) (hs:m.sm):Zil m=some m:=by
 unfold Zil;rw[Zus _ hs.1,ZZa,Yby _ hs.2];rfl
theorem Ycf (m:Zi) (hs:m.sm):Zs5 m=some m:=by
 unfold Zs5;rw[Z4x _ hs.1,ZZa,Ydq _ hs.2];rfl
def Ze9 (m:Zi) (w:Bool) (a s v:Int):Zi×Int×Int:=
 if (Wd a s&&!(w&&!Xz v s))=true then
  (if Yx a=1\/Yx a=2 then (if w then ({m with mem:=Z9g m.mem a s v},v,0) else (m,Yab m.mem a s,0))
  else if Yx a=3/\s=2 then (if (Zbu m.dev w (a - 192) v).2.2=true then ({m with dev:=(Zbu m.dev w (a - 192) v).1},(Zbu m.dev w (a - 192) v).2.1,0) else (m,0,1))
  else (m,0,1))
 else (m,0,1)
theorem Y2t {a:Int} (h:Yx a=1\/Yx a=2):0<=a/\a < 192:=by
 unfold Yx at h
 repeat' split at h
 all_goals omega
theorem Yld {a:Int} (h:Yx a=3):192<=a/\a < 224:=by
 unfold Yx at h
 repeat' split at h
 all_goals omega
theorem Yfb {m:Zi} {a s:Int} (h:Zeu m) (ha:Wd a s=true) (hs:Yx a=1\/Yx a=2):Zmk m.mem a s=true:=by
 have h1:=Y2t hs;have h2:=h.len;have h3:=Zb2 ha;have h4:a+Yz s<=192:=by
  have h5:=(Zrk s).1 h3.1;have h6:s=0\/s=1\/s=2:=by omega
  have h7:=h3.2.2;rcases h6 with rfl|rfl|rfl<;>simp[Yz] at h7 ⊢<;>omega
 simp only[Zmk,Z3a,ZZg,ZZl];exact⟨⟨by omega,h.bytes⟩,ha,by omega⟩
theorem Yqs {m:Zi} (w:Bool) (a s v:Int) (h:Zeu m):Zvy m w a s v=some (Ze9 m w a s v):=by
 unfold Zvy Ze9;rw[Zxm m h.sm,ZZa,Z9d m h.sm,ZZa,Zxa.2 h,Zsn,ZZa,Zjc,ZZa,ZZi (by simp)];by_cases ha:Wd a s=true
 .rw[ha,ZZi (by simp)]
  have hJ:(w=true->Xz v s=true)->K3 m w a s v m false=some (if Yx a=1\/Yx a=2 then (if w then ({m with mem:=Z9g m.mem a s v},v,0) else (m,Yab m.mem a s,0))
  else if Yx a=3/\s=2 then (if (Zbu m.dev w (a - 192) v).2.2=true then ({m with dev:=(Zbu m.dev w (a - 192) v).1},(Zbu m.dev w (a - 192) v).2.1,0) else (m,0,1))
  else (m,0,1)):=by
   intro hw;unfold K3;rw[ZZi (by simp),Z05,ZZa];unfold Zme Zln Zdn;rw[Zxm m h.sm,ZZa];by_cases h1:Yx a=1\/Yx a=2
   .have h3:¬Yx a=3:=by omega
    have hf:=Yfb h ha h1;cases w with
    | true=>
     rw[Yt4 hf (hw rfl),ZZa];rcases h1 with h1|h1<;>simp[h1,h3]
    | false=>
     rw[Ys7 hf,ZZa];rcases h1 with h1|h1<;>simp[h1,h3]
   .have h2:¬Yx a=1:=λh=>h1 (.inl h)
    have h4:¬Yx a=2:=λh=>h1 (.inr h);by_cases h3:Yx a=3
    .have h5:=Yld h3
     rw[Xe (by omega) (by omega),Yze w _ v h.dev,ZZa];by_cases h6:s=2
     .by_cases h7:(Zbu m.dev w (a - 192) v).2.2=true<;>simp[h3,h6,h7]
     .simp[h3,h6]
    .simp[h2,h3,h4]
  cases w with
  | false=>
   simp only[ZZf,if_false,Vbq,Vbd,Vci,if_true];exact hJ (by simp)
  | true=>
   by_cases hv:Xz v s=true
   .simp only[hv,Va5,if_true,Vc7,Vbd,Vci]
    exact hJ (λ_=>hv)
   .simp[hv,K3]
 .simp[ha,K3]
theorem Z8o {m:Zi} (w:Bool) (a s v:Int) (h:Zeu m):Zpq m w a s v=some (Ze9 m w a s v):=by
 unfold Zpq Ze9;rw[Ycf m h.sm,ZZa,Z93 m h.sm,ZZa,Zxa.2 h,Zr3,ZZa,Zbl,ZZa,Zrb,ZZa,ZZi (by simp)];by_cases ha:Wd a s=true
 .rw[ha,ZZi (by simp)]
  have hJ:(w=true->Xz v s=true)->K2 m w a s v m false=some (if Yx a=1\/Yx a=2 then (if w then ({m with mem:=Z9g m.mem a s v},v,0) else (m,Yab m.mem a s,0))
  else if Yx a=3/\s=2 then (if (Zbu m.dev w (a - 192) v).2.2=true then ({m with dev:=(Zbu m.dev w (a - 192) v).1},(Zbu m.dev w (a - 192) v).2.1,0) else (m,0,1))
  else (m,0,1)):=by
   intro hw;unfold K2;rw[ZZi (by simp),Z9w,ZZa];unfold Zmf Zmh;by_cases h1:Yx a=1\/Yx a=2
   .have h3:¬Yx a=3:=by omega
    have hf:=Yfb h ha h1;cases w with
    | true=>
     rw[Yts hf (hw rfl),ZZa];rcases h1 with h1|h1<;>simp[h1,h3]
    | false=>
     rw[Yvn hf,ZZa];rcases h1 with h1|h1<;>simp[h1,h3]
   .have h2:¬Yx a=1:=λh=>h1 (.inl h)
    have h4:¬Yx a=2:=λh=>h1 (.inr h);by_cases h3:Yx a=3
    .have h5:=Yld h3
     rw[Xe (by omega) (by omega),Yy2 w _ v h.dev,ZZa];by_cases h6:s=2
     .by_cases h7:(Zbu m.dev w (a - 192) v).2.2=true<;>simp[h3,h6,h7]
     .simp[h3,h6]
    .simp[h2,h3,h4]
  cases w with
  | false=>
   simp only[ZZf,if_false,Vbq,Vbd,Vci,if_true];exact hJ (by simp)
  | true=>
   by_cases hv:Xz v s=true
   .simp only[hv,Va5,if_true,Vc7,Vbd,Vci]
    exact hJ (λ_=>hv)
   .simp[hv,K2]
 .simp[ha,K2]
theorem Y1s (s:Int) (h:0 < Yz s):(256:Int)^(Yz s).toNat=Zgx s:=by
 have h1:=(Zrk s).1 h;have:s=0\/s=1\/s=2:=by omega
 rcases this with rfl|rfl|rfl<;>decide
theorem Yf5 {m:Zi} {w:Bool} {a s v:Int} (h:Zeu m) (hs:Wd a s=true):Zeu (Ze9 m w a s v).1/\Xz (Ze9 m w a s v).2.1 s=true/\((Ze9 m w a s v).2.2=0\/(Ze9 m w a s v).2.2=1):=by
 have hp:=Zb2 hs;have hz:Xz 0 s=true:=by
  have h1:=(Zrk s).1 hp.1;have:s=0\/s=1\/s=2:=by omega
  rcases this with rfl|rfl|rfl<;>decide
 unfold Ze9;split
 .rename_i h1
  split
  .rename_i h2
   have hf:=Yfb h hs h2;split
   .rename_i hw
    have hv:Xz v s=true:=by
     rw[hw] at h1;simpa [hs] using h1
    exact⟨⟨by simp only[Z9g,Y43,h.len],Yx5 _ _ _ _ h.bytes,h.dev⟩,hv,.inl rfl⟩
   .obtain⟨h3,h4,h5,h6,h7⟩:=Zub hf
    have h8:=Yvw h4 (Yz s).toNat a h6 (by omega);rw[Y1s s h5] at h8;exact⟨h,by simp only[Xz,Yab];exact decide_eq_true h8,.inl rfl⟩
  .split
   .rename_i h3
    split
    .rename_i h4
     have h5:=Y3n (w:=w) (a:=a - 192) (v:=v) h.dev;have h6:=h5.2 h4;rw[h3.2];exact⟨⟨h.len,h.bytes,h5.1⟩,h6,.inl rfl⟩
    .exact⟨h,hz,.inr rfl⟩
   .exact⟨h,hz,.inr rfl⟩
 .exact⟨h,hz,.inr rfl⟩
def Y3 (p:Option Bool) (P:Prop):Prop:=∃r,p=some r/\(r=true↔P)
theorem Y3.of {b:Bool} {P:Prop} (h:b=true↔P):Y3 (some b) P:=⟨b,rfl,h⟩
theorem Y3.iff {p:Option Bool} {P Q:Prop} (h:Y3 p P) (e:P↔Q):Y3 p Q:=by
 obtain⟨r,h1,h2⟩:=h;exact⟨r,h1,h2.trans e⟩
theorem Y3.yes {P:Prop} (h:P):Y3 (some true) P:=⟨true,rfl,by simp[h]⟩
theorem Y3.no {P:Prop} (h:¬P):Y3 (some false) P:=⟨false,rfl,by simp[h]⟩
theorem Y3.eq {p q:Option Bool} {P:Prop} (h:Y3 p P) (h':Y3 q P):∃r,p=some r/\q=some r/\(r=true↔P):=by
 obtain⟨r,h1,h2⟩:=h;obtain⟨r',h3,h4⟩:=h';have:r=r':=by
  cases r<;>cases r'<;>simp_all
 subst this;exact⟨r,h1,h3,h2⟩
theorem Y3.bnd {x:Option Bool} {P Q:Prop} {f:Bool->Option Bool} (h:Y3 x P) (h1:P->Y3 (f true) Q) (h2:¬P->Y3 (f false) Q):Y3 (x.bind f) Q:=by
 obtain⟨r,rfl,hr⟩:=h;rw[ZZa];cases r with
 | true=>exact h1 (hr.1 rfl)
 | false=>exact h2 (λhp=>by simpa using hr.2 hp)
theorem Y3.and {x y:Option Bool} {P Q:Prop} (h:Y3 x P) (h1:P->Y3 y Q):Y3 (x.bind λr=>if r=true then y else some false) (P/\Q):=by
 refine h.bnd (λhp=>?_) (λhp=>?_)
 .rw[ZZj rfl];exact (h1 hp).iff ⟨λq=>⟨hp,q⟩,λq=>q.2⟩
 .rw[ZZi (by simp)];exact .no λq=>hp q.1
section
variable {σ:Type}
theorem Zyr {n:Nat} (hn:n < 4611686018427387904) {P:Nat->Prop} {Q:Prop} (st:Nat->σ) {B:(σ->Int->Option Bool)->σ->Int->Option Bool} {L:Nat->σ->Int->Option Bool} (hL:∀m s i,L (m+1) s i=B (L m) s i)
  (hs:∀k,k < n->(P k/\∀κ,B κ (st k) (k:Int)=κ (st (k+1)) (Zs (k:Int) 1))\/(¬P k/\∀κ,B κ (st k) (k:Int)=some false))
  (hf:(∀k,k < n->P k)->∃r,(∀κ,B κ (st n) (n:Int)=some r)/\(r=true↔Q)):Y3 (L FU (st 0) 0) ((∀k,k < n->P k)/\Q):=by
 have key:∀(m k:Nat),k<=n->n - k < m->(∀j,j < k->P j)->Y3 (L m (st k) (k:Int)) ((∀j,j < n->P j)/\Q):=by
  intro m
  induction m with
  | zero=>intro k _ h;omega
  | succ m ih=>
   intro k hk hm hp;rw[hL];by_cases hc:k < n
   .rcases hs k hc with⟨h1,h2⟩|⟨h1,h2⟩
    .rw[h2,Wj (by omega)]
     refine ih (k+1) (by omega) (by omega) λj hj=>?_;by_cases hjk:j=k
     .subst hjk;exact h1
     .exact hp j (by omega)
    .rw[h2];exact .no λq=>h1 (q.1 k hc)
   .have:k=n:=by omega
    subst this;obtain⟨r,hr,hq⟩:=hf hp;rw[hr];exact .of ⟨λh=>⟨hp,hq.1 h⟩,λh=>hq.2 h.2⟩
 have:=key FU 0 (Vbk _) (by have:=Qx;omega) (λj hj=>by omega);simpa using this
theorem Zp0 {n:Nat} (hn:n < 4611686018427387904) {P:Nat->Prop} {Q:Prop} {B:(Int->Option Bool)->Int->Option Bool} {L:Nat->Int->Option Bool} (hL:∀m i,L (m+1) i=B (L m) i)
  (hs:∀k,k < n->(P k/\∀κ,B κ (k:Int)=κ (Zs (k:Int) 1))\/(¬P k/\∀κ,B κ (k:Int)=some false))
  (hf:(∀k,k < n->P k)->∃r,(∀κ,B κ (n:Int)=some r)/\(r=true↔Q)):Y3 (L FU 0) ((∀k,k < n->P k)/\Q):=
 Zyr (σ:=Unit) hn (λ_=>()) (B:=λκ _ i=>B (κ ()) i) (L:=λm _ i=>L m i) (λm _ i=>hL m i) (λk hk=>(hs k hk).imp (λh=>⟨h.1,λκ=>h.2 _⟩) λh=>⟨h.1,λκ=>h.2 _⟩)
  (λh=>by obtain⟨r,h1,h2⟩:=hf h;exact⟨r,λκ=>h1 _,h2⟩)
end
instance:Inhabited Zm:=⟨Zm.z0⟩
instance:Inhabited Zh:=⟨Zh.z0⟩
def Yl (m:Zb):Bool:=decide (m.queue≠[])&&((atI m.queue 0).lock&&!m.broken)
def K8 (b:Za) (i:Int):Int:=(if b.addr.live=true/\b.addr.who=i then 1 else 0)+(if b.data_.live=true/\b.data_.who=i then 1 else 0)
structure Zxi (c:Zk) (b:Za) (i:Int):Prop where
 right:Yt (atI b.m i)
 tries:(atI b.m i).tries<=c.maxRetry
 bucket:Y5 (atI b.buckets i) (atI c.masters i)=true
 split:0<=atI b.splits i/\atI b.splits i<=c.maxSplit
def Zai (b:Za) (x:Zh):Prop:=Zv b.conf x.who=true/\(1<=x.by_/\x.by_<=3)/\atI b.splits x.who=0
def K4 (b:Za):Prop:=if b.addr.live=true then b.addr.beat=(atI b.m b.addr.who).beat - 1/\b.addr.left=0/\b.addr.resp=0/\b.addr.second=false else b.addr=Zh.z0
def Kl (b:Za):Prop:=if b.data_.live=true then
  (b.data_.beat=(atI b.m b.data_.who).done/\(0<=b.data_.left/\b.data_.left<=b.conf.maxWait+2)/\(0<=b.data_.resp/\b.data_.resp<=3))/\
  (b.data_.resp=2->(atI b.m b.data_.who).tries < b.conf.maxRetry)/\(b.data_.resp=3->(atI b.m b.data_.who).parted=false/\b.data_.who≠b.holder)/\
  (b.data_.second=true->b.data_.left=0/\b.data_.resp≠0/\b.addr.live=false)
 else b.data_=Zh.z0
def Zjw (b:Za):Prop:=(∀i,Zv b.conf i=true->(atI b.m i).beat > 0->Yl (atI b.m i)=true->b.holder=i)/\
 (if b.holder=-1 then b.held=0 else Zv b.conf b.holder=true/\Yl (atI b.m b.holder)=true/\atI b.splits b.holder=0/\(0<=b.held/\b.held<=b.conf.lockMost))
def Z6y (c:Zk) (now:Int) (d:Zm):Prop:=(0<=d.cycle/\d.cycle < now)/\Zv c d.who=true/\Wd d.addr d.size=true/\d.addr < 512/\Xz d.value d.size=true/\(d.resp=0\/d.resp=1)
def Z5r (b:Za):Prop:=(∀d∈b.log,Z6y b.conf b.now d)/\b.log.Pairwise λx y=>x.cycle < y.cycle
structure Zif (b:Za):Prop where
 conf:X9 b.conf=true
 now:0<=b.now/\b.now<=4000
 ml:b.m.length=b.conf.masters.length
 bl:b.buckets.length=b.conf.masters.length
 sl:b.splits.length=b.conf.masters.length
 mst:∀i,Zv b.conf i=true->Zxi b.conf b i
 arb:Za5 b.arb b.conf=true
 last:b.last=-1\/Zv b.conf b.last=true
 model:Zeu b.model
 picks:0<=b.picks/\b.picks<=b.now
 alive:b.addr.live=true->Zai b b.addr
 dlive:b.data_.live=true->Zai b b.data_
 fly:∀i,Zv b.conf i=true->(atI b.m i).beat - (atI b.m i).done=K8 b i
 addr:K4 b
 data:Kl b
 held:Zjw b
 log:Z5r b
structure Za.sm (b:Za):Prop where
 conf:b.conf.masters.length < 1048577
 ml:b.m.length < 1048577
 mst:∀x∈b.m,x.sm
 bl:b.buckets.length < 1048577
 sl:b.splits.length < 1048577
 model:b.model.sm
 log:b.log.length < 1048577
theorem mas {c:Zk} {k:Nat} (h:k < c.masters.length):Zv c (k:Int)=true:=by simp[Zv,h]
theorem Yv0 {c:Zk} {i:Int} (h:Zv c i=true):∃k:Nat,i=(k:Int)/\k < c.masters.length:=by
 simp only[Zv,ZZl] at h;exact⟨i.toNat,by omega,by omega⟩
theorem Zy4 {c:Zk} {P:Int->Prop}:(∀i,Zv c i=true->P i)↔∀k:Nat,k < c.masters.length->P (k:Int):=by
 constructor
 .intro h k hk;exact h _ (mas hk)
 .intro h i hi
  obtain⟨k,rfl,hk⟩:=Yv0 hi;exact h k hk
theorem Wf {b:Za} (hl:b.m.length=b.conf.masters.length) {i:Int} (h:Zv b.conf i=true):idx b.m i=some (atI b.m i):=by
 simp only[Zv,ZZl] at h;exact Xq h.1 (by omega)
theorem Ya9 {b:Za} (hl:b.buckets.length=b.conf.masters.length) {i:Int} (h:Zv b.conf i=true):idx b.buckets i=some (atI b.buckets i):=by
 simp only[Zv,ZZl] at h;exact Xq h.1 (by omega)
theorem Zqg {b:Za} (hl:b.splits.length=b.conf.masters.length) {i:Int} (h:Zv b.conf i=true):idx b.splits i=some (atI b.splits i):=by
 simp only[Zv,ZZl] at h;exact Xq h.1 (by omega)
theorem Z2j {c:Zk} {i:Int} (h:Zv c i=true):idx c.masters i=some (atI c.masters i):=by
 simp only[Zv,ZZl] at h;exact Xq h.1 h.2
theorem mem_m {b:Za} (hl:b.m.length=b.conf.masters.length) {i:Int} (h:Zv b.conf i=true):atI b.m i∈b.m:=by
 simp only[Zv,ZZl] at h;exact Zkq h.1 (by omega)
theorem Yg3 (x:Zh):((x.live == false)&&(decide (x.who=0)&&(decide (x.beat=0)&&((x.first == false)&&(decide (x.by_=0)&&(decide (x.left=0)&&(decide (x.resp=0)&&((x.second == false)&&true))))))))=true↔x=Zh.z0:=by
 obtain⟨a1,a2,a3,a4,a5,a6,a7,a8⟩:=x;simp only[ZZg,beq_iff_eq,ZZl,Zh.mk.injEq,and_true]
theorem Z5b (m:Zb):Zro m=some (Yl m):=by
 unfold Zro Yl;by_cases h:m.queue=[]
 .simp[h]
 .have h1:0 < m.queue.length:=Van.2 h
  rw[Xq (by omega) (by omega),ZZa,ZZj (by simp;omega)];cases h2:(atI m.queue 0).lock<;>simp[h]
theorem Zw7 (b:Za) (hs:b.sm) (hc:X9 b.conf=true):Y3 (Zg1 b) (b.m.length=b.conf.masters.length/\b.buckets.length=b.conf.masters.length/\b.splits.length=b.conf.masters.length/\∀i,Zv b.conf i=true->Zxi b.conf b i):=by
 unfold Zg1;by_cases h1:b.m.length=b.conf.masters.length
 .rw[ZZi (by simp;omega)]
  by_cases h2:b.buckets.length=b.conf.masters.length
  .rw[ZZi (by simp;omega)]
   unfold Qt;by_cases h3:b.splits.length=b.conf.masters.length
   .rw[ZZi (by simp;omega)]
    have:=Zar hc;refine (Zp0 (n:=b.m.length) (P:=λk=>Zxi b.conf b (k:Int)) (Q:=True) (by omega) (B:=Zb7 b) (λm i=>rfl) (λk hk=>?_) λ_=>⟨true,λκ=>?_,by simp⟩).iff ?_
    .have hm:=mas (c:=b.conf) (k:=k) (by omega)
     have hms:=hs.mst _ (mem_m h1 hm);unfold Zb7;simp only[ZZj (show decide ((k:Int) < (b.m.length:Int))=true by simpa using hk),Wf h1 hm,Ya9 h2 hm,Zqg h3 hm,Z2j hm,ZZa,Zbz _ hms,Z7f,X7];by_cases e1:Zw4 (atI b.m (k:Int))=true
     .by_cases e2:(atI b.m (k:Int)).tries<=b.conf.maxRetry
      .by_cases e3:Y5 (atI b.buckets (k:Int)) (atI b.conf.masters (k:Int))=true
       .by_cases e4:0<=atI b.splits (k:Int)/\atI b.splits (k:Int)<=b.conf.maxSplit
        .refine .inl ⟨⟨Jj.1 e1,e2,e3,e4⟩,λκ=>?_⟩
         have e5:¬(atI b.m (k:Int)).tries > b.conf.maxRetry:=by omega
         simp[e1,e3,e4,e5]
        .refine .inr ⟨λh=>e4 h.split,λκ=>?_⟩
         simp[e1,e3,e4]
       .refine .inr ⟨λh=>e3 h.bucket,λκ=>?_⟩
        simp[e1,e3]
      .refine .inr ⟨λh=>e2 h.tries,λκ=>?_⟩
       have e5:(atI b.m (k:Int)).tries > b.conf.maxRetry:=by omega
       simp[e1,e5]
     .refine .inr ⟨λh=>e1 (Jj.2 h.right),λκ=>?_⟩
      simp[e1]
    .unfold Zb7
     rw[ZZi (by simp)]
    .rw[and_true,h1,<-Zy4]
     exact⟨λh=>⟨rfl,h2,h3,h⟩,λh=>h.2.2.2⟩
   .rw[ZZj (by simp;omega)]
    exact .no λh=>h3 h.2.2.1
  .rw[ZZj (by simp;omega)]
   unfold Qt;rw[ZZj rfl];exact .no λh=>h2 h.2.1
 .rw[ZZj (by simp;omega)]
  unfold Qt;rw[ZZj rfl];exact .no λh=>h1 h.1
theorem Y29 (b:Za):Zr4 b=some ([b.addr,b.data_].filter (·.live)):=by
 unfold Zr4;have:Wk [b.addr,b.data_]=some ([b.addr,b.data_].filter (·.live)):=by
  unfold Wk Q5;exact Yvl [b.addr,b.data_] Zh.z0 (by simp) Zoy (·.live) (λa _=>rfl) _ (λm i=>rfl) _ (λm v i j=>rfl)
 rw[this];rfl
def Zfu:List Zh->List Int->List Int
 | [],l=>l
 | x::xs,l=>Zfu xs (l.set x.who.toNat (atI l x.who+1))
theorem Y27:∀(xs:List Zh) (x:Zh) (l:List Int),Zfu (xs++[x]) l=(Zfu xs l).set x.who.toNat (atI (Zfu xs l) x.who+1):=by
 intro xs
 induction xs with
 | nil=>intro x l;rfl
 | cons y xs ih=>intro x l;exact ih x _
theorem Yo7:∀(xs:List Zh) (l:List Int),(Zfu xs l).length=l.length:=by
 intro xs
 induction xs with
 | nil=>intro l;rfl
 | cons y xs ih=>intro l;rw[Zfu,ih,Vbg]
theorem Y6d:∀(xs:List Zh) (l:List Int) (i:Int),0<=i->i < (l.length:Int)->(∀x∈xs,0<=x.who/\x.who < (l.length:Int))->atI (Zfu xs l) i=atI l i+(xs.countP λx=>decide (x.who=i):Nat):=by
 intro xs
 induction xs with
 | nil=>intro l i _ _ _;simp[Zfu]
 | cons y xs ih=>
  intro l i h0 h1 hx;have hy:=hx y (Vaa ..);rw[Zfu,ih _ i h0 (by simpa using h1) (λx hxm=>by simpa using hx x (Vac _ hxm)),List.countP_cons];by_cases h:y.who=i
  .subst h
   rw[Zp8 _ hy.1 hy.2];simp;omega
  .rw[Ylc _ hy.1 h0 h]
   simp[h]
theorem Y1q (b:Za) (i:Int):(([b.addr,b.data_].filter (·.live)).countP λx=>decide (x.who=i):Nat)=K8 b i:=by
 unfold K8;by_cases h1:b.addr.live=true<;>by_cases h2:b.data_.live=true<;>by_cases h3:b.addr.who=i<;>by_cases h4:b.data_.who=i<;>simp[h1,h2,h3,h4]
theorem Y3e {b:Za} {P:Zh->Prop}:(∀k (h:k < ([b.addr,b.data_].filter (·.live)).length),P (([b.addr,b.data_].filter (·.live))[k]))↔(b.addr.live=true->P b.addr)/\(b.data_.live=true->P b.data_):=by
 have:(∀k (h:k < ([b.addr,b.data_].filter (·.live)).length),P (([b.addr,b.data_].filter (·.live))[k]))↔∀x∈[b.addr,b.data_].filter (·.live),P x:=by
  constructor
  .intro h x hx
   obtain⟨k,hk,rfl⟩:=Vbr hx;exact h k hk
  .intro h k hk;exact h _ (Vaq hk)
 rw[this];constructor
 .intro h;exact⟨λh1=>h _ (by simp[h1]),λh1=>h _ (by simp[h1])⟩
 .intro h x hx
  simp only[Vb4,Vau,List.not_mem_nil,or_false] at hx;rcases hx with⟨rfl|rfl,hx⟩
  .exact h.1 hx
  .exact h.2 hx
theorem Yh9 (b:Za):Y3 (Qj b false) (b.data_.second=true->b.data_.left=0/\b.data_.resp≠0/\b.addr.live=false):=by
 unfold Qj;rw[ZZi (by simp)];by_cases h1:b.data_.second=true
 .rw[ZZi (by simp[h1])]
  by_cases h2:b.data_.left=0
  .rw[ZZj (by simpa using h2)]
   by_cases h3:b.data_.resp=0
   .rw[ZZi (by simpa using h3)];exact .no λh=>(h h1).2.1 h3
   .rw[ZZj (by simpa using h3)]
    exact .of (by simp[h1,h2,h3])
  .rw[ZZi (by simpa using h2)];exact .no λh=>h2 (h h1).1
 .rw[ZZj (by simpa using h1)];exact .yes λh=>absurd h h1
theorem Ql {c:Zk} (hc:X9 c=true):(0<=c.maxRetry/\c.maxRetry<=3)/\(0<=c.maxWait/\c.maxWait<=3)/\(1<=c.lockMost/\c.lockMost<=40)/\(1<=c.maxSplit/\c.maxSplit<=12):=by
 simp only[X9,ZZg,ZZl] at hc;have h3:=hc.1.2;have h4:Zjx c≠0:=λh=>h3 (by unfold Zag;rw[ZZj h]);have h5:1<=c.lockMost/\c.lockMost<=40:=by
  unfold Zag at h3;rw[ZZi h4] at h3;by_cases h6:1<=c.lockMost/\c.lockMost<=40
  .exact h6
  .rw[ZZi h6] at h3;exact absurd rfl h3
 have h6:(0<=c.maxRetry/\c.maxRetry<=3)/\(0<=c.maxWait/\c.maxWait<=3):=by
  unfold Zjx at h4;by_cases h7:(0<=c.maxRetry/\c.maxRetry<=3)/\(0<=c.maxWait/\c.maxWait<=3)
  .exact h7
  .rw[ZZi h7] at h4;exact absurd rfl h4
 exact⟨h6.1,h6.2,h5,hc.1.1.2⟩
theorem Yy3 (b:Za) (hc:X9 b.conf=true) (h1:b.m.length=b.conf.masters.length) (hl:b.data_.live=true->Zai b b.data_):Y3 (Xf b false) (Kl b):=by
 have hw:=(Ql hc).2.1;unfold Xf Kl;rw[ZZi (by simp)];by_cases hd:b.data_.live=true
 .obtain⟨hm,hby,hsp⟩:=hl hd
  rw[ZZi (by simp[hd]),Wf h1 hm,ZZa,ZZj hd,X7,ZZa,X7,ZZa,Yq (by omega) (by omega)];have hJ6:∀v,Y3 (Zbn b (atI b.m b.data_.who) v) (v=false/\(b.data_.resp=3->(atI b.m b.data_.who).parted=false/\b.data_.who≠b.holder)/\(b.data_.second=true->b.data_.left=0/\b.data_.resp≠0/\b.addr.live=false)):=by
   intro v;unfold Zbn;cases v with
   | true=>rw[ZZj rfl];exact .no λh=>by simp at h
   | false=>
    rw[ZZi (by simp)];by_cases h3:b.data_.resp=3
    .rw[ZZj (by simpa using h3)]
     by_cases h4:(atI b.m b.data_.who).parted=true
     .rw[ZZj h4]
      unfold Qj;rw[ZZj rfl];exact .no λh=>by have:=(h.2.1 h3).1;rw[h4] at this;cases this
     .rw[ZZi h4]
      by_cases h5:b.data_.who=b.holder
      .rw[decide_eq_true h5]
       unfold Qj;rw[ZZj rfl];exact .no λh=>(h.2.1 h3).2 h5
      .rw[decide_eq_false h5]
       exact (Yh9 b).iff ⟨λh=>⟨rfl,λ_=>⟨by simpa using h4,h5⟩,h⟩,λh=>h.2.2⟩
    .rw[ZZi (by simpa using h3)]
     exact (Yh9 b).iff ⟨λh=>⟨rfl,λh6=>absurd h6 h3,h⟩,λh=>h.2.2⟩
  have hJ5:∀v,Y3 (Jx b (atI b.m b.data_.who) v) (v=false/\(b.data_.resp=2->(atI b.m b.data_.who).tries < b.conf.maxRetry)/\(b.data_.resp=3->(atI b.m b.data_.who).parted=false/\b.data_.who≠b.holder)/\(b.data_.second=true->b.data_.left=0/\b.data_.resp≠0/\b.addr.live=false)):=by
   intro v;unfold Jx;cases v with
   | true=>rw[ZZj rfl];exact .no λh=>by simp at h
   | false=>
    rw[ZZi (by simp)];by_cases h3:b.data_.resp=2
    .rw[ZZj (by simpa using h3)]
     refine (hJ6 _).iff ?_;simp[h3]
    .rw[ZZi (by simpa using h3)]
     refine (hJ6 _).iff ?_;simp[h3]
  by_cases h3:b.data_.beat=(atI b.m b.data_.who).done
  .rw[ZZi (by simpa using h3)]
   by_cases h4:0<=b.data_.left/\b.data_.left<=b.conf.maxWait+2
   .rw[ZZi (by simpa using h4)]
    refine (hJ5 _).iff ?_;simp[h3,h4]
   .rw[ZZj (by rw[decide_eq_false h4];rfl)]
    exact (hJ5 _).iff ⟨λh=>by simp at h,λh=>absurd h.1.2.1 h4⟩
  .rw[ZZj (by simpa using h3)]
   exact (hJ5 _).iff ⟨λh=>by simp at h,λh=>absurd h.1.1 h3⟩
 .rw[ZZj (by simpa using hd),ZZi hd]
  exact .of (Yg3 _)
theorem Y3a {l:List Int} {N:Int} (hN:0<=N) (h:∀v∈l,0<=v/\v<=N) (i:Int):0<=atI l i/\atI l i<=N:=by
 unfold atI;rw[Vaw];cases hg:l[i.toNat]? with
 | none=>exact⟨Vcp _,hN⟩
 | some v=>exact h v (Vaf hg)
theorem Y3m:∀(xs:List Zh) (l:List Int) (N:Int),0<=N->(∀v∈l,0<=v/\v<=N)->∀v∈Zfu xs l,0<=v/\v<=N+xs.length:=by
 intro xs
 induction xs with
 | nil=>intro l N _ h v hv;have:=h v hv;simpa using this
 | cons x xs ih=>
  intro l N hN h v hv;have h2:=Y3a hN h x.who;have:=ih (l.set x.who.toNat (atI l x.who+1)) (N+1) (by omega) (λy hy=>by
   rcases Vca hy with hy|rfl
   .have:=h y hy;omega
   .omega) v hv
  simp only[Vag];omega
theorem Yee (b:Za) (hc:X9 b.conf=true) (h1:b.m.length=b.conf.masters.length) (h3:b.splits.length=b.conf.masters.length) (hr:∀i,Zv b.conf i=true->Yt (atI b.m i)):
  Y3 (Zch b) (((b.addr.live=true->Zai b b.addr)/\(b.data_.live=true->Zai b b.data_))/\(∀i,Zv b.conf i=true->(atI b.m i).beat - (atI b.m i).done=K8 b i)/\K4 b/\Kl b):=by
 have Yo:=Zar hc;have Z7:=Zcj hc;unfold Zch;rw[Zw8 (by omega) (by omega),ZZa,Y29,ZZa];generalize hLs:[b.addr,b.data_].filter (·.live)=ls;have hls:ls.length<=2:=by
  rw[<-hLs];exact Vb5 (Vbs ..) (by simp)
 have Y5m:∀x:Zh,Zv b.conf x.who=true->0<=x.who/\x.who < (b.m.length:Int):=λx h=>by
  simp only[Zv,ZZl] at h;omega
 have hL2:(∀x∈ls,Zv b.conf x.who=true)->((b.addr.live=true->Zai b b.addr)/\(b.data_.live=true->Zai b b.data_))->Y3 (Zbj b FU (Zfu ls (List.replicate b.m.length 0)) 0) ((∀i,Zv b.conf i=true->(atI b.m i).beat - (atI b.m i).done=K8 b i)/\K4 b/\Kl b):=by
  intro hml Y5n;have hfa:∀i,Zv b.conf i=true->atI (Zfu ls (List.replicate b.m.length 0)) i=K8 b i:=by
   intro i hi;simp only[Zv,ZZl] at hi;rw[Y6d _ _ i hi.1 (by simp;omega) (λx hx=>by have:=Y5m x (hml x hx);simpa using this),<-Y1q,hLs];have:atI (List.replicate b.m.length (0:Int)) i=0:=by
    unfold atI;rw[Vaw,Vd5];split<;>rfl
   rw[this];simp
  have hQ:∃r,(∀κ,Wo b κ (Zfu ls (List.replicate b.m.length 0)) (b.m.length:Int)=some r)/\(r=true↔K4 b/\Kl b):=by
   obtain⟨r,h4,h5⟩:=Yy3 b hc h1 Y5n.2;have Yr8:Xf b true=some false:=by unfold Xf;rw[ZZj rfl]
   by_cases ha:b.addr.live=true
   .obtain⟨hm,hby,hsp⟩:=Y5n.1 ha
    have hrb:=Je (hr _ hm);by_cases e1:b.addr.beat=(atI b.m b.addr.who).beat - 1/\b.addr.left=0/\b.addr.resp=0/\b.addr.second=false
    .refine⟨r,λκ=>?_,?_⟩
     .unfold Wo
      obtain⟨f1,f2,f3,f4⟩:=e1;rw[ZZi (by simp),ZZj ha,Wf h1 hm,ZZa,Xe (by omega) (by omega)];simp only[f1,f2,f3,f4,ha,ne_eq,not_true_eq_false,decide_false,ZZf,if_false,Va5,h4]
     .rw[h5];unfold K4;rw[ZZj ha];exact⟨λh=>⟨e1,h⟩,λh=>h.2⟩
    .refine⟨false,λκ=>?_,?_⟩
     .unfold Wo
      rw[ZZi (by simp),ZZj ha,Wf h1 hm,ZZa,Xe (by omega) (by omega)];by_cases f1:b.addr.beat=(atI b.m b.addr.who).beat - 1
      .by_cases f2:b.addr.left=0
       .by_cases f3:b.addr.resp=0
        .have f4:b.addr.second=true:=by
          cases hs:b.addr.second with
          | true=>rfl
          | false=>exact absurd ⟨f1,f2,f3,hs⟩ e1
         rw[ZZi (by simpa using f1),ZZi (by simpa using f2),ZZi (by simpa using f3),ZZj f4,Yr8]
        .rw[ZZi (by simpa using f1),ZZi (by simpa using f2),ZZj (by simpa using f3),Yr8]
       .rw[ZZi (by simpa using f1),ZZj (by simpa using f2),Yr8]
      .rw[ZZj (by simpa using f1),Yr8]
     .unfold K4;rw[ZZj ha];simp[e1]
   .by_cases e1:b.addr=Zh.z0
    .refine⟨r,λκ=>?_,?_⟩
     .unfold Wo
      rw[ZZi (by simp),ZZi ha,ZZj (by simpa using ha),(Yg3 b.addr).2 e1];exact h4
     .rw[h5];unfold K4;rw[ZZi ha];exact⟨λh=>⟨e1,h⟩,λh=>h.2⟩
    .refine⟨false,λκ=>?_,?_⟩
     .unfold Wo
      rw[ZZi (by simp),ZZi ha,ZZj (by simpa using ha)];have:((b.addr.live == false)&&(decide (b.addr.who=0)&&(decide (b.addr.beat=0)&&((b.addr.first == false)&&(decide (b.addr.by_=0)&&(decide (b.addr.left=0)&&(decide (b.addr.resp=0)&&((b.addr.second == false)&&true))))))))=false:=by
       rw[<-Bool.not_eq_true,Yg3];exact e1
      rw[this,Vbd,Yr8]
     .unfold K4;rw[ZZi ha];simp[e1]
  obtain⟨r,Zw,Z6⟩:=hQ;refine (Zyr (σ:=List Int) (n:=b.m.length) (by omega) (P:=λk=>(atI b.m (k:Int)).beat - (atI b.m (k:Int)).done=K8 b (k:Int)) (Q:=K4 b/\Kl b) (λ_=>Zfu ls (List.replicate b.m.length 0)) (B:=Wo b) (L:=Zbj b) (λm s i=>rfl) (λk hk=>?_) λ_=>⟨r,Zw,Z6⟩).iff ?_
  .have hm:=mas (c:=b.conf) (k:=k) (by omega)
   have hrb:=Je (hr _ hm);have Kg:=Yo7 ls (List.replicate b.m.length 0);rw[Vdh] at Kg;have hi:idx (Zfu ls (List.replicate b.m.length 0)) (k:Int)=some (K8 b (k:Int)):=by
    rw[Xq (by omega) (by omega),hfa _ hm]
   by_cases e1:(atI b.m (k:Int)).beat - (atI b.m (k:Int)).done=K8 b (k:Int)
   .refine .inl ⟨e1,λκ=>?_⟩
    unfold Wo;rw[ZZj (by simpa using hk),Wf h1 hm,ZZa,hi,ZZa,Xe (by omega) (by omega),ZZi (by simpa using e1)]
   .refine .inr ⟨e1,λκ=>?_⟩
    unfold Wo;rw[ZZj (by simpa using hk),Wf h1 hm,ZZa,hi,ZZa,Xe (by omega) (by omega),ZZj (by simpa using e1)]
  .rw[h1,<-Zy4 (P:=λi=>(atI b.m i).beat - (atI b.m i).done=K8 b i)]
 have hlv:(∀k,k < ls.length->Zai b (atI ls (k:Int)))↔((b.addr.live=true->Zai b b.addr)/\(b.data_.live=true->Zai b b.data_)):=by
  rw[<-Y3e (P:=Zai b),hLs];constructor
  .intro h k hk;have:=h k hk;rwa [Qk hk] at this
  .intro h k hk;rw[Qk hk];exact h k hk
 have hstep:∀k,k < ls.length->(Zai b (atI ls (k:Int))/\∀κ,Wn b κ (Zfu (ls.take k) (List.replicate b.m.length 0)) ls (ls.length:Int) (k:Int)=κ (Zfu (ls.take (k+1)) (List.replicate b.m.length 0)) ls (ls.length:Int) (Zs (k:Int) 1))\/(¬Zai b (atI ls (k:Int))/\∀κ,Wn b κ (Zfu (ls.take k) (List.replicate b.m.length 0)) ls (ls.length:Int) (k:Int)=some false):=by
  intro k hk;have Kg:=Yo7 (ls.take k) (List.replicate b.m.length 0);rw[Vdh] at Kg;have hJ3:∀κ x,Kr b κ x (Zfu (ls.take k) (List.replicate b.m.length 0)) ls (ls.length:Int) (k:Int) true=some false:=λκ x=>by unfold Kr;rw[ZZj rfl]
  by_cases e1:Zv b.conf (atI ls (k:Int)).who=true
  .by_cases e2:1<=(atI ls (k:Int)).by_/\(atI ls (k:Int)).by_<=3
   .by_cases e3:atI b.splits (atI ls (k:Int)).who=0
    .refine .inl ⟨⟨e1,e2,e3⟩,λκ=>?_⟩
     unfold Wn;have hw:=Y5m _ e1;rw[ZZj (by simpa using hk),Xq (by omega) (by omega),ZZa,Jr _ _ Z7,ZZa,e1,ZZi (by simp),X7,ZZa,ZZi (by simpa using e2),Zqg h3 e1,ZZa,e3];unfold Kr;have hb:=Y3a (by omega) (Y3m (ls.take k) (List.replicate b.m.length 0) 0 (by omega) (λv hv=>by rw[List.eq_of_mem_replicate hv];omega)) (atI ls (k:Int)).who;have hk2:(ls.take k).length<=2:=by rw[Vbu];omega
     rw[ZZi (by simp),Xq hw.1 (by omega),ZZa,Yq (a:=atI (Zfu (ls.take k) (List.replicate b.m.length 0)) (atI ls (k:Int)).who) (by omega) (by omega),Wy,ZZa,List.take_succ_eq_append_getElem hk,Y27,Qk hk]
    .refine .inr ⟨λh=>e3 h.2.2,λκ=>?_⟩
     unfold Wn;rw[ZZj (by simpa using hk),Xq (by omega) (by omega),ZZa,Jr _ _ Z7,ZZa,e1,ZZi (by simp),X7,ZZa,ZZi (by simpa using e2),Zqg h3 e1,ZZa,decide_eq_true e3,hJ3]
   .refine .inr ⟨λh=>e2 h.2.1,λκ=>?_⟩
    unfold Wn;rw[ZZj (by simpa using hk),Xq (by omega) (by omega),ZZa,Jr _ _ Z7,ZZa,e1,ZZi (by simp),X7,ZZa,ZZj (by rw[decide_eq_false e2];rfl),hJ3]
  .refine .inr ⟨λh=>e1 h.1,λκ=>?_⟩
   unfold Wn;rw[ZZj (by simpa using hk),Xq (by omega) (by omega),ZZa,Jr _ _ Z7,ZZa,ZZj (by simpa using e1),hJ3]
 have hl1:=Zyr (σ:=List Int×List Zh×Int) (n:=ls.length) (by omega) (P:=λk=>Zai b (atI ls (k:Int)))
  (Q:=(∀i,Zv b.conf i=true->(atI b.m i).beat - (atI b.m i).done=K8 b i)/\K4 b/\Kl b)
  (λk=>(Zfu (ls.take k) (List.replicate b.m.length 0),ls,(ls.length:Int))) (B:=λκ s i=>Wn b (λv l n i=>κ (v,l,n) i) s.1 s.2.1 s.2.2 i) (L:=λm s i=>Zd6 b m s.1 s.2.1 s.2.2 i) (λm s i=>rfl)
  (λk hk=>(hstep k hk).imp (λh=>⟨h.1,λκ=>h.2 _⟩) λh=>⟨h.1,λκ=>h.2 _⟩)
 have hml:(∀k,k < ls.length->Zai b (atI ls (k:Int)))->∀x∈ls,Zv b.conf x.who=true:=by
  intro h x hx;obtain⟨k,hk,rfl⟩:=Vbr hx;have:=(h k hk).1
  rwa [Qk hk] at this
 have hl2:=hl1 λQ6=>by
  obtain⟨r,Zw,Z6⟩:=hL2 (hml Q6) (hlv.1 Q6);refine⟨r,λκ=>?_,Z6⟩;unfold Wn;rw[ZZi (by simp),Vbx];exact Zw
 simp only[List.take_zero,Zfu] at hl2;exact hl2.iff (by rw[hlv])
theorem Yj3 (b:Za) (hc:X9 b.conf=true) (h1:b.m.length=b.conf.masters.length) (h3:b.splits.length=b.conf.masters.length):Y3 (Zep b) (Zjw b):=by
 have Yo:=Zar hc;have Z7:=Zcj hc;unfold Zep Zjw;refine (Zp0 (n:=b.m.length) (by omega) (P:=λk=>(atI b.m (k:Int)).beat > 0->Yl (atI b.m (k:Int))=true->b.holder=(k:Int))
  (Q:=if b.holder=-1 then b.held=0 else Zv b.conf b.holder=true/\Yl (atI b.m b.holder)=true/\atI b.splits b.holder=0/\(0<=b.held/\b.held<=b.conf.lockMost))
  (B:=Zfk b) (λm i=>rfl) (λk hk=>?_) λ_=>?_).iff ?_
 .have hm:=mas (c:=b.conf) (k:=k) (by omega)
  unfold Zfk;simp only[ZZj (show decide ((k:Int) < (b.m.length:Int))=true by simpa using hk),Wf h1 hm,ZZa,Z5b];by_cases e1:(atI b.m (k:Int)).beat > 0
  .by_cases e2:Yl (atI b.m (k:Int))=true
   .by_cases e3:b.holder=(k:Int)
    .exact .inl ⟨λ_ _=>e3,λκ=>by simp[e1,e2,e3]⟩
    .exact .inr ⟨λh=>e3 (h e1 e2),λκ=>by simp[e1,e2,e3]⟩
   .exact .inl ⟨λ_ h=>absurd h e2,λκ=>by simp[e1,e2]⟩
  .exact .inl ⟨λh=>absurd h e1,λκ=>by simp[e1]⟩
 .unfold Zfk
  simp only[Int.lt_irrefl,decide_false,ZZf,if_false];by_cases e1:b.holder=-1
  .exact⟨decide (b.held=0),λκ=>by simp[e1],by simp[e1]⟩
  .simp only[e1,decide_false,ZZf,if_false,Jr _ _ Z7,ZZa]
   by_cases e2:Zv b.conf b.holder=true
   .simp only[e2,if_true,Wf h1 e2,Zqg h3 e2,ZZa,Z5b,X7]
    by_cases e3:Yl (atI b.m b.holder)=true
    .by_cases e4:atI b.splits b.holder=0
     .exact⟨decide (0<=b.held/\b.held<=b.conf.lockMost),λκ=>by simp only[e3,e4,decide_true,if_true],by simp[e3,e4]⟩
     .exact⟨false,λκ=>by simp[e3,e4],by simp[e4]⟩
    .exact⟨false,λκ=>by simp[e3],by simp[e3]⟩
   .exact⟨false,λκ=>by simp[e2],by simp[e2]⟩
 .rw[h1,<-Zy4 (P:=λi=>(atI b.m i).beat > 0->Yl (atI b.m i)=true->b.holder=i)]
def Zdl (l:List Zm):Nat->Int
 | 0=>-1
 | k+1=>(atI l (k:Int)).cycle
theorem Ypq {l:List Zm}:(l.Pairwise λx y=>x.cycle < y.cycle)↔∀k,k+1 < l.length->(atI l (k:Int)).cycle < (atI l ((k+1:Nat):Int)).cycle:=by
 constructor
 .intro h k hk
  rw[Qk (by omega),Qk hk];exact Vdz.1 h k (k+1) (by omega) hk (by omega)
 .intro h
  rw[Vdz];have key:∀(d i:Nat) (hj:i+d+1 < l.length),(l[i]'(by omega)).cycle < (l[i+d+1]'hj).cycle:=by
   intro d
   induction d with
   | zero=>
    intro i hj;have:=h i hj;rw[Qk (by omega),Qk hj] at this;exact this
   | succ d ih=>
    intro i hj;have h4:=ih i (by omega);have h5:=h (i+d+1) (by omega);rw[Qk (by omega),Qk (by omega)] at h5;exact Int.lt_trans h4 h5
  intro i j hi hj hij;have:=key (j - i - 1) i (by omega);have e:i+(j - i - 1)+1=j:=by omega
  simp only[e] at this;exact this
theorem Yvy {b:Za}:Z5r b↔∀k,k < b.log.length->Z6y b.conf b.now (atI b.log (k:Int))/\Zdl b.log k < (atI b.log (k:Int)).cycle:=by
 unfold Z5r;constructor
 .intro h k hk
  have h1:=h.1 _ (Zkq (xs:=b.log) (i:=(k:Int)) (by omega) (by omega));refine⟨h1,?_⟩;cases k with
  | zero=>have:=h1.1.1;simp only[Zdl];omega
  | succ k=>exact Ypq.1 h.2 k hk
 .intro h
  refine⟨λd hd=>?_,Ypq.2 λk hk=>?_⟩
  .obtain⟨k,hk,rfl⟩:=Vbr hd
   have:=(h k hk).1
   rwa [Qk hk] at this
  .exact (h (k+1) hk).2
def doneQ (c:Zk) (now:Int) (d:Zm):Prop:=d.cycle < now/\Zv c d.who=true/\Wd d.addr d.size=true/\d.addr < 512/\Xz d.value d.size=true/\(d.resp=0\/d.resp=1)
theorem Y3f {b:Za}:Z5r b↔∀k,k < b.log.length->doneQ b.conf b.now (atI b.log (k:Int))/\Zdl b.log k < (atI b.log (k:Int)).cycle:=by
 rw[Yvy];constructor
 .intro h k hk
  have:=h k hk;exact⟨⟨this.1.1.2,this.1.2⟩,this.2⟩
 .intro h
  have h0:∀k,k<=b.log.length->-1<=Zdl b.log k:=by
   intro k
   induction k with
   | zero=>intro _;simp[Zdl]
   | succ k ih=>
    intro hk;have h1:=ih (by omega);have h2:=(h k (by omega)).2;simp only[Zdl];omega
  intro k hk;have h1:=h k hk;have h2:=h0 k (by omega);exact⟨⟨⟨by omega,h1.1.1⟩,h1.1.2⟩,h1.2⟩
theorem Yeh (b:Za) (hc:X9 b.conf=true) (hl:b.log.length < 1048577) (hn:0<=b.now/\b.now<=4000):Y3 (Zcl b) (Z5r b):=by
 have Z7:=Zcj hc;unfold Zcl;have:=Zyr (σ:=Int) (n:=b.log.length) (by omega) (P:=λk=>doneQ b.conf b.now (atI b.log (k:Int))/\Zdl b.log k < (atI b.log (k:Int)).cycle) (Q:=True)
  (Zdl b.log) (B:=Zdi b) (L:=Zd5 b) (λm s i=>rfl) (λk hk=>?_) λ_=>⟨true,λκ=>?_,by simp⟩
 .exact this.iff (by rw[and_true,Y3f])
 .have e0:Zdl b.log (k+1)=(atI b.log (k:Int)).cycle:=rfl
  rw[e0];unfold Zdi;simp only[ZZj (show decide ((k:Int) < (b.log.length:Int))=true by simpa using hk),Xq (xs:=b.log) (i:=(k:Int)) (by omega) (by omega),ZZa,Jr _ _ Z7,Zsn,Zjc];generalize atI b.log (k:Int)=d;by_cases e1:Zdl b.log k < d.cycle
  .have e1':¬d.cycle<=Zdl b.log k:=by omega
   by_cases e2:d.cycle < b.now
   .have e2':¬d.cycle≥b.now:=by omega
    by_cases e3:Zv b.conf d.who=true
    .by_cases e4:Wd d.addr d.size=true
     .by_cases e5:d.addr < 512
      .have e5':¬d.addr≥512:=by omega
       by_cases e6:Xz d.value d.size=true
       .by_cases e7:d.resp=0
        .exact .inl ⟨⟨⟨e2,e3,e4,e5,e6,.inl e7⟩,e1⟩,λκ=>by simp[e1',e2',e3,e4,e5',e6,e7]⟩
        .by_cases e8:d.resp=1
         .exact .inl ⟨⟨⟨e2,e3,e4,e5,e6,.inr e8⟩,e1⟩,λκ=>by simp[e1',e2',e3,e4,e5',e6,e8]⟩
         .exact .inr ⟨λh=>by have:=h.1.2.2.2.2.2;omega,λκ=>by simp[e1',e2',e3,e4,e5',e6,e7,e8]⟩
       .exact .inr ⟨λh=>e6 h.1.2.2.2.2.1,λκ=>by simp[e1',e2',e3,e4,e5',e6]⟩
      .have e5':d.addr≥512:=by omega
       exact .inr ⟨λh=>e5 h.1.2.2.2.1,λκ=>by simp[e1',e2',e3,e4,e5']⟩
     .exact .inr ⟨λh=>e4 h.1.2.2.1,λκ=>by simp[e1',e2',e3,e4]⟩
    .exact .inr ⟨λh=>e3 h.1.2.1,λκ=>by simp[e1',e2',e3]⟩
   .have e2':d.cycle≥b.now:=by omega
    exact .inr ⟨λh=>e2 h.1.1,λκ=>by simp[e1',e2']⟩
  .have e1':d.cycle<=Zdl b.log k:=by omega
   exact .inr ⟨λh=>e1 h.2,λκ=>by simp[e1']⟩
 .unfold Zdi
  rw[ZZi (by simp)]
theorem Ymy (b:Za) (hs:b.sm):Y3 (Zrj b) (Zif b):=by
 unfold Zrj;rw[Z3z _ hs.conf,ZZa];by_cases hc:X9 b.conf=true
 .rw[ZZj hc,X7,ZZa]
  by_cases hn:0<=b.now/\b.now<=4000
  .rw[ZZj (decide_eq_true hn)]
   have Y5o:b.m.length=b.conf.masters.length->b.buckets.length=b.conf.masters.length->b.splits.length=b.conf.masters.length->(∀i,Zv b.conf i=true->Zxi b.conf b i)->
     Y3 ((Zhb b.model).bind λr133=>if r133=true then (Yu b.picks 0 b.now).bind λr140=>if r140=true then (Zch b).bind λr143=>if r143=true then (Zep b).bind λr146=>if r146=true then (Zcl b).bind λr149=>some r149 else some false else some false else some false else some false)
      (Zeu b.model/\(0<=b.picks/\b.picks<=b.now)/\(((b.addr.live=true->Zai b b.addr)/\(b.data_.live=true->Zai b b.data_))/\(∀i,Zv b.conf i=true->(atI b.m i).beat - (atI b.m i).done=K8 b i)/\K4 b/\Kl b)/\Zjw b/\Z5r b):=by
    intro h1 h2 h3 hm;rw[Z9d _ hs.model];refine Y3.and (Y3.of Zxa) λ_=>?_;rw[X7];refine Y3.and (Y3.of (decide_eq_true_iff)) λ_=>?_;refine Y3.and (Yee b hc h1 h3 λi hi=>(hm i hi).right) λ_=>?_;refine Y3.and (Yj3 b hc h1 h3) λ_=>?_;obtain⟨r,h4,h5⟩:=Yeh b hc hs.log hn;rw[h4];exact .of h5
   have hw:Y3 (Znx b.arb b.conf) (Za5 b.arb b.conf=true):=by rw[Z5p _ _ hs.conf];exact .of Iff.rfl
   by_cases hla:b.last=-1
   .simp only[hla,decide_true,if_true]
    refine (Y3.and (Zw7 b hs hc) λhm=>Y3.and hw λ_=>Y5o hm.1 hm.2.1 hm.2.2.1 hm.2.2.2).iff ⟨λh=>?_,λh=>?_⟩
    .obtain⟨⟨h1,h2,h3,h4⟩,h5,h6,h7,⟨⟨h8,h9⟩,h10,h11,h12⟩,h13,h14⟩:=h
     exact⟨hc,hn,h1,h2,h3,h4,h5,.inl hla,h6,h7,h8,h9,h10,h11,h12,h13,h14⟩
    .exact⟨⟨h.ml,h.bl,h.sl,h.mst⟩,h.arb,h.model,h.picks,⟨⟨h.alive,h.dlive⟩,h.fly,h.addr,h.data⟩,h.held,h.log⟩
   .have e:decide (b.last=-1)=false:=decide_eq_false hla
    simp only[e,ZZf,if_false];have hi:Y3 (Jh b.conf b.last) (Zv b.conf b.last=true):=by rw[Jr _ _ hs.conf];exact .of Iff.rfl
    refine (Y3.and (Zw7 b hs hc) λhm=>Y3.and hw λ_=>Y3.and hi λ_=>Y5o hm.1 hm.2.1 hm.2.2.1 hm.2.2.2).iff ⟨λh=>?_,λh=>?_⟩
    .obtain⟨⟨h1,h2,h3,h4⟩,h5,hx,h6,h7,⟨⟨h8,h9⟩,h10,h11,h12⟩,h13,h14⟩:=h
     exact⟨hc,hn,h1,h2,h3,h4,h5,.inr hx,h6,h7,h8,h9,h10,h11,h12,h13,h14⟩
    .exact⟨⟨h.ml,h.bl,h.sl,h.mst⟩,h.arb,h.last.resolve_left hla,h.model,h.picks,⟨⟨h.alive,h.dlive⟩,h.fly,h.addr,h.data⟩,h.held,h.log⟩
  .rw[ZZi (by simpa using hn)]
   exact .no λh=>hn h.now
 .rw[ZZi hc]
  exact .no λh=>hc h.conf
theorem Y02 (b:Za) (i:Int):Zv0 b i=some (K8 b i):=by
 unfold Zv0 Zlb Zlc K8;by_cases h1:b.addr.live=true<;>by_cases h2:b.data_.live=true<;>by_cases h3:b.addr.who=i<;>by_cases h4:b.data_.who=i<;>simp[h1,h2,h3,h4]<;>rfl
theorem Ync (n:Int):∃w,Ztw n=some w/\((!(w.toList == ByteArray.empty.toList))=true↔(0<=n/\n<=3)):=by
 unfold Ztw;rw[Xk,ZZa];by_cases h:0<=n/\n<=3
 .have:n=0\/n=1\/n=2\/n=3:=by omega
  rcases this with rfl|rfl|rfl|rfl<;>exact⟨_,rfl,by rw[Ylr,Ylr];decide⟩
 .rw[ZZj (by rw[decide_eq_false h];rfl)]
  exact⟨_,rfl,by simp[h]⟩
theorem Zkl {b:Za} (h1:b.m.length=b.conf.masters.length) (Z7:b.conf.masters.length < 1048577) (i:Int):Z5 i 0 (Y8 (b.m.length:Int) 1)=some (Zv b.conf i):=by
 rw[Xk,h1,Z37 i Z7]
theorem Ykg (b:Za) (hs:b.sm) (hc:X9 b.conf=true) (h1:b.m.length=b.conf.masters.length) (h3:b.splits.length=b.conf.masters.length) (hm:∀i,Zv b.conf i=true->Zxi b.conf b i):
  Y3 (Zcx b b.addr false) ((b.addr.live=true->Zai b b.addr)/\K4 b):=by
 have Z7:=Zcj hc;have hJ1:Q7 b b.addr false true=some false:=by unfold Q7;rw[ZZj rfl]
 unfold Zcx K4;by_cases ha:b.addr.live=true
 .rw[ZZi (by simp[ha]),ZZj ha,Zkl h1 Z7,ZZa,Xk,ZZa]
  by_cases e1:Zv b.conf b.addr.who=true
  .rw[e1,ZZi (by simp)]
   by_cases e2:1<=b.addr.by_/\b.addr.by_<=3
   .rw[ZZi (by simpa using e2),Zqg h3 e1,ZZa]
    have hsp:=(hm _ e1).split;by_cases e3:atI b.splits b.addr.who=0
    .rw[decide_eq_false (by omega)]
     have hrb:=Je (hm _ e1).right;unfold Q7;rw[ZZi (by simp),Wf h1 e1,ZZa,ZZj (by simp),Xe (by omega) (by omega)];by_cases f1:b.addr.beat=(atI b.m b.addr.who).beat - 1
     .by_cases f2:b.addr.left=0
      .by_cases f3:b.addr.resp=0
       .rw[ZZj (by simpa using f1),ZZj (by simpa using f2),ZZj (by simpa using f3)]
        refine .of ⟨λh=>⟨λ_=>⟨e1,e2,e3⟩,f1,f2,f3,by simpa using h⟩,λh=>by simpa using h.2.2.2.2⟩
       .rw[ZZj (by simpa using f1),ZZj (by simpa using f2),ZZi (by simpa using f3)]
        exact .no λh=>f3 h.2.2.2.1
      .rw[ZZj (by simpa using f1),ZZi (by simpa using f2)]
       exact .no λh=>f2 h.2.2.1
     .rw[ZZi (by simpa using f1)]
      exact .no λh=>f1 h.2.1
    .rw[decide_eq_true (by omega),hJ1]
     exact .no λh=>e3 (h.1 ha).2.2
   .rw[ZZj (by rw[decide_eq_false e2];rfl),hJ1]
    exact .no λh=>e2 (h.1 ha).2.1
  .rw[ZZj (by simpa using e1),hJ1]
   exact .no λh=>e1 (h.1 ha).1
 .rw[ZZj (by simpa using ha),ZZi ha]
  exact (Y3.of (Yg3 _)).iff ⟨λh=>⟨λh2=>absurd h2 ha,h⟩,λh=>h.2⟩
theorem Ykm (b:Za) (hs:b.sm) (hc:X9 b.conf=true) (h1:b.m.length=b.conf.masters.length) (h3:b.splits.length=b.conf.masters.length) (hm:∀i,Zv b.conf i=true->Zxi b.conf b i):
  Y3 (Zcx b b.data_ true) ((b.data_.live=true->Zai b b.data_)/\Kl b):=by
 have Z7:=Zcj hc;have hw:=(Ql hc).2.1;have hJ1:Q7 b b.data_ true true=some false:=by unfold Q7;rw[ZZj rfl]
 unfold Zcx Kl;by_cases ha:b.data_.live=true
 .rw[ZZi (by simp[ha]),ZZj ha,Zkl h1 Z7,ZZa,Xk,ZZa]
  by_cases e1:Zv b.conf b.data_.who=true
  .rw[e1,ZZi (by simp)]
   by_cases e2:1<=b.data_.by_/\b.data_.by_<=3
   .rw[ZZi (by simpa using e2),Zqg h3 e1,ZZa]
    have hsp:=(hm _ e1).split;by_cases e3:atI b.splits b.data_.who=0
    .rw[decide_eq_false (by omega)]
     have hrb:=Je (hm _ e1).right;have hJ2:Y3 (Yg b b.data_ true (atI b.m b.data_.who) false) ((b.data_.beat=(atI b.m b.data_.who).done/\(0<=b.data_.left/\b.data_.left<=b.conf.maxWait+2)/\(0<=b.data_.resp/\b.data_.resp<=3))/\(b.data_.second=true->b.data_.left=0/\b.data_.resp≠0)):=by
      unfold Yg;obtain⟨w,hw1,hw2⟩:=Ync b.data_.resp;rw[ZZi (by simp),Xk,ZZa,hw1,ZZa,Yq (by omega) (by omega)];by_cases f1:b.data_.beat=(atI b.m b.data_.who).done
      .rw[ZZj (by simpa using f1)]
       by_cases f2:0<=b.data_.left/\b.data_.left<=b.conf.maxWait+2
       .rw[ZZj (by simpa using f2)]
        by_cases f3:0<=b.data_.resp/\b.data_.resp<=3
        .rw[ZZj (hw2.2 f3)]
         by_cases f4:b.data_.second=true
         .rw[ZZi (by simp[f4])]
          by_cases f5:b.data_.resp=0
          .rw[ZZi (by simpa using f5)]
           exact .no λh=>(h.2 f4).2 f5
          .rw[ZZj (by simpa using f5)]
           refine .of ⟨λh=>⟨⟨f1,f2,f3⟩,λ_=>⟨by simpa using h,f5⟩⟩,λh=>by simpa using (h.2 f4).1⟩
         .rw[ZZj (by simpa using f4)]
          exact .yes ⟨⟨f1,f2,f3⟩,λh=>absurd h f4⟩
        .rw[ZZi (λh=>f3 (hw2.1 h))]
         exact .no λh=>f3 h.1.2.2
       .rw[ZZi (by rw[decide_eq_false f2];simp)]
        exact .no λh=>f2 h.1.2.1
      .rw[ZZi (by simpa using f1)]
       exact .no λh=>f1 h.1.1
     have Yz8:Yg b b.data_ true (atI b.m b.data_.who) true=some false:=by unfold Yg;rw[ZZj rfl]
     have hS:Y3 (if b.data_.second=true then Yg b b.data_ true (atI b.m b.data_.who) b.addr.live else Yg b b.data_ true (atI b.m b.data_.who) false)
       ((b.data_.beat=(atI b.m b.data_.who).done/\(0<=b.data_.left/\b.data_.left<=b.conf.maxWait+2)/\(0<=b.data_.resp/\b.data_.resp<=3))/\(b.data_.second=true->b.data_.left=0/\b.data_.resp≠0/\b.addr.live=false)):=by
      by_cases f4:b.data_.second=true
      .rw[ZZj f4]
       by_cases f5:b.addr.live=true
       .rw[f5,Yz8]
        exact .no λh=>by have:=(h.2 f4).2.2;cases this
       .have f6:b.addr.live=false:=by simpa using f5
        rw[f6];exact hJ2.iff ⟨λh=>⟨h.1,λh2=>⟨(h.2 h2).1,(h.2 h2).2,rfl⟩⟩,λh=>⟨h.1,λh2=>⟨(h.2 h2).1,(h.2 h2).2.1⟩⟩⟩
      .rw[ZZi f4]
       exact hJ2.iff ⟨λh=>⟨h.1,λh2=>absurd h2 f4⟩,λh=>⟨h.1,λh2=>absurd h2 f4⟩⟩
     have hT:Y3 (if decide (b.data_.resp=3)=true then if (atI b.m b.data_.who).parted=true then Yg b b.data_ true (atI b.m b.data_.who) true else if decide (b.holder=b.data_.who)=true then Yg b b.data_ true (atI b.m b.data_.who) true else if b.data_.second=true then Yg b b.data_ true (atI b.m b.data_.who) b.addr.live else Yg b b.data_ true (atI b.m b.data_.who) false
       else if b.data_.second=true then Yg b b.data_ true (atI b.m b.data_.who) b.addr.live else Yg b b.data_ true (atI b.m b.data_.who) false)
       ((b.data_.resp=3->(atI b.m b.data_.who).parted=false/\b.data_.who≠b.holder)/\(b.data_.beat=(atI b.m b.data_.who).done/\(0<=b.data_.left/\b.data_.left<=b.conf.maxWait+2)/\(0<=b.data_.resp/\b.data_.resp<=3))/\(b.data_.second=true->b.data_.left=0/\b.data_.resp≠0/\b.addr.live=false)):=by
      by_cases f3:b.data_.resp=3
      .rw[ZZj (by simpa using f3)]
       by_cases f4:(atI b.m b.data_.who).parted=true
       .rw[ZZj f4,Yz8]
        exact .no λh=>by have:=(h.1 f3).1;rw[f4] at this;cases this
       .rw[ZZi f4]
        by_cases f5:b.holder=b.data_.who
        .rw[ZZj (by simpa using f5),Yz8]
         exact .no λh=>(h.1 f3).2 f5.symm
        .rw[ZZi (by simpa using f5)]
         exact hS.iff ⟨λh=>⟨λ_=>⟨by simpa using f4,λh2=>f5 h2.symm⟩,h⟩,λh=>h.2⟩
      .rw[ZZi (by simpa using f3)]
       exact hS.iff ⟨λh=>⟨λh2=>absurd h2 f3,h⟩,λh=>h.2⟩
     unfold Q7;rw[ZZi (by simp),Wf h1 e1,ZZa,ZZi (by simp)];by_cases f2:b.data_.resp=2
     .rw[ZZj (by simpa using f2)]
      by_cases f3:(atI b.m b.data_.who).tries≥b.conf.maxRetry
      .rw[ZZj (by simpa using f3),Yz8]
       exact .no λh=>by have:=h.2.2.1 f2;omega
      .rw[ZZi (by simpa using f3)]
       exact hT.iff ⟨λh=>⟨λ_=>⟨e1,e2,e3⟩,h.2.1,λ_=>by omega,h.1,h.2.2⟩,λh=>⟨h.2.2.2.1,h.2.1,h.2.2.2.2⟩⟩
     .rw[ZZi (by simpa using f2)]
      exact hT.iff ⟨λh=>⟨λ_=>⟨e1,e2,e3⟩,h.2.1,λh2=>absurd h2 f2,h.1,h.2.2⟩,λh=>⟨h.2.2.2.1,h.2.1,h.2.2.2.2⟩⟩
    .rw[decide_eq_true (by omega),hJ1]
     exact .no λh=>e3 (h.1 ha).2.2
   .rw[ZZj (by rw[decide_eq_false e2];rfl),hJ1]
    exact .no λh=>e2 (h.1 ha).2.1
  .rw[ZZj (by simpa using e1),hJ1]
   exact .no λh=>e1 (h.1 ha).1
 .rw[ZZj (by simpa using ha),ZZi ha]
  exact (Y3.of (Yg3 _)).iff ⟨λh=>⟨λh2=>absurd h2 ha,h⟩,λh=>h.2⟩
theorem Ygh (b:Za) (hc:X9 b.conf=true) (h1:b.m.length=b.conf.masters.length) (h3:b.splits.length=b.conf.masters.length) (hm:∀i,Zv b.conf i=true->Zxi b.conf b i):Y3 (Zp5 b) (Zjw b):=by
 have Yo:=Zar hc;have Z7:=Zcj hc;unfold Zp5 Zjw;refine (Zp0 (n:=b.m.length) (by omega) (P:=λk=>(atI b.m (k:Int)).beat > 0->Yl (atI b.m (k:Int))=true->b.holder=(k:Int))
  (Q:=if b.holder=-1 then b.held=0 else Zv b.conf b.holder=true/\Yl (atI b.m b.holder)=true/\atI b.splits b.holder=0/\(0<=b.held/\b.held<=b.conf.lockMost))
  (B:=Zjy b) (λm i=>rfl) (λk hk=>?_) λ_=>?_).iff ?_
 .have hmk:=mas (c:=b.conf) (k:=k) (by omega)
  have hr:=(hm _ hmk).right;unfold Zjy;simp only[ZZj (show decide ((k:Int) < (b.m.length:Int))=true by simpa using hk),Wf h1 hmk,ZZa];by_cases e1:(atI b.m (k:Int)).beat > 0
  .have hq:(atI b.m (k:Int)).queue≠[]:=by
    intro hq;have:=hr.none hq;omega
   have hq2:0 < (atI b.m (k:Int)).queue.length:=Van.2 hq;rw[Xq (xs:=(atI b.m (k:Int)).queue) (by omega) (by omega)];simp only[ZZa,e1,decide_true,if_true];by_cases e2:(atI (atI b.m (k:Int)).queue 0).lock=true
   .by_cases e4:(atI b.m (k:Int)).broken=true
    .exact .inl ⟨λ_ h=>by simp[Yl,e4] at h,λκ=>by simp[e2,e4]⟩
    .by_cases e3:b.holder=(k:Int)
     .exact .inl ⟨λ_ _=>e3,λκ=>by simp[e2,e3,e4]⟩
     .exact .inr ⟨λh=>e3 (h trivial (by simp[Yl,hq,e2,e4])),λκ=>by simp[e2,e3,e4]⟩
   .exact .inl ⟨λ_ h=>by simp[Yl,e2] at h,λκ=>by simp[e2]⟩
  .exact .inl ⟨λh=>absurd h e1,λκ=>by simp[e1]⟩
 .unfold Zjy
  simp only[Int.lt_irrefl,decide_false,ZZf,if_false];by_cases e1:b.holder=-1
  .exact⟨decide (b.held=0),λκ=>by simp[e1],by simp[e1]⟩
  .simp only[e1,decide_false,ZZf,if_false,Zkl h1 Z7,ZZa,Xk]
   have hJt:Zbe b true=some false:=by unfold Zbe;rw[ZZj rfl]
   by_cases e2:Zv b.conf b.holder=true
   .simp only[e2,Va5,ZZf,if_false]
    by_cases e5:0<=b.held/\b.held<=b.conf.lockMost
    .have hJ:Y3 (Zbe b false) (Yl (atI b.m b.holder)=true/\atI b.splits b.holder=0):=by
      unfold Zbe;rw[ZZi (by simp),Wf h1 e2,ZZa];by_cases hq:(atI b.m b.holder).queue=[]
      .rw[ZZi (by simp[hq])]
       exact .no λh=>by simp[Yl,hq] at h
      .have hq2:0 < (atI b.m b.holder).queue.length:=Van.2 hq
       rw[ZZj (by simp;omega),Xq (xs:=(atI b.m b.holder).queue) (by omega) (by omega),ZZa,Zqg h3 e2,ZZa];by_cases e6:(atI (atI b.m b.holder).queue 0).lock=true
       .rw[ZZj e6]
        by_cases e7:(atI b.m b.holder).broken=true
        .rw[ZZi (by simp[e7])]
         exact .no λh=>by simp[Yl,e7] at h
        .rw[ZZj (by simp[e7])]
         exact .of (by simp[Yl,hq,e6,e7])
       .rw[ZZi e6]
        exact .no λh=>by simp[Yl,e6] at h
     obtain⟨r,Zw,Z6⟩:=hJ;refine⟨r,λκ=>by rw[decide_eq_true e5,Va5,Zw],?_⟩;rw[Z6];exact⟨λh=>⟨trivial,h.1,h.2,e5⟩,λh=>⟨h.2.1,h.2.2.1⟩⟩
    .refine⟨false,λκ=>by rw[decide_eq_false e5,Vbd,hJt],by simp[e5]⟩
   .exact⟨false,λκ=>by simp[e2,hJt],by simp[e2]⟩
 .rw[h1,<-Zy4 (P:=λi=>(atI b.m i).beat > 0->Yl (atI b.m i)=true->b.holder=i)]
def doneR (c:Zk) (d:Zm):Prop:=Zv c d.who=true/\Wd d.addr d.size=true/\d.addr < 512/\Xz d.value d.size=true/\(d.resp=0\/d.resp=1)
theorem Yc3 {b:Za} (h1:b.m.length=b.conf.masters.length) (Z7:b.conf.masters.length < 1048577) (d:Zm):(doneR b.conf d/\∀x:Option Bool,((Z5 d.who 0 (Y8 (b.m.length:Int) 1)).bind λr530=>if (!r530)=true then some false else (Zbb d.addr d.size).bind λr538=>if (!r538)=true then some false else (Z5 d.addr 0 511).bind λr544=>if (!r544)=true then some false else (Qr d.size).bind λr552=>(Z5 d.value 0 (Y8 r552 1)).bind λr554=>if (!r554)=true then some false else (Z5 d.resp 0 1).bind λr560=>if (!r560)=true then some false else x)=x)
  \/ (¬doneR b.conf d/\∀x:Option Bool,((Z5 d.who 0 (Y8 (b.m.length:Int) 1)).bind λr530=>if (!r530)=true then some false else (Zbb d.addr d.size).bind λr538=>if (!r538)=true then some false else (Z5 d.addr 0 511).bind λr544=>if (!r544)=true then some false else (Qr d.size).bind λr552=>(Z5 d.value 0 (Y8 r552 1)).bind λr554=>if (!r554)=true then some false else (Z5 d.resp 0 1).bind λr560=>if (!r560)=true then some false else x)=some false):=by
 simp only[Zkl h1 Z7,Zr3,Zbl,Zrb,Xk d.addr,Xk d.resp,ZZa];by_cases e3:Zv b.conf d.who=true
 .by_cases e4:Wd d.addr d.size=true
  .have e0:=(Zb2 e4).2.1
   by_cases e5:d.addr < 512
   .have e5':0<=d.addr/\d.addr<=511:=by omega
    by_cases e6:Xz d.value d.size=true
    .by_cases e7:d.resp=0\/d.resp=1
     .have e7':0<=d.resp/\d.resp<=1:=by omega
      exact .inl ⟨⟨e3,e4,e5,e6,e7⟩,λx=>by simp[e3,e4,e5',e6,e7']⟩
     .have e7':¬(0<=d.resp/\d.resp<=1):=by omega
      exact .inr ⟨λh=>e7 h.2.2.2.2,λx=>by simp only[e3,e4,e5',e6,decide_eq_false e7',Va5,Vbd,ZZf,if_false,if_true,and_self,decide_true]⟩
    .exact .inr ⟨λh=>e6 h.2.2.2.1,λx=>by simp[e3,e4,e5',e6]⟩
   .have e5':¬(0<=d.addr/\d.addr<=511):=by omega
    exact .inr ⟨λh=>e5 h.2.2.1,λx=>by simp only[e3,e4,decide_eq_false e5',Va5,Vbd,ZZf,if_false,if_true]⟩
  .exact .inr ⟨λh=>e4 h.2.1,λx=>by simp[e3,e4]⟩
 .exact .inr ⟨λh=>e3 h.1,λx=>by simp[e3]⟩
theorem Yj0 (b:Za) (hc:X9 b.conf=true) (h1:b.m.length=b.conf.masters.length) (hl:b.log.length < 1048577) (hn:0<=b.now/\b.now<=4000):Y3 (Zst b) (Z5r b):=by
 have Z7:=Zcj hc;unfold Zst;have:=Zp0 (n:=b.log.length) (by omega) (P:=λk=>Z6y b.conf b.now (atI b.log (k:Int))/\(0 < k->Zdl b.log k < (atI b.log (k:Int)).cycle)) (Q:=True)
  (B:=Zlh b) (L:=Zn8 b) (λm i=>rfl) (λk hk=>?_) λ_=>⟨true,λκ=>?_,by simp⟩
 .refine this.iff ?_
  rw[and_true,Yvy];constructor
  .intro h k hk
   refine⟨(h k hk).1,?_⟩;cases k with
   | zero=>have:=(h 0 hk).1.1.1;simp only[Zdl];omega
   | succ k=>exact (h (k+1) hk).2 (by omega)
  .intro h k hk
   exact⟨(h k hk).1,λ_=>(h k hk).2⟩
 .unfold Zlh
  simp only[ZZj (show decide ((k:Int) < (b.log.length:Int))=true by simpa using hk),Xq (xs:=b.log) (i:=(k:Int)) (by omega) (by omega),ZZa,Xk (atI b.log (k:Int)).cycle,Xe (a:=b.now) (b:=1) (by omega) (by omega)];by_cases e1:0<=(atI b.log (k:Int)).cycle/\(atI b.log (k:Int)).cycle < b.now
  .have e1':0<=(atI b.log (k:Int)).cycle/\(atI b.log (k:Int)).cycle<=b.now - 1:=by omega
   simp only[e1',and_self,decide_true,Va5,ZZf,if_false];cases k with
   | zero=>
    simp only[show ¬(((0:Nat):Int) > 0) by omega,decide_false,ZZf,if_false];rcases Yc3 h1 Z7 (atI b.log ((0:Nat):Int)) with⟨h2,h3⟩|⟨h2,h3⟩
    .exact .inl ⟨⟨⟨e1,h2⟩,λh=>by omega⟩,λκ=>h3 _⟩
    .exact .inr ⟨λh=>h2 h.1.2,λκ=>h3 _⟩
   | succ k=>
    have ek:((k+1:Nat):Int) - 1=(k:Int):=by omega
    simp only[show ((k+1:Nat):Int) > 0 by omega,decide_true,if_true,Xe (a:=((k+1:Nat):Int)) (b:=1) (by omega) (by omega),ek,Xq (xs:=b.log) (i:=(k:Int)) (by omega) (by omega),ZZa];by_cases e2:(atI b.log (k:Int)).cycle < (atI b.log ((k+1:Nat):Int)).cycle
    .have e2':¬(atI b.log ((k+1:Nat):Int)).cycle<=(atI b.log (k:Int)).cycle:=by omega
     simp only[e2',decide_false,ZZf,if_false];rcases Yc3 h1 Z7 (atI b.log ((k+1:Nat):Int)) with⟨h2,h3⟩|⟨h2,h3⟩
     .exact .inl ⟨⟨⟨e1,h2⟩,λh=>e2⟩,λκ=>h3 _⟩
     .exact .inr ⟨λh=>h2 h.1.2,λκ=>h3 _⟩
    .have e2':(atI b.log ((k+1:Nat):Int)).cycle<=(atI b.log (k:Int)).cycle:=by omega
     exact .inr ⟨λh=>e2 (h.2 (by omega)),λκ=>by simp only[e2',decide_true,if_true]⟩
  .have e1':¬(0<=(atI b.log (k:Int)).cycle/\(atI b.log (k:Int)).cycle<=b.now - 1):=by omega
   exact .inr ⟨λh=>e1 h.1.1,λκ=>by simp only[decide_eq_false e1',Vbd,if_true]⟩
 .unfold Zlh
  rw[ZZi (by simp)]
theorem Ym5 (b:Za) (hs:b.sm):Y3 (Zno b) (Zif b):=by
 have hJt:W0 b true=some false:=by unfold W0;rw[ZZj rfl]
 unfold Zno;rw[Zp4 _ hs.conf,ZZa];by_cases hc:X9 b.conf=true
 .have Yo:=Zar hc
  rw[hc,ZZi (by simp),Xk,ZZa];by_cases hn:0<=b.now/\b.now<=4000
  .rw[ZZi (by simpa using hn)]
   by_cases h1:b.m.length=b.conf.masters.length
   .rw[ZZi (by simp;omega)]
    by_cases h2:b.buckets.length=b.conf.masters.length
    .rw[ZZi (by simp;omega)]
     by_cases h3:b.splits.length=b.conf.masters.length
     .rw[ZZi (by simp;omega),Z6d _ _ hs.conf,ZZa]
      by_cases h4:Za5 b.arb b.conf=true
      .rw[h4,ZZi (by simp),Xk,ZZa,Xe (by omega) (by omega)]
       by_cases h5:b.last=-1\/Zv b.conf b.last=true
       .have h5':-1<=b.last/\b.last<=(b.conf.masters.length:Int) - 1:=by
         rcases h5 with h5|h5
         .omega
         .simp only[Zv,ZZl] at h5;omega
        rw[ZZi (by simpa using h5'),Z93 _ hs.model,ZZa];by_cases h6:Z08 b.model=true
        .rw[h6,ZZi (by simp)]
         by_cases h7:0<=b.picks
         .rw[ZZi (by simpa using h7)]
          by_cases h8:b.picks<=b.now
          .rw[decide_eq_false (by omega)]
           unfold W0;rw[ZZi (by simp)];have Yz9:=Zp0 (n:=b.conf.masters.length) (by omega) (P:=λk=>Zxi b.conf b (k:Int)/\(atI b.m (k:Int)).beat - (atI b.m (k:Int)).done=K8 b (k:Int))
            (Q:=((b.data_.live=true->Zai b b.data_)/\Kl b)/\((b.addr.live=true->Zai b b.addr)/\K4 b)/\Zjw b/\Z5r b) (B:=Zor b) (L:=Zqi b) (λm i=>rfl) (λk hk=>?_) λhP=>?_
           .refine Yz9.iff ⟨λh=>?_,λh=>?_⟩
            .obtain⟨h9,h10,h11,h12,h13⟩:=h
             have hm:=(Zy4 (c:=b.conf) (P:=λi=>Zxi b.conf b i/\(atI b.m i).beat - (atI b.m i).done=K8 b i)).2 h9;exact⟨hc,hn,h1,h2,h3,λi hi=>(hm i hi).1,h4,h5,Zxa.1 h6,⟨h7,h8⟩,h11.1,h10.1,λi hi=>(hm i hi).2,h11.2,h10.2,h12,h13⟩
            .exact⟨λk hk=>⟨h.mst _ (mas hk),h.fly _ (mas hk)⟩,⟨h.dlive,h.data⟩,⟨h.alive,h.addr⟩,h.held,h.log⟩
           .have hm:=mas (c:=b.conf) (k:=k) hk
            have hms:=hs.mst _ (mem_m h1 hm);have hme:=Zg5 (Zk0 hc hm);unfold Zor;simp only[ZZj (show decide ((k:Int) < (b.conf.masters.length:Int))=true by simpa using hk),Wf h1 hm,Ya9 h2 hm,Zqg h3 hm,Z2j hm,ZZa,Zqn _ ⟨hme.1,hme.2.1⟩,Xk,Y02];unfold Z81;simp only[Zp4 _ hs.conf,hc,if_true,ZZa,Zfz _ hms];by_cases e1:Zw4 (atI b.m (k:Int))=true
            .by_cases e2:(atI b.m (k:Int)).tries<=b.conf.maxRetry
             .by_cases e3:Y5 (atI b.buckets (k:Int)) (atI b.conf.masters (k:Int))=true
              .by_cases e4:0<=atI b.splits (k:Int)/\atI b.splits (k:Int)<=b.conf.maxSplit
               .have hrb:=Je (Jj.1 e1)
                rw[Xe (by omega) (by omega)];by_cases e5:(atI b.m (k:Int)).beat - (atI b.m (k:Int)).done=K8 b (k:Int)
                .refine .inl ⟨⟨⟨Jj.1 e1,e2,e3,e4⟩,e5⟩,λκ=>?_⟩
                 simp[e1,e2,e3,e4,e5]
                .refine .inr ⟨λh=>e5 h.2,λκ=>?_⟩
                 simp[e1,e2,e3,e4,e5]
               .refine .inr ⟨λh=>e4 h.1.split,λκ=>?_⟩
                simp[e1,e2,e3,e4]
              .refine .inr ⟨λh=>e3 h.1.bucket,λκ=>?_⟩
               simp[e1,e2,e3]
             .refine .inr ⟨λh=>e2 h.1.tries,λκ=>?_⟩
              simp[e1,e2]
            .refine .inr ⟨λh=>e1 (Jj.2 h.1.right),λκ=>?_⟩
             simp[e1]
           .have hm:=(Zy4 (c:=b.conf) (P:=λi=>Zxi b.conf b i/\(atI b.m i).beat - (atI b.m i).done=K8 b i)).2 hP
            have hm1:∀i,Zv b.conf i=true->Zxi b.conf b i:=λi hi=>(hm i hi).1;have hT:Y3 ((Zcx b b.data_ true).bind λr903=>if r903=true then (Zcx b b.addr false).bind λr908=>if r908=true then (Zp5 b).bind λr912=>if r912=true then (Zst b).bind λr916=>some r916 else some false else some false else some false)
              (((b.data_.live=true->Zai b b.data_)/\Kl b)/\((b.addr.live=true->Zai b b.addr)/\K4 b)/\Zjw b/\Z5r b):=by
             refine Y3.and (Ykm b hs hc h1 h3 hm1) λ_=>?_;refine Y3.and (Ykg b hs hc h1 h3 hm1) λ_=>?_;refine Y3.and (Ygh b hc h1 h3 hm1) λ_=>?_;obtain⟨r,h9,h10⟩:=Yj0 b hc h1 hs.log hn;rw[h9];exact .of h10
            obtain⟨r,h9,h10⟩:=hT;refine⟨r,λκ=>?_,h10⟩;unfold Zor;rw[ZZi (by simp)];exact h9
          .rw[decide_eq_true (by omega),hJt]
           exact .no λh=>h8 h.picks.2
         .rw[ZZj (by simpa using h7),hJt]
          exact .no λh=>h7 h.picks.1
        .rw[ZZj (by simpa using h6),hJt]
         exact .no λh=>h6 (Zxa.2 h.model)
       .have h5':¬(-1<=b.last/\b.last<=(b.conf.masters.length:Int) - 1):=by
         intro h6;apply h5;simp only[Zv,ZZl];omega
        rw[ZZj (by rw[decide_eq_false h5'];rfl),hJt];exact .no λh=>h5 h.last
      .rw[ZZj (by simpa using h4),hJt]
       exact .no λh=>h4 h.arb
     .rw[ZZj (by simp;omega),hJt]
      exact .no λh=>h3 h.sl
    .rw[ZZj (by simp;omega),hJt]
     exact .no λh=>h2 h.bl
   .rw[ZZj (by simp;omega),hJt]
    exact .no λh=>h1 h.ml
  .rw[ZZj (by rw[decide_eq_false hn];rfl),hJt]
   exact .no λh=>hn h.now
 .rw[ZZj (by simpa using hc),hJt]
  exact .no λh=>hc h.conf
theorem Yeb (b:Za) (hs:b.sm):∃r,Zrj b=some r/\Zno b=some r/\(r=true↔Zif b):=(Ymy b hs).eq (Ym5 b hs)
def Zj5 (l:List Int) (k:Int):Int:=if l=[]\/k < 0 then 0 else atI l (k % (l.length:Int))
def Zqf (c:Zk) (s:Zf) (k:Int):Int:=max 0 (min (Zj5 s.waits k) c.maxWait)
def Zh1 (s:Zf) (k:Int):Int:=if Zj5 s.says k=2\/Zj5 s.says k=3 then Zj5 s.says k else 0
def Zis (c:Zk) (s:Zf) (k:Int):Int:=max 1 (min (max 0 (min (Zj5 s.waits k) 99)+1) c.maxSplit)
def Zl2 (b:Za):Zt:=
 Zt.mk b.now (if b.addr.live then X5 (atI b.m b.addr.who) b.addr.beat else -1) (if b.addr.live then (if b.addr.first then 2 else 3) else 0) (if b.addr.live then b.addr.who else -1)
  (if b.data_.live then X5 (atI b.m b.data_.who) b.data_.beat else -1) (if b.data_.live then b.data_.who else -1) true 0 (-1)
def Zbr (s:Zf) (t:Int):List Zl:=s.posts.filter λp=>decide (p.at_=t)
def Kx (b:Za) (p:Zl):Za:=if Zv b.conf p.who=true then {b with m:=b.m.set p.who.toNat (J5 (atI b.m p.who) p.req)} else b
def Xw (b:Za) (ps:List Zl):Za:=ps.foldl Kx b
def Xh (b:Za):Za:={b with splits:=b.splits.map λn=>max (n - 1) 0,buckets:=List.zipWith Zs2 b.buckets b.conf.masters}
def Ju (b:Za):Za:=if b.holder=-1 then b else {b with held:=min (b.held+1) b.conf.lockMost}
def Yye (b:Za):Za:={b with holder:=-1,held:=0}
def Wh (b:Za) (x:Zh):Za:=
 if x.by_=1 then {b with m:=b.m.set x.who.toNat (Zbs (atI b.m x.who)),buckets:=b.buckets.set x.who.toNat (Z04 (atI b.buckets x.who) (atI b.conf.masters x.who))}
 else if x.by_=2 then {b with m:=b.m.set x.who.toNat (Zbs (atI b.m x.who)),arb:=Z0w b.arb b.conf x.who}
 else {b with m:=b.m.set x.who.toNat (Zbs (atI b.m x.who))}
def Zrg (m:Zb) (k:Int):Int:=if (atI m.queue 0).write then atI (atI m.queue 0).data_ k else 0
def doG (b:Za) (x:Zh):Zi×Int×Int:=Ze9 b.model (atI (atI b.m x.who).queue 0).write (X5 (atI b.m x.who) x.beat) (atI (atI b.m x.who).queue 0).size (Zrg (atI b.m x.who) x.beat)
def Yh8 (b:Za) (x:Zh):Zm:=Zm.mk b.now x.who (atI (atI b.m x.who).queue 0).write (X5 (atI b.m x.who) x.beat) (atI (atI b.m x.who).queue 0).size (if x.resp=0 then (doG b x).2.1 else 0) x.resp
def Zgf (b:Za) (x:Zh):Za:=
 {b with model:=if x.resp=0 then (doG b x).1 else b.model,log:=b.log++[Yh8 b x],m:=b.m.set x.who.toNat (Jb (atI b.m x.who)),holder:=if b.holder=x.who/\(atI b.m x.who).done+1=Z0 (atI b.m x.who) then -1 else b.holder,held:=if b.holder=x.who/\(atI b.m x.who).done+1=Z0 (atI b.m x.who) then 0 else b.held}
def Ya (b:Za) (s:Zf):Za×Bool×Int:=
 if b.data_.live=false then (b,true,0)
 else if b.data_.left > 0 then ({b with data_:={b.data_ with left:=b.data_.left - 1}},false,0)
 else if b.data_.resp≠0/\b.data_.second=false then
  (if b.addr.live then {Wh {b with data_:={b.data_ with second:=true}} b.addr with addr:=Zh.z0} else {b with data_:={b.data_ with second:=true}},false,b.data_.resp)
 else if b.data_.resp=2 then (Wh {b with data_:=Zh.z0,m:=b.m.set b.data_.who.toNat {atI b.m b.data_.who with tries:=(atI b.m b.data_.who).tries+1}} b.data_,true,b.data_.resp)
 else if b.data_.resp=3 then (Wh {b with data_:=Zh.z0,m:=b.m.set b.data_.who.toNat {atI b.m b.data_.who with parted:=true},splits:=b.splits.set b.data_.who.toNat (Zis b.conf s b.picks)} b.data_,true,b.data_.resp)
 else (Zgf {b with data_:=Zh.z0} b.data_,true,b.data_.resp)
def Xd (b:Za):Za:=if b.holder≠-1/\b.held=b.conf.lockMost then Yye {b with m:=b.m.set b.holder.toNat {atI b.m b.holder with broken:=true}} else b
def Zdm (b:Za) (s:Zf) (x:Zh):Int×Int:=
 if (atI b.m x.who).broken=true\/Yx (X5 (atI b.m x.who) x.beat)=0 then (1,0) else
 (if Zh1 s b.picks=2/\Yx (X5 (atI b.m x.who) x.beat)≠3/\(atI b.m x.who).tries < b.conf.maxRetry then 2
  else if Zh1 s b.picks=3/\Yx (X5 (atI b.m x.who) x.beat)=2/\(atI b.m x.who).parted=false/\x.who≠b.holder then 3 else (doG b x).2.2,if Yx (X5 (atI b.m x.who) x.beat)=3 then Zqf b.conf s b.picks+2 else Zqf b.conf s b.picks)
def Q2 (b:Za) (s:Zf):Za:=if b.addr.live then {b with data_:={b.addr with left:=(Zdm b s b.addr).2,resp:=(Zdm b s b.addr).1},addr:=Zh.z0,picks:=b.picks+1} else b
def Kn (b:Za) (i:Int):Bool:=Zp1 (atI b.m i)&&(decide (atI b.splits i=0)&&(decide (b.holder=-1)||decide (b.holder=i)))
def Qw (b:Za):List Bool:=(List.range b.m.length).map λk:Nat=>Kn b (k:Int)
def Zaw (b:Za) (k:Nat):Bool:=Kn b (k:Int)&&(Zf4 (atI b.buckets (k:Int)) (atI b.conf.masters (k:Int))).2
def Zaj (b:Za):Int×Int×Za:=
 if b.holder≠-1/\Kn b b.holder=true then (b.holder,3,b)
 else match (List.range b.m.length).find? (Zaw b) with
  | some k=>((k:Int),1,{b with buckets:=b.buckets.set k (Zf4 (atI b.buckets (k:Int)) (atI b.conf.masters (k:Int))).1})
  | none=>if b.holder≠-1 then (-1,0,b) else ((Zda b.arb b.conf (Qw b)).2,2,{b with arb:=(Zda b.arb b.conf (Qw b)).1})
def Z6l (b:Za) (who by_:Int):Za:=
 {b with addr:=Zh.mk true who (atI b.m who).beat (decide ((atI b.m who).beat=0)||decide (b.last≠who)) by_ 0 0 false,holder:=if Yl (atI b.m who)=true/\b.holder=-1 then who else b.holder,held:=if Yl (atI b.m who)=true/\b.holder=-1 then 0 else b.held,m:=b.m.set who.toNat (X6 (atI b.m who)),last:=who}
def Jd (b:Za):Int×Za:=if (Zaj b).1 < 0 then (-1,(Zaj b).2.2) else ((Zaj b).1,Z6l (Zaj b).2.2 (Zaj b).1 (Zaj b).2.1)
def Ww (b:Za) (s:Zf):Int×Za:=Jd (Q2 (Xd b) s)
def Kw (b:Za) (s:Zf):Za:=Ju (Xh (Xw b (Zbr s b.now)))
def Zd7 (b:Za) (s:Zf):Za×Zt:=
 if (Ya (Kw b s) s).2.1=true then
  ({(Ww (Ya (Kw b s) s).1 s).2 with now:=b.now+1},{Zl2 b with resp:=(Ya (Kw b s) s).2.2,got:=(Ww (Ya (Kw b s) s).1 s).1})
 else ({(Ya (Kw b s) s).1 with now:=b.now+1},{Zl2 b with ready:=false,resp:=(Ya (Kw b s) s).2.2})
structure Yy (n:Int) (b:Za):Prop where
 conf:X9 b.conf=true
 ml:b.m.length=b.conf.masters.length
 bl:b.buckets.length=b.conf.masters.length
 sl:b.splits.length=b.conf.masters.length
 mst:∀i,Zv b.conf i=true->Zxi b.conf b i
 arb:Za5 b.arb b.conf=true
 last:b.last=-1\/Zv b.conf b.last=true
 model:Zeu b.model
 alive:b.addr.live=true->Zai b b.addr
 dlive:b.data_.live=true->Zai b b.data_
 fly:∀i,Zv b.conf i=true->(atI b.m i).beat - (atI b.m i).done=K8 b i
 addr:K4 b
 data:Kl b
 held:Zjw b
 log:(∀d∈b.log,Z6y b.conf n d)/\b.log.Pairwise λx y=>x.cycle < y.cycle
theorem Zif.i {b:Za} (h:Zif b):Yy b.now b:=⟨h.conf,h.ml,h.bl,h.sl,h.mst,h.arb,h.last,h.model,h.alive,h.dlive,h.fly,h.addr,h.data,h.held,h.log⟩
theorem Z83 {α:Type} [Inhabited α] {xs:List α} {w i:Int} (a:α) (h0:0<=w) (h1:w < (xs.length:Int)) (hi:0<=i):atI (xs.set w.toNat a) i=if i=w then a else atI xs i:=by
 split
 .rename_i h;subst h;exact Zp8 a h0 h1
 .rename_i h;exact Ylc a h0 hi (λh2=>h h2.symm)
theorem Wc {c:Zk} {i:Int} (h:Zv c i=true):0<=i/\i < (c.masters.length:Int):=by simpa [Zv] using h
theorem Yy.at_m {n:Int} {b:Za} (h:Yy n b) {w:Int} (hw:Zv b.conf w=true) (x:Zb) {i:Int} (hi:Zv b.conf i=true):atI (b.m.set w.toNat x) i=if i=w then x else atI b.m i:=by
 have h1:=Wc hw;have h2:=Wc hi;exact Z83 x h1.1 (by have:=h.ml;omega) h2.1
theorem Zbk {n:Int} {b:Za} (h:Yy n b) (hl:b.addr.live=true):Zv b.conf b.addr.who=true:=(h.alive hl).1
theorem Qz {n:Int} {b:Za} (h:Yy n b) (hl:b.data_.live=true):Zv b.conf b.data_.who=true:=(h.dlive hl).1
theorem Y1c {m:Zb} {r:Zg} (hq:m.queue≠[]):(J5 m r).queue≠[]/\atI (J5 m r).queue 0=atI m.queue 0:=by
 unfold J5;split
 .exact⟨by simp,Yb6 hq⟩
 .exact⟨hq,rfl⟩
theorem Yk9 (m:Zb) (r:Zg):(J5 m r).beat=m.beat/\(J5 m r).done=m.done/\(J5 m r).tries=m.tries/\(J5 m r).parted=m.parted/\(J5 m r).broken=m.broken:=by
 unfold J5;split<;>exact⟨rfl,rfl,rfl,rfl,rfl⟩
theorem Yxh {m:Zb} {r:Zg} (hq:m.queue≠[]):Yl (J5 m r)=Yl m:=by
 have h:=Y1c (r:=r) hq;have h2:=Yk9 m r;unfold Yl;rw[h.2,h2.2.2.2.2];simp[h.1,hq]
theorem Yrf {m:Zb} (h:Yl m=true):m.queue≠[]:=by
 intro hq;simp[Yl,hq] at h
theorem Yzh {n:Int} {b:Za} {p:Zl} (h:Yy n b):Yy n (Kx b p):=by
 unfold Kx;split
 .rename_i hw
  have ha:=λ{i} hi=>h.at_m hw (J5 (atI b.m p.who) p.req) (i:=i) hi;have hs:=Yk9 (atI b.m p.who) p.req;have hbd:∀i,Zv b.conf i=true->(atI (b.m.set p.who.toNat (J5 (atI b.m p.who) p.req)) i).beat=(atI b.m i).beat/\(atI (b.m.set p.who.toNat (J5 (atI b.m p.who) p.req)) i).done=(atI b.m i).done/\(atI (b.m.set p.who.toNat (J5 (atI b.m p.who) p.req)) i).tries=(atI b.m i).tries/\(atI (b.m.set p.who.toNat (J5 (atI b.m p.who) p.req)) i).parted=(atI b.m i).parted:=by
   intro i hi;rw[ha hi];split
   .rename_i e;subst e;exact⟨hs.1,hs.2.1,hs.2.2.1,hs.2.2.2.1⟩
   .exact⟨rfl,rfl,rfl,rfl⟩
  have hlk:∀i,Zv b.conf i=true->(atI b.m i).queue≠[]->Yl (atI (b.m.set p.who.toNat (J5 (atI b.m p.who) p.req)) i)=Yl (atI b.m i):=by
   intro i hi hq;rw[ha hi];split
   .rename_i e;subst e;exact Yxh hq
   .rfl
  refine⟨h.conf,by simp[h.ml],h.bl,h.sl,λi hi=>?_,h.arb,h.last,h.model,h.alive,h.dlive,λi hi=>?_,?_,?_,?_,h.log⟩
  .have hm:=h.mst i hi
   refine⟨?_,by have:=(hbd i hi).2.2.1;simp only at this ⊢;rw[this];exact hm.tries,hm.bucket,hm.split⟩;show Yt (atI (b.m.set p.who.toNat (J5 (atI b.m p.who) p.req)) i);rw[ha hi];split
   .exact Yw3 (h.mst _ hw).right
   .exact hm.right
  .show (atI (b.m.set p.who.toNat (J5 (atI b.m p.who) p.req)) i).beat - (atI (b.m.set p.who.toNat (J5 (atI b.m p.who) p.req)) i).done=K8 b i
   rw[(hbd i hi).1,(hbd i hi).2.1];exact h.fly i hi
  .have:=h.addr
   unfold K4 at this ⊢;simp only;by_cases hl:b.addr.live=true
   .rw[ZZj hl] at this ⊢
    rw[(hbd _ (Zbk h hl)).1];exact this
   .rw[ZZi hl] at this ⊢;exact this
  .have:=h.data
   unfold Kl at this ⊢;simp only;by_cases hl:b.data_.live=true
   .rw[ZZj hl] at this ⊢
    have e:=hbd _ (Qz h hl);rw[e.2.1,e.2.2.1,e.2.2.2];exact this
   .rw[ZZi hl] at this ⊢;exact this
  .obtain⟨h1,h2⟩:=h.held
   refine⟨λi hi hb hk=>?_,?_⟩
   .simp only at hb hk
    have hi2:Zv b.conf i=true:=hi;rw[(hbd i hi2).1] at hb;have hq:(atI b.m i).queue≠[]:=by
     intro hq;have:=(h.mst i hi2).right.none hq;omega
    rw[hlk i hi2 hq] at hk;exact h1 i hi2 hb hk
   .simp only
    split
    .rename_i e;rw[ZZj e] at h2;exact h2
    .rename_i e
     rw[ZZi e] at h2;exact⟨h2.1,by rw[hlk _ h2.1 (Yrf h2.2.1)];exact h2.2.1,h2.2.2⟩
 .exact h
theorem Zt9 {n:Int} {b:Za} (h:Yy n b) (ps:List Zl):Yy n (Xw b ps):=by
 induction ps generalizing b with
 | nil=>exact h
 | cons p ps ih=>exact ih (Yzh h)
theorem Yn7 (b:Za) (p:Zl):(Kx b p).conf=b.conf/\(Kx b p).now=b.now/\(Kx b p).picks=b.picks/\(Kx b p).log=b.log/\(Kx b p).model=b.model/\(Kx b p).holder=b.holder/\(Kx b p).held=b.held/\(Kx b p).addr=b.addr/\(Kx b p).data_=b.data_/\(Kx b p).splits=b.splits/\(Kx b p).buckets=b.buckets/\(Kx b p).arb=b.arb/\(Kx b p).last=b.last:=by
 unfold Kx;split<;>exact⟨rfl,rfl,rfl,rfl,rfl,rfl,rfl,rfl,rfl,rfl,rfl,rfl,rfl⟩
theorem Zny (b:Za) (ps:List Zl):(Xw b ps).conf=b.conf/\(Xw b ps).now=b.now/\(Xw b ps).picks=b.picks/\(Xw b ps).log=b.log/\(Xw b ps).model=b.model/\(Xw b ps).holder=b.holder/\(Xw b ps).held=b.held/\(Xw b ps).addr=b.addr/\(Xw b ps).data_=b.data_/\(Xw b ps).splits=b.splits/\(Xw b ps).buckets=b.buckets/\(Xw b ps).arb=b.arb/\(Xw b ps).last=b.last:=by
 induction ps generalizing b with
 | nil=>exact⟨rfl,rfl,rfl,rfl,rfl,rfl,rfl,rfl,rfl,rfl,rfl,rfl,rfl⟩
 | cons p ps ih=>
  have h1:=ih (Kx b p);have h2:=Yn7 b p;simp only[h2] at h1;exact h1
theorem at_map {α β:Type} [Inhabited α] [Inhabited β] (f:α->β) {xs:List α} {i:Int} (h0:0<=i) (h1:i < (xs.length:Int)):atI (xs.map f) i=f (atI xs i):=by
 obtain⟨k,rfl⟩:∃k:Nat,i=k:=⟨i.toNat,by omega⟩;have hk:k < xs.length:=by omega
 rw[Qk hk,Qk (by simpa using hk)];simp
theorem at_zip {α β γ:Type} [Inhabited α] [Inhabited β] [Inhabited γ] (f:α->β->γ) {xs:List α} {ys:List β} {i:Int} (h0:0<=i) (h1:i < (xs.length:Int)) (h2:i < (ys.length:Int)):atI (List.zipWith f xs ys) i=f (atI xs i) (atI ys i):=by
 obtain⟨k,rfl⟩:∃k:Nat,i=k:=⟨i.toNat,by omega⟩;have hk:k < xs.length:=by omega
 have hk2:k < ys.length:=by omega
 rw[Qk hk,Qk hk2,Qk (by simp;omega)];simp
theorem Z56 {n:Int} {b:Za} (h:Yy n b):Yy n (Xh b):=by
 have hsp:∀i,Zv b.conf i=true->atI (b.splits.map λn=>max (n - 1) 0) i=max (atI b.splits i - 1) 0:=λi hi=>by
  have:=Wc hi;exact at_map _ this.1 (by have:=h.sl;omega)
 have hbu:∀i,Zv b.conf i=true->atI (List.zipWith Zs2 b.buckets b.conf.masters) i=Zs2 (atI b.buckets i) (atI b.conf.masters i):=λi hi=>by
  have:=Wc hi;exact at_zip _ this.1 (by have:=h.bl;omega) this.2
 have h0:∀i,Zv b.conf i=true->atI b.splits i=0->atI (b.splits.map λn=>max (n - 1) 0) i=0:=λi hi e=>by rw[hsp i hi,e];rfl
 refine⟨h.conf,h.ml,by simp[Xh,h.bl],by simp[Xh,h.sl],λi hi=>?_,h.arb,h.last,h.model,λhl=>?_,λhl=>?_,h.fly,h.addr,h.data,?_,h.log⟩
 .have hm:=h.mst i hi
  refine⟨hm.right,hm.tries,?_,?_⟩
  .show Y5 (atI (List.zipWith Zs2 b.buckets b.conf.masters) i) _=true
   rw[hbu i hi];exact Y57 hm.bucket (Zk0 h.conf hi)
  .show 0<=atI (b.splits.map λn=>max (n - 1) 0) i/\_
   have:=hm.split;have hx:=(Ql h.conf).2.2.2;show 0<=atI (b.splits.map λn=>max (n - 1) 0) i/\atI (b.splits.map λn=>max (n - 1) 0) i<=b.conf.maxSplit;rw[hsp i hi];omega
 .obtain⟨h1,h2,h3⟩:=h.alive hl
  exact⟨h1,h2,h0 _ h1 h3⟩
 .obtain⟨h1,h2,h3⟩:=h.dlive hl
  exact⟨h1,h2,h0 _ h1 h3⟩
 .obtain⟨h1,h2⟩:=h.held
  refine⟨h1,?_⟩;show if b.holder=-1 then b.held=0 else _
  split
  .rename_i e;rw[ZZj e] at h2;exact h2
  .rename_i e
   rw[ZZi e] at h2;exact⟨h2.1,h2.2.1,h0 _ h2.1 h2.2.2.1,h2.2.2.2⟩
theorem Yxb {n:Int} {b:Za} (h:Yy n b):Yy n (Ju b):=by
 unfold Ju;split
 .exact h
 .rename_i e
  refine⟨h.conf,h.ml,h.bl,h.sl,λi hi=>?_,h.arb,h.last,h.model,h.alive,h.dlive,h.fly,h.addr,h.data,?_,h.log⟩
  .have hm:=h.mst i hi;exact⟨hm.right,hm.tries,hm.bucket,hm.split⟩
  .obtain⟨h1,h2⟩:=h.held
   refine⟨h1,?_⟩;rw[ZZi e] at h2;show if b.holder=-1 then _ else _
   rw[ZZi e];have hl:=(Ql h.conf).2.2.1;refine⟨h2.1,h2.2.1,h2.2.2.1,?_⟩;have:=h2.2.2.2;show 0<=min (b.held+1) b.conf.lockMost/\min (b.held+1) b.conf.lockMost<=b.conf.lockMost;omega
theorem Yla {b b':Za} (h:Zjw b) (hc:b'.conf=b.conf) (hh:b'.holder=b.holder) (hd:b'.held=b.held)
  (hm:∀i,Zv b.conf i=true->Yl (atI b'.m i)=Yl (atI b.m i)/\((atI b'.m i).beat > 0->(atI b.m i).beat > 0)) (hs:b.holder≠-1->atI b.splits b.holder=0->atI b'.splits b.holder=0):Zjw b':=by
 obtain⟨h1,h2⟩:=h;unfold Zjw;rw[hc,hh,hd];refine⟨λi hi hb hk=>h1 i hi ((hm i hi).2 hb) (by rw[<-(hm i hi).1];exact hk),?_⟩;split
 .rename_i e;rw[ZZj e] at h2;exact h2
 .rename_i e
  rw[ZZi e] at h2;exact⟨h2.1,by rw[(hm _ h2.1).1];exact h2.2.1,hs e h2.2.2.1,h2.2.2.2⟩
theorem Yk8 (m:Zb):(Zbs m).queue=m.queue/\(Zbs m).done=m.done/\(Zbs m).tries=m.tries/\(Zbs m).parted=m.parted/\(Zbs m).broken=m.broken:=by
 unfold Zbs;split<;>exact⟨rfl,rfl,rfl,rfl,rfl⟩
theorem Ztc {m m':Zb} (h1:m'.queue=m.queue) (h2:m'.broken=m.broken):Yl m'=Yl m:=by
 unfold Yl;rw[h1,h2]
structure Y50 (b r:Za) (x:Zh):Prop where
 conf:r.conf=b.conf
 m:r.m=b.m.set x.who.toNat (Zbs (atI b.m x.who))
 bl:r.buckets.length=b.conf.masters.length
 bk:∀i,Zv b.conf i=true->Y5 (atI r.buckets i) (atI b.conf.masters i)=true
 arb:Za5 r.arb b.conf=true
 splits:r.splits=b.splits
 holder:r.holder=b.holder
 held:r.held=b.held
 addr:r.addr=b.addr
 data:r.data_=b.data_
 model:r.model=b.model
 log:r.log=b.log
 last:r.last=b.last
 now:r.now=b.now
 picks:r.picks=b.picks
theorem Z8p {b:Za} {x:Zh} (hc:X9 b.conf=true) (hw:Zv b.conf x.who=true) (hbl:b.buckets.length=b.conf.masters.length) (hbk:∀i,Zv b.conf i=true->Y5 (atI b.buckets i) (atI b.conf.masters i)=true) (har:Za5 b.arb b.conf=true):Y50 b (Wh b x) x:=by
 have hb:=Wc hw;unfold Wh;split
 .refine⟨rfl,rfl,by simp[hbl],λi hi=>?_,har,rfl,rfl,rfl,rfl,rfl,rfl,rfl,rfl,rfl,rfl⟩
  show Y5 (atI (b.buckets.set x.who.toNat _) i) _=true;rw[Z83 _ hb.1 (by omega) (Wc hi).1];split
  .rename_i e;subst e;exact Y4b (hbk _ hi) (Zk0 hc hi)
  .exact hbk i hi
 .split
  .exact⟨rfl,rfl,hbl,hbk,Y4z _ har,rfl,rfl,rfl,rfl,rfl,rfl,rfl,rfl,rfl,rfl⟩
  .exact⟨rfl,rfl,hbl,hbk,har,rfl,rfl,rfl,rfl,rfl,rfl,rfl,rfl,rfl,rfl⟩
theorem Yy.mono {n:Int} {b:Za} (h:Yy n b):Yy (n+1) b:=
 ⟨h.conf,h.ml,h.bl,h.sl,h.mst,h.arb,h.last,h.model,h.alive,h.dlive,h.fly,h.addr,h.data,h.held,λd hd=>by have:=h.log.1 d hd;exact⟨⟨this.1.1,by have:=this.1.2;omega⟩,this.2⟩,h.log.2⟩
theorem Yv5 {n:Int} {b:Za} (h:Yy n b) (hl:b.addr.live=true):(atI b.m b.addr.who).beat - (atI b.m b.addr.who).done≥1:=by
 rw[h.fly _ (Zbk h hl)];unfold K8;rw[ZZj ⟨hl,rfl⟩];split<;>omega
theorem Zu1 {n:Int} {b:Za} (h:Yy n b) (hl:b.data_.live=true):(atI b.m b.data_.who).beat - (atI b.m b.data_.who).done≥1:=by
 rw[h.fly _ (Qz h hl)];unfold K8;rw[ZZj (⟨hl,rfl⟩:b.data_.live=true/\b.data_.who=b.data_.who)];split<;>omega
theorem Yzi {n:Int} {b:Za} (h:Yy n b) (hd:b.data_.live=true) (hl:b.data_.left > 0):Yy n {b with data_:={b.data_ with left:=b.data_.left - 1}}:=by
 refine⟨h.conf,h.ml,h.bl,h.sl,λi hi=>?_,h.arb,h.last,h.model,h.alive,λ_=>h.dlive hd,λi hi=>?_,h.addr,?_,h.held,h.log⟩
 .have hm:=h.mst i hi;exact⟨hm.right,hm.tries,hm.bucket,hm.split⟩
 .have:=h.fly i hi
  unfold K8 at this ⊢;exact this
 .have:=h.data
  unfold Kl at this ⊢;rw[ZZj hd] at this;simp only;rw[ZZj hd];refine⟨⟨this.1.1,by have:=this.1.2.1;omega,this.1.2.2⟩,this.2.1,this.2.2.1,λhs=>?_⟩;have:=(this.2.2.2 hs).1;omega
theorem Yya {n:Int} {b:Za} (h:Yy n b) (hd:b.data_.live=true) (hl:b.data_.left=0) (hr:b.data_.resp≠0):
  Yy n (if b.addr.live then {Wh {b with data_:={b.data_ with second:=true}} b.addr with addr:=Zh.z0} else {b with data_:={b.data_ with second:=true}}):=by
 have Za6:=h.data;unfold Kl at Za6;rw[ZZj hd] at Za6;by_cases ha:b.addr.live=true
 .rw[ZZj ha]
  have hw:=Zbk h ha;have hb:=Wc hw;have hf:=Z8p (b:={b with data_:={b.data_ with second:=true}}) (x:=b.addr) h.conf hw h.bl (λi hi=>(h.mst i hi).bucket) h.arb;generalize Wh {b with data_:={b.data_ with second:=true}} b.addr=r at hf;have hat:∀i,Zv b.conf i=true->atI r.m i=if i=b.addr.who then Zbs (atI b.m b.addr.who) else atI b.m i:=λi hi=>by
   rw[hf.m];exact h.at_m hw _ hi
  have hs:=Yk8 (atI b.m b.addr.who);have hsm:∀i,Zv b.conf i=true->(atI r.m i).queue=(atI b.m i).queue/\(atI r.m i).done=(atI b.m i).done/\(atI r.m i).tries=(atI b.m i).tries/\(atI r.m i).parted=(atI b.m i).parted/\(atI r.m i).broken=(atI b.m i).broken:=λi hi=>by
   rw[hat i hi];split
   .rename_i e;subst e;exact hs
   .exact⟨rfl,rfl,rfl,rfl,rfl⟩
  have hp:=Yv5 h ha;have hbt:(Zbs (atI b.m b.addr.who)).beat=(atI b.m b.addr.who).beat - 1:=by
   unfold Zbs;rw[ZZi (by omega)]
  refine⟨by rw[show ({r with addr:=Zh.z0}:Za).conf=r.conf from rfl,hf.conf];exact h.conf,?_,?_,?_,λi hi=>?_,?_,?_,?_,λhx=>?_,λhx=>?_,λi hi=>?_,?_,?_,?_,?_⟩
  .show r.m.length=r.conf.masters.length
   rw[hf.m,hf.conf];simp[h.ml]
  .show r.buckets.length=r.conf.masters.length
   rw[hf.bl,hf.conf]
  .show r.splits.length=r.conf.masters.length
   rw[hf.splits,hf.conf];exact h.sl
  .have Ym:Zv b.conf i=true:=by rw[<-show r.conf=b.conf from hf.conf];exact hi
   have hm:=h.mst i Ym;refine⟨?_,?_,?_,?_⟩
   .show Yt (atI r.m i)
    rw[hat i Ym];split
    .exact Ygd (h.mst _ hw).right
    .exact hm.right
   .show (atI r.m i).tries<=r.conf.maxRetry
    rw[(hsm i Ym).2.2.1,hf.conf];exact hm.tries
   .show Y5 (atI r.buckets i) (atI r.conf.masters i)=true
    rw[hf.conf];exact hf.bk i Ym
   .show 0<=atI r.splits i/\atI r.splits i<=r.conf.maxSplit
    rw[hf.splits,hf.conf];exact hm.split
  .show Za5 r.arb r.conf=true
   rw[hf.conf];exact hf.arb
  .show r.last=-1\/Zv r.conf r.last=true
   rw[hf.last,hf.conf];exact h.last
  .show Zeu r.model
   rw[hf.model];exact h.model
  .cases hx
  .have hx':r.data_.live=true:=hx
   obtain⟨h1,h2,h3⟩:=h.dlive hd;refine⟨?_,?_,?_⟩
   .show Zv r.conf r.data_.who=true
    rw[hf.conf,hf.data];exact h1
   .show 1<=r.data_.by_/\r.data_.by_<=3
    rw[hf.data];exact h2
   .show atI r.splits r.data_.who=0
    rw[hf.splits,hf.data];exact h3
  .have Ym:Zv b.conf i=true:=by rw[<-show r.conf=b.conf from hf.conf];exact hi
   show (atI r.m i).beat - (atI r.m i).done=K8 {r with addr:=Zh.z0} i;have Kg:=h.fly i Ym;unfold K8 at Kg ⊢;simp only[hf.data];rw[(hsm i Ym).2.1,hat i Ym];by_cases e:i=b.addr.who
   .subst e
    rw[ZZj rfl,hbt];rw[ZZj ⟨ha,rfl⟩] at Kg;simp only[ZZf,false_and,if_false];omega
   .rw[ZZi e]
    rw[ZZi (λhx=>e hx.2.symm)] at Kg;simp only[ZZf,false_and,if_false];exact Kg
  .unfold K4
   simp
  .unfold Kl
   show if r.data_.live=true then _ else _
   simp only[hf.data,hf.conf,hf.holder];rw[ZZj hd];have e:=hsm _ (Qz h hd);rw[e.2.1,e.2.2.1,e.2.2.2.1];exact⟨Za6.1,Za6.2.1,Za6.2.2.1,λ_=>⟨hl,hr,trivial⟩⟩
  .refine Yla (b:=b) h.held hf.conf hf.holder hf.held (λi hi=>⟨Ztc (hsm i hi).1 (hsm i hi).2.2.2.2,λhx=>?_⟩) (λ_ hx=>by show atI r.splits b.holder=0;rw[hf.splits];exact hx)
   show (atI b.m i).beat > 0;have hx':(atI r.m i).beat > 0:=hx;rw[hat i hi] at hx';split at hx'
   .rename_i e;subst e;rw[hbt] at hx';omega
   .exact hx'
  .show (∀d∈r.log,Z6y r.conf n d)/\r.log.Pairwise _
   rw[hf.log,hf.conf];exact h.log
 .rw[ZZi ha]
  refine⟨h.conf,h.ml,h.bl,h.sl,λi hi=>?_,h.arb,h.last,h.model,h.alive,λ_=>h.dlive hd,λi hi=>?_,h.addr,?_,h.held,h.log⟩
  .have hm:=h.mst i hi;exact⟨hm.right,hm.tries,hm.bucket,hm.split⟩
  .have:=h.fly i hi
   unfold K8 at this ⊢;exact this
  .unfold Kl
   simp only;rw[ZZj hd];exact⟨Za6.1,Za6.2.1,Za6.2.2.1,λ_=>⟨hl,hr,by simpa using ha⟩⟩
theorem Yht {n:Int} {b:Za} (h:Yy n b) (hd:b.data_.live=true) (ha:b.addr.live=false) (x:Zb) (sp:List Int) (hq:x.queue=(atI b.m b.data_.who).queue) (hbe:x.beat=(atI b.m b.data_.who).beat) (hdo:x.done=(atI b.m b.data_.who).done) (hbr:x.broken=(atI b.m b.data_.who).broken)
  (ht:0<=x.tries/\x.tries<=b.conf.maxRetry) (hsl:sp.length=b.splits.length) (hsp:∀i,Zv b.conf i=true->0<=atI sp i/\atI sp i<=b.conf.maxSplit) (hsh:b.holder≠-1->atI b.splits b.holder=0->atI sp b.holder=0):
  Yy n (Wh {b with data_:=Zh.z0,m:=b.m.set b.data_.who.toNat x,splits:=sp} b.data_):=by
 have hw:=Qz h hd;have hb:=Wc hw;have hf:=Z8p (b:={b with data_:=Zh.z0,m:=b.m.set b.data_.who.toNat x,splits:=sp}) (x:=b.data_) h.conf hw h.bl (λi hi=>(h.mst i hi).bucket) h.arb;generalize Wh {b with data_:=Zh.z0,m:=b.m.set b.data_.who.toNat x,splits:=sp} b.data_=r at hf;have hmw:=(h.mst _ hw).right;have hp:=Zu1 h hd;have Yh:(atI b.m b.data_.who).queue≠[]:=Zha hmw (by omega);have hxr:Yt x:=by
  have h2:=hmw.some Yh;refine⟨by rw[hq];exact hmw.len,ht.1,by rw[hq];exact hmw.reqs,λhx=>absurd (by rw[<-hq];exact hx) Yh,λ_=>?_⟩;have:Z0 x=Z0 (atI b.m b.data_.who):=by unfold Z0;rw[hq]
  rw[this,hbe,hdo];exact h2
 have hxx:atI (b.m.set b.data_.who.toNat x) b.data_.who=x:=Zp8 x hb.1 (by have:=h.ml;omega);have hat:∀i,Zv b.conf i=true->atI r.m i=if i=b.data_.who then Zbs x else atI b.m i:=λi hi=>by
  have Ym:=Wc hi;rw[hf.m];show atI ((b.m.set b.data_.who.toNat x).set b.data_.who.toNat (Zbs (atI (b.m.set b.data_.who.toNat x) b.data_.who))) i=_;rw[hxx,Vej];exact h.at_m hw _ hi
 have hs:=Yk8 x;have hbt:(Zbs x).beat=(atI b.m b.data_.who).beat - 1:=by
  unfold Zbs;rw[ZZi (by rw[hbe,hdo];omega)];simp only[hbe]
 have hbz:Zh.z0.live=false:=rfl;refine⟨by rw[hf.conf];exact h.conf,?_,?_,?_,λi hi=>?_,?_,?_,?_,λhx=>?_,λhx=>?_,λi hi=>?_,?_,?_,?_,?_⟩
 .rw[hf.m,hf.conf];simp[h.ml]
 .rw[hf.bl,hf.conf]
 .rw[hf.splits,hf.conf];show sp.length=_;rw[hsl];exact h.sl
 .have Ym:Zv b.conf i=true:=by rw[<-show r.conf=b.conf from hf.conf];exact hi
  have hm:=h.mst i Ym;refine⟨?_,?_,?_,?_⟩
  .rw[hat i Ym]
   split
   .exact Ygd hxr
   .exact hm.right
  .rw[hat i Ym,hf.conf]
   split
   .rw[hs.2.2.1];exact ht.2
   .exact hm.tries
  .rw[hf.conf];exact hf.bk i Ym
  .rw[hf.splits,hf.conf];exact hsp i Ym
 .rw[hf.conf];exact hf.arb
 .rw[hf.last,hf.conf];exact h.last
 .rw[hf.model];exact h.model
 .rw[hf.addr] at hx;rw[show ({b with data_:=Zh.z0,m:=b.m.set b.data_.who.toNat x,splits:=sp}:Za).addr=b.addr from rfl,ha] at hx;cases hx
 .rw[hf.data] at hx;cases hx
 .have Ym:Zv b.conf i=true:=by rw[<-show r.conf=b.conf from hf.conf];exact hi
  have Kg:=h.fly i Ym;unfold K8 at Kg ⊢;rw[hf.data,hf.addr,hat i Ym];show _=(if b.addr.live=true/\b.addr.who=i then (1:Int) else 0)+(if Zh.z0.live=true/\Zh.z0.who=i then 1 else 0);rw[ha] at Kg ⊢;simp only[ZZf,false_and,if_false] at Kg ⊢;by_cases e:i=b.data_.who
  .subst e
   rw[ZZj rfl,hbt,hs.2.1,hdo];rw[ZZj (⟨hd,rfl⟩:b.data_.live=true/\b.data_.who=b.data_.who)] at Kg;omega
  .rw[ZZi e]
   rw[ZZi (λhx=>e hx.2.symm)] at Kg;exact Kg
 .have:=h.addr
  unfold K4 at this ⊢;rw[hf.addr];show if b.addr.live=true then _ else _
  rw[ha] at this ⊢;exact this
 .unfold Kl
  rw[hf.data];show if Zh.z0.live=true then _ else _
  rw[ZZi (by simp)]
 .refine Yla (b:=b) h.held hf.conf hf.holder hf.held (λi hi=>?_) (λh1 h2=>by rw[hf.splits];exact hsh h1 h2)
  rw[hat i hi];split
  .rename_i e;subst e
   refine⟨Ztc (by rw[hs.1,hq]) (by rw[hs.2.2.2.2,hbr]),λhx=>?_⟩;rw[hbt] at hx;omega
  .exact⟨rfl,id⟩
 .rw[hf.log,hf.conf];exact h.log
theorem Z9e {m:Zb} (h:Yt m) (hp:m.beat - m.done≥1):(m.done+1=Z0 m->m.beat - m.done=1/\(Jb m).queue=m.queue.tail/\(Jb m).beat=0/\(Jb m).done=0/\(Jb m).tries=0)/\
  (m.done+1≠Z0 m->(Jb m).queue=m.queue/\(Jb m).beat=m.beat/\(Jb m).done=m.done+1/\(Jb m).tries=0/\(Jb m).broken=m.broken/\(Jb m).parted=false):=by
 have h1:=h.some (Zha h (by omega));unfold Jb;constructor
 .intro e
  rw[ZZi (by omega),ZZj e];exact⟨by omega,rfl,rfl,rfl,rfl⟩
 .intro e
  rw[ZZi (by omega),ZZi e];exact⟨rfl,rfl,rfl,rfl,rfl,rfl⟩
theorem Ylt {m:Zb} {k:Int} (h:Yt m) (h0:0<=k) (h1:k < Z0 m) (hw:(atI m.queue 0).write=true):0<=k/\k < ((atI m.queue 0).data_.length:Int):=by
 have hq:m.queue≠[]:=by
  intro hq;unfold Z0 at h1;rw[ZZj hq] at h1;omega
 obtain⟨h2,h3,h4⟩:=Zvq h hq;have h5:=(Zi5 h2).2.1;rw[ZZj hw] at h5;omega
theorem Z7z {n:Int} {b:Za} (h:Yy n b) (hd:b.data_.live=true):0<=b.data_.beat/\b.data_.beat < Z0 (atI b.m b.data_.who):=by
 have hw:=Qz h hd;have hp:=Zu1 h hd;have hr:=(h.mst _ hw).right;have h1:=hr.some (Zha hr (by omega));have h2:=h.data;unfold Kl at h2;rw[ZZj hd] at h2;rw[h2.1.1];omega
theorem Z9h {n:Int} {b:Za} (h:Yy n b) (hl:b.addr.live=true):0<=b.addr.beat/\b.addr.beat < Z0 (atI b.m b.addr.who):=by
 have hw:=Zbk h hl;have hp:=Yv5 h hl;have hr:=(h.mst _ hw).right;have h1:=hr.some (Zha hr (by omega));have h2:=h.addr;unfold K4 at h2;rw[ZZj hl] at h2;rw[h2.1];omega
theorem Yu4 {b:Za} (hn:0<=b.now) (h:Yy b.now b) (hd:b.data_.live=true) (hr:b.data_.resp=0\/b.data_.resp=1) (Z34:b.data_.resp≠0->b.addr.live=false):Yy (b.now+1) (Zgf {b with data_:=Zh.z0} b.data_):=by
 have hw:=Qz h hd;have hb:=Wc hw;have hmw:=(h.mst _ hw).right;have hp:=Zu1 h hd;have Yh:(atI b.m b.data_.who).queue≠[]:=Zha hmw (by omega);have hbt:=Z7z h hd;have had:=Yo9 hmw hbt.1 hbt.2;have Za6:=h.data;unfold Kl at Za6;rw[ZZj hd] at Za6;have Y0a:=Yf5 (w:=(atI (atI b.m b.data_.who).queue 0).write) (v:=Zrg (atI b.m b.data_.who) b.data_.beat) h.model had.2.1;have hef:=Z9e hmw hp;have hat:∀i,Zv b.conf i=true->atI (b.m.set b.data_.who.toNat (Jb (atI b.m b.data_.who))) i=if i=b.data_.who then Jb (atI b.m b.data_.who) else atI b.m i:=λi hi=>h.at_m hw _ hi
 have Y5p:(atI b.m b.data_.who).done+1=Z0 (atI b.m b.data_.who)->b.addr.live=true->b.addr.who≠b.data_.who:=by
  intro e hl e2;have h1:=(hef.1 e).1;have h2:=h.fly _ hw;unfold K8 at h2;rw[ZZj (⟨hl,e2⟩:b.addr.live=true/\b.addr.who=b.data_.who),ZZj (⟨hd,rfl⟩:b.data_.live=true/\b.data_.who=b.data_.who)] at h2;omega
 have hz:Xz 0 (atI (atI b.m b.data_.who).queue 0).size=true:=by
  have h1:=(Zrk _).1 (Zb2 had.2.1).1;generalize (atI (atI b.m b.data_.who).queue 0).size=s at h1;have:s=0\/s=1\/s=2:=by omega
  rcases this with rfl|rfl|rfl<;>decide
 refine⟨h.conf,?_,h.bl,h.sl,λi hi=>?_,h.arb,h.last,?_,h.alive,(λhx=>by cases hx),λi hi=>?_,?_,?_,?_,?_⟩
 .show (b.m.set b.data_.who.toNat (Jb (atI b.m b.data_.who))).length=_
  rw[Vbg];exact h.ml
 .have Ym:Zv b.conf i=true:=hi
  have hm:=h.mst i Ym;refine⟨?_,?_,hm.bucket,hm.split⟩
  .show Yt (atI (b.m.set b.data_.who.toNat (Jb (atI b.m b.data_.who))) i)
   rw[hat i Ym];split
   .exact Y2r hmw
   .exact hm.right
  .show (atI (b.m.set b.data_.who.toNat (Jb (atI b.m b.data_.who))) i).tries<=b.conf.maxRetry
   rw[hat i Ym];split
   .have hl:=(Ql h.conf).1
    by_cases e:(atI b.m b.data_.who).done+1=Z0 (atI b.m b.data_.who)
    .rw[(hef.1 e).2.2.2.2];omega
    .rw[(hef.2 e).2.2.2.1];omega
   .exact hm.tries
 .show Zeu (if b.data_.resp=0 then (doG {b with data_:=Zh.z0} b.data_).1 else b.model)
  split
  .exact Y0a.1
  .exact h.model
 .have Ym:Zv b.conf i=true:=hi
  have Kg:=h.fly i Ym;show (atI (b.m.set b.data_.who.toNat (Jb (atI b.m b.data_.who))) i).beat - (atI (b.m.set b.data_.who.toNat (Jb (atI b.m b.data_.who))) i).done=K8 (Zgf {b with data_:=Zh.z0} b.data_) i;unfold K8 at Kg ⊢;show _=(if b.addr.live=true/\b.addr.who=i then (1:Int) else 0)+(if Zh.z0.live=true/\Zh.z0.who=i then 1 else 0);rw[hat i Ym];simp only[ZZf,false_and,if_false];by_cases e:i=b.data_.who
  .subst e
   rw[ZZj rfl];rw[ZZj (⟨hd,rfl⟩:b.data_.live=true/\b.data_.who=b.data_.who)] at Kg;by_cases e2:(atI b.m b.data_.who).done+1=Z0 (atI b.m b.data_.who)
   .rw[(hef.1 e2).2.2.1,(hef.1 e2).2.2.2.1,ZZi (λhx=>Y5p e2 hx.1 hx.2)]
    rfl
   .rw[(hef.2 e2).2.1,(hef.2 e2).2.2.1]
    omega
  .rw[ZZi e]
   rw[ZZi (λhx:b.data_.live=true/\b.data_.who=i=>e hx.2.symm)] at Kg;omega
 .have hA:=h.addr
  unfold K4 at hA ⊢;show if b.addr.live=true then _ else _
  by_cases hl:b.addr.live=true
  .rw[ZZj hl] at hA ⊢
   show b.addr.beat=(atI (b.m.set b.data_.who.toNat (Jb (atI b.m b.data_.who))) b.addr.who).beat - 1/\_;rw[hat _ (Zbk h hl)];split
   .rename_i e
    have e2:¬(atI b.m b.data_.who).done+1=Z0 (atI b.m b.data_.who):=λe2=>Y5p e2 hl e;rw[(hef.2 e2).2.1,<-e];exact hA
   .exact hA
  .rw[ZZi hl] at hA ⊢;exact hA
 .unfold Kl
  show if Zh.z0.live=true then _ else _
  rw[ZZi (by simp)];rfl
 .obtain⟨h1,h2⟩:=h.held
  show Zjw (Zgf {b with data_:=Zh.z0} b.data_);unfold Zjw;show (∀i,Zv b.conf i=true->(atI (b.m.set b.data_.who.toNat (Jb (atI b.m b.data_.who))) i).beat > 0->Yl (atI (b.m.set b.data_.who.toNat (Jb (atI b.m b.data_.who))) i)=true->(if b.holder=b.data_.who/\(atI b.m b.data_.who).done+1=Z0 (atI b.m b.data_.who) then -1 else b.holder)=i)/\
   (if (if b.holder=b.data_.who/\(atI b.m b.data_.who).done+1=Z0 (atI b.m b.data_.who) then -1 else b.holder)=-1 then (if b.holder=b.data_.who/\(atI b.m b.data_.who).done+1=Z0 (atI b.m b.data_.who) then 0 else b.held)=0 else Zv b.conf (if b.holder=b.data_.who/\(atI b.m b.data_.who).done+1=Z0 (atI b.m b.data_.who) then -1 else b.holder)=true/\Yl (atI (b.m.set b.data_.who.toNat (Jb (atI b.m b.data_.who))) (if b.holder=b.data_.who/\(atI b.m b.data_.who).done+1=Z0 (atI b.m b.data_.who) then -1 else b.holder))=true/\atI b.splits (if b.holder=b.data_.who/\(atI b.m b.data_.who).done+1=Z0 (atI b.m b.data_.who) then -1 else b.holder)=0/\(0<=(if b.holder=b.data_.who/\(atI b.m b.data_.who).done+1=Z0 (atI b.m b.data_.who) then 0 else b.held)/\(if b.holder=b.data_.who/\(atI b.m b.data_.who).done+1=Z0 (atI b.m b.data_.who) then 0 else b.held)<=b.conf.lockMost))
  have Ziy:∀i,Zv b.conf i=true->(atI (b.m.set b.data_.who.toNat (Jb (atI b.m b.data_.who))) i).beat > 0->Yl (atI (b.m.set b.data_.who.toNat (Jb (atI b.m b.data_.who))) i)=true->b.holder=i/\¬(i=b.data_.who/\(atI b.m b.data_.who).done+1=Z0 (atI b.m b.data_.who)):=by
   intro i hi hx hk;rw[hat i hi] at hx hk;by_cases e:i=b.data_.who
   .rw[ZZj e] at hx hk
    by_cases e2:(atI b.m b.data_.who).done+1=Z0 (atI b.m b.data_.who)
    .rw[(hef.1 e2).2.2.1] at hx;omega
    .have e3:=hef.2 e2
     rw[e3.2.1] at hx;rw[Ztc e3.1 e3.2.2.2.2.1] at hk;subst e;exact⟨h1 _ hi hx hk,λhy=>e2 hy.2⟩
   .rw[ZZi e] at hx hk
    exact⟨h1 i hi hx hk,λhy=>e hy.1⟩
  by_cases e:b.holder=b.data_.who/\(atI b.m b.data_.who).done+1=Z0 (atI b.m b.data_.who)
  .simp only[ZZj e,if_true]
   refine⟨λi hi hx hk=>?_,trivial⟩;have:=Ziy i hi hx hk;exact absurd ⟨by rw[<-this.1];exact e.1,e.2⟩ this.2
  .simp only[ZZi e]
   refine⟨λi hi hx hk=>(Ziy i hi hx hk).1,?_⟩;split
   .rename_i e2;rw[ZZj e2] at h2;exact h2
   .rename_i e2
    rw[ZZi e2] at h2;refine⟨h2.1,?_,h2.2.2.1,h2.2.2.2⟩;rw[hat _ h2.1];split
    .rename_i e3
     have e4:¬(atI b.m b.data_.who).done+1=Z0 (atI b.m b.data_.who):=λe4=>e ⟨e3,e4⟩;rw[Ztc (hef.2 e4).1 (hef.2 e4).2.2.2.2.1,<-e3];exact h2.2.1
    .exact h2.2.1
 .show (∀d∈b.log++[Yh8 {b with data_:=Zh.z0} b.data_],Z6y b.conf (b.now+1) d)/\(b.log++[Yh8 {b with data_:=Zh.z0} b.data_]).Pairwise _
  refine⟨λd hx=>?_,?_⟩
  .rcases Vas.1 hx with hx|hx
   .have:=h.log.1 d hx
    exact⟨⟨this.1.1,by have:=this.1.2;omega⟩,this.2⟩
   .rw[List.mem_singleton.1 hx]
    refine⟨⟨hn,by show b.now < b.now+1;omega⟩,hw,had.2.1,had.2.2.2,?_,hr⟩;show Xz (if b.data_.resp=0 then (doG {b with data_:=Zh.z0} b.data_).2.1 else 0) (atI (atI b.m b.data_.who).queue 0).size=true;split
    .exact Y0a.2.1
    .exact hz
  .rw[List.pairwise_append]
   refine⟨h.log.2,List.pairwise_singleton _ _,λx hx y hy=>?_⟩;rw[List.mem_singleton.1 hy];exact (h.log.1 x hx).1.2
theorem Y4u {c:Zk} (h:X9 c=true) (s:Zf) (k:Int):1<=Zis c s k/\Zis c s k<=c.maxSplit:=by
 have:=(Ql h).2.2.2;unfold Zis;omega
theorem Z85 {b:Za} (s:Zf) (hn:0<=b.now) (h:Yy b.now b):Yy (b.now+1) (Ya b s).1/\((Ya b s).2.1=true->(Ya b s).1.data_=Zh.z0):=by
 unfold Ya;by_cases hd:b.data_.live=false
 .rw[ZZj hd]
  refine⟨h.mono,λ_=>?_⟩;have:=h.data;unfold Kl at this;rw[ZZi (by simp[hd])] at this;exact this
 .have hd':b.data_.live=true:=by simpa using hd
  have Za6:=h.data;unfold Kl at Za6;rw[ZZj hd'] at Za6;rw[ZZi hd];by_cases hl:b.data_.left > 0
  .rw[ZZj hl]
   exact⟨(Yzi h hd' hl).mono,λhx=>by cases hx⟩
  .have hl0:b.data_.left=0:=by have:=Za6.1.2.1;omega
   rw[ZZi hl];by_cases h2:b.data_.resp≠0/\b.data_.second=false
   .rw[ZZj h2]
    exact⟨(Yya h hd' hl0 h2.1).mono,λhx=>by cases hx⟩
   .rw[ZZi h2]
    have Z34:b.data_.resp≠0->b.addr.live=false:=λhr=>by
     have:b.data_.second=true:=by
      cases hs:b.data_.second with
      | true=>rfl
      | false=>exact absurd ⟨hr,hs⟩ h2
     exact (Za6.2.2.2 this).2.2
    have hw:=Qz h hd';have hm:=h.mst _ hw;by_cases h3:b.data_.resp=2
    .rw[ZZj h3]
     refine⟨?_,λ_=>?_⟩
     .refine (Yht h hd' (Z34 (by omega)) {atI b.m b.data_.who with tries:=(atI b.m b.data_.who).tries+1} b.splits rfl rfl rfl rfl ⟨?_,?_⟩ rfl (λi hi=>(h.mst i hi).split) λ_ h=>h).mono
      .have:=hm.right.tries;show 0<=(atI b.m b.data_.who).tries+1;omega
      .have:=Za6.2.1 h3;show (atI b.m b.data_.who).tries+1<=_;omega
     .unfold Wh;split
      .rfl
      .split<;>rfl
    .rw[ZZi h3]
     by_cases h4:b.data_.resp=3
     .rw[ZZj h4]
      have hsp:=Y4u h.conf s b.picks;refine⟨?_,λ_=>?_⟩
      .refine (Yht h hd' (Z34 (by omega)) {atI b.m b.data_.who with parted:=true} (b.splits.set b.data_.who.toNat (Zis b.conf s b.picks)) rfl rfl rfl rfl ⟨hm.right.tries,hm.tries⟩ (by simp) (λi hi=>?_) λh5 h6=>?_).mono
       .have hb:=Wc hw
        rw[Z83 _ hb.1 (by have:=h.sl;omega) (Wc hi).1];split
        .omega
        .exact (h.mst i hi).split
       .have hb:=Wc hw
        have hh:Zv b.conf b.holder=true:=by
         have:=h.held.2;rw[ZZi h5] at this;exact this.1
        rw[Z83 _ hb.1 (by have:=h.sl;omega) (Wc hh).1,ZZi (λe=>(Za6.2.2.1 h4).2 e.symm)];exact h6
      .unfold Wh;split
       .rfl
       .split<;>rfl
     .rw[ZZi h4]
      exact⟨Yu4 hn h hd' (by have:=Za6.1.2.2;omega) Z34,λ_=>rfl⟩
theorem Zfa {n:Int} {b:Za} (h:Yy n b) (e:b.holder≠-1):Zv b.conf b.holder=true/\Yl (atI b.m b.holder)=true/\atI b.splits b.holder=0/\(0<=b.held/\b.held<=b.conf.lockMost):=by
 have:=h.held.2;rw[ZZi e] at this;exact this
theorem Yd9 {n:Int} {b:Za} (h:Yy n b):Yy n (Xd b):=by
 unfold Xd;split
 .rename_i hx
  obtain⟨hw,hlk,_,_⟩:=Zfa h hx.1;have hb:=Wc hw;have hat:∀i,Zv b.conf i=true->atI (b.m.set b.holder.toNat {atI b.m b.holder with broken:=true}) i=if i=b.holder then {atI b.m b.holder with broken:=true} else atI b.m i:=λi hi=>h.at_m hw _ hi
  have hsm:∀i,Zv b.conf i=true->(atI (b.m.set b.holder.toNat {atI b.m b.holder with broken:=true}) i).beat=(atI b.m i).beat/\(atI (b.m.set b.holder.toNat {atI b.m b.holder with broken:=true}) i).done=(atI b.m i).done/\(atI (b.m.set b.holder.toNat {atI b.m b.holder with broken:=true}) i).tries=(atI b.m i).tries/\(atI (b.m.set b.holder.toNat {atI b.m b.holder with broken:=true}) i).parted=(atI b.m i).parted:=by
   intro i hi;rw[hat i hi];split
   .rename_i e;subst e;exact⟨rfl,rfl,rfl,rfl⟩
   .exact⟨rfl,rfl,rfl,rfl⟩
  refine⟨h.conf,?_,h.bl,h.sl,λi hi=>?_,h.arb,h.last,h.model,h.alive,h.dlive,λi hi=>?_,?_,?_,?_,h.log⟩
  .show (b.m.set b.holder.toNat _).length=_
   rw[Vbg];exact h.ml
  .have Ym:Zv b.conf i=true:=hi
   have hm:=h.mst i Ym;refine⟨?_,?_,hm.bucket,hm.split⟩
   .show Yt (atI (b.m.set b.holder.toNat {atI b.m b.holder with broken:=true}) i)
    rw[hat i Ym];split
    .have hr:=(h.mst _ hw).right
     exact⟨hr.len,hr.tries,hr.reqs,λhq=>absurd (show (atI b.m b.holder).queue=[] from hq) (Yrf hlk),hr.some⟩
    .exact hm.right
   .show (atI (b.m.set b.holder.toNat {atI b.m b.holder with broken:=true}) i).tries<=b.conf.maxRetry
    rw[(hsm i Ym).2.2.1];exact hm.tries
  .have Ym:Zv b.conf i=true:=hi
   show (atI (b.m.set b.holder.toNat {atI b.m b.holder with broken:=true}) i).beat - (atI (b.m.set b.holder.toNat {atI b.m b.holder with broken:=true}) i).done=K8 b i;rw[(hsm i Ym).1,(hsm i Ym).2.1];exact h.fly i Ym
  .have:=h.addr
   unfold K4 at this ⊢;show if b.addr.live=true then b.addr.beat=(atI (b.m.set b.holder.toNat {atI b.m b.holder with broken:=true}) b.addr.who).beat - 1/\_ else _
   by_cases hl:b.addr.live=true
   .rw[ZZj hl] at this ⊢
    rw[(hsm _ (Zbk h hl)).1];exact this
   .rw[ZZi hl] at this ⊢;exact this
  .have:=h.data
   unfold Kl at this ⊢;show if b.data_.live=true then _ else _
   by_cases hl:b.data_.live=true
   .rw[ZZj hl] at this ⊢
    have e:=hsm _ (Qz h hl);show (b.data_.beat=(atI (b.m.set b.holder.toNat {atI b.m b.holder with broken:=true}) b.data_.who).done/\_)/\(_->(atI (b.m.set b.holder.toNat {atI b.m b.holder with broken:=true}) b.data_.who).tries < _)/\(_->(atI (b.m.set b.holder.toNat {atI b.m b.holder with broken:=true}) b.data_.who).parted=false/\b.data_.who≠-1)/\_;rw[e.2.1,e.2.2.1,e.2.2.2];exact⟨this.1,this.2.1,λh3=>⟨(this.2.2.1 h3).1,by have:=Wc (Qz h hl);omega⟩,this.2.2.2⟩
   .rw[ZZi hl] at this ⊢;exact this
  .refine⟨λi hi hx2 hk=>?_,?_⟩
   .have Ym:Zv b.conf i=true:=hi
    have hx3:(atI (b.m.set b.holder.toNat {atI b.m b.holder with broken:=true}) i).beat > 0:=hx2;have hk3:Yl (atI (b.m.set b.holder.toNat {atI b.m b.holder with broken:=true}) i)=true:=hk;rw[hat i Ym] at hx3 hk3;split at hk3
    .simp[Yl] at hk3
    .rename_i e
     rw[ZZi e] at hx3;exact absurd (h.held.1 i Ym hx3 hk3).symm e
   .show if (-1:Int)=-1 then (0:Int)=0 else _
    rw[ZZj rfl]
 .exact h
theorem Zyv (b:Za):(Xd b).data_=b.data_/\(Xd b).addr=b.addr/\(Xd b).picks=b.picks/\(Xd b).now=b.now/\(Xd b).conf=b.conf/\(Xd b).log=b.log/\(Xd b).model=b.model:=by
 unfold Xd;split<;>exact⟨rfl,rfl,rfl,rfl,rfl,rfl,rfl⟩
theorem Yko {c:Zk} (h:X9 c=true) (s:Zf) (k:Int):0<=Zqf c s k/\Zqf c s k<=c.maxWait:=by
 have:=(Ql h).2.1;unfold Zqf;omega
theorem Y2e {n:Int} {b:Za} (h:Yy n b) (s:Zf) (hl:b.addr.live=true):(0<=(Zdm b s b.addr).2/\(Zdm b s b.addr).2<=b.conf.maxWait+2)/\(0<=(Zdm b s b.addr).1/\(Zdm b s b.addr).1<=3)/\
  ((Zdm b s b.addr).1=2->(atI b.m b.addr.who).tries < b.conf.maxRetry)/\((Zdm b s b.addr).1=3->(atI b.m b.addr.who).parted=false/\b.addr.who≠b.holder):=by
 have hw:=Zbk h hl;have hm:=(h.mst _ hw).right;have hbt:=Z9h h hl;have had:=Yo9 hm hbt.1 hbt.2;have Y0a:=(Yf5 (w:=(atI (atI b.m b.addr.who).queue 0).write) (v:=Zrg (atI b.m b.addr.who) b.addr.beat) h.model had.2.1).2.2;have hwt:=Yko h.conf s b.picks;have hlm:=(Ql h.conf).2.1;have hdo:(doG b b.addr).2.2=0\/(doG b b.addr).2.2=1:=Y0a;unfold Zdm;split
 .exact⟨by simp;omega,by simp,by simp,by simp⟩
 .refine⟨?_,?_,?_,?_⟩
  .simp only
   split<;>omega
  .simp only
   repeat' split
   all_goals omega
  .simp only
   split
   .rename_i h1;exactλ_=>h1.2.2
   .split
    .intro h2;omega
    .intro h2;omega
  .simp only
   split
   .intro h2;omega
   .split
    .rename_i h1;exactλ_=>h1.2.2
    .intro h2;omega
theorem Yeq {n:Int} {b:Za} (h:Yy n b) (s:Zf) (hd:b.data_=Zh.z0):Yy n (Q2 b s)/\(Q2 b s).addr=Zh.z0:=by
 unfold Q2;by_cases hl:b.addr.live=true
 .rw[ZZj hl]
  refine⟨?_,rfl⟩;have hw:=Zbk h hl;have ha:=Y2e h s hl;have hA:=h.addr;unfold K4 at hA;rw[ZZj hl] at hA;have hdl:b.data_.live=false:=by rw[hd]
  have Yiy:(atI b.m b.addr.who).beat - (atI b.m b.addr.who).done=1:=by
   rw[h.fly _ hw];unfold K8;rw[ZZj ⟨hl,rfl⟩,hdl];simp
  refine⟨h.conf,h.ml,h.bl,h.sl,λi hi=>?_,h.arb,h.last,h.model,(λhx=>by cases hx),λ_=>h.alive hl,λi hi=>?_,?_,?_,h.held,h.log⟩
  .have hm:=h.mst i hi;exact⟨hm.right,hm.tries,hm.bucket,hm.split⟩
  .have Kg:=h.fly i hi
   rw[Kg];unfold K8;simp only[hdl,hl,ZZf,false_and,if_false,true_and];omega
  .unfold K4
   simp
  .unfold Kl
   show if b.addr.live=true then _ else _
   rw[ZZj hl];refine⟨⟨by show b.addr.beat=_;rw[hA.1];show (atI b.m b.addr.who).beat - 1=(atI b.m b.addr.who).done;omega,ha.1,ha.2.1⟩,ha.2.2.1,ha.2.2.2,λhs=>?_⟩;have:b.addr.second=true:=hs;rw[hA.2.2.2] at this;cases this
 .rw[ZZi hl]
  refine⟨h,?_⟩;have hA:=h.addr;unfold K4 at hA;rw[ZZi hl] at hA;exact hA
theorem Z5k (b:Za) (s:Zf):(Q2 b s).now=b.now/\(Q2 b s).conf=b.conf/\(Q2 b s).log=b.log/\(Q2 b s).model=b.model/\(Q2 b s).m=b.m/\(Q2 b s).splits=b.splits/\(Q2 b s).holder=b.holder/\b.picks<=(Q2 b s).picks/\(Q2 b s).picks<=b.picks+1:=by
 unfold Q2;split
 .exact⟨rfl,rfl,rfl,rfl,rfl,rfl,rfl,by show b.picks<=b.picks+1;omega,Vcp _⟩
 .exact⟨rfl,rfl,rfl,rfl,rfl,rfl,rfl,Vcp _,by omega⟩
theorem Zd8 (b:Za):(Qw b).length=b.m.length:=by simp[Qw]
theorem Zws {n:Int} {b:Za} (h:Yy n b) {i:Int} (hi:Zv b.conf i=true):atI (Qw b) i=Kn b i:=by
 obtain⟨k,rfl,hk⟩:=Yv0 hi;have:=h.ml;rw[Qk (by rw[Zd8];omega)];simp[Qw]
structure Picked (n:Int) (b:Za) (p:Int×Int×Za):Prop where
 ok:Yy n p.2.2
 who:p.1=-1\/(Zv b.conf p.1=true/\Kn b p.1=true/\(1<=p.2.1/\p.2.1<=3))
 conf:p.2.2.conf=b.conf
 m:p.2.2.m=b.m
 splits:p.2.2.splits=b.splits
 holder:p.2.2.holder=b.holder
 held:p.2.2.held=b.held
 addr:p.2.2.addr=b.addr
 data:p.2.2.data_=b.data_
 model:p.2.2.model=b.model
 log:p.2.2.log=b.log
 last:p.2.2.last=b.last
 now:p.2.2.now=b.now
 picks:p.2.2.picks=b.picks
theorem Zxd {n:Int} {b:Za} (h:Yy n b):Picked n b (Zaj b):=by
 unfold Zaj;split
 .rename_i hx
  exact⟨h,.inr ⟨(Zfa h hx.1).1,hx.2,by simp⟩,rfl,rfl,rfl,rfl,rfl,rfl,rfl,rfl,rfl,rfl,rfl,rfl⟩
 .split
  .rename_i k hk
   have hk1:=List.find?_some hk;have hk2:=List.mem_of_find?_eq_some hk;rw[Vc6,h.ml] at hk2;simp only[Zaw,ZZg] at hk1;have hm:=mas (c:=b.conf) hk2;have hmb:=Wc hm;refine⟨?_,.inr ⟨hm,hk1.1,by simp⟩,rfl,rfl,rfl,rfl,rfl,rfl,rfl,rfl,rfl,rfl,rfl,rfl⟩;refine⟨h.conf,h.ml,by show (b.buckets.set k _).length=_;rw[Vbg];exact h.bl,h.sl,λi hi=>?_,h.arb,h.last,h.model,h.alive,h.dlive,h.fly,h.addr,h.data,h.held,h.log⟩;have hmi:=h.mst i hi;refine⟨hmi.right,hmi.tries,?_,hmi.split⟩;show Y5 (atI (b.buckets.set k (Zf4 (atI b.buckets (k:Int)) (atI b.conf.masters (k:Int))).1) i) (atI b.conf.masters i)=true;have e:=Z83 (xs:=b.buckets) (w:=(k:Int)) (Zf4 (atI b.buckets (k:Int)) (atI b.conf.masters (k:Int))).1 hmb.1 (by have:=h.bl;omega) (Wc hi).1;rw[Vcd] at e;rw[e];split
   .rename_i e2;subst e2;exact Y7m hmi.bucket (Zk0 h.conf hi)
   .exact hmi.bucket
  .split
   .exact⟨h,.inl rfl,rfl,rfl,rfl,rfl,rfl,rfl,rfl,rfl,rfl,rfl,rfl,rfl⟩
   .have hp:=Y4o (wants:=Qw b) h.arb (by rw[Zd8,h.ml])
    refine⟨⟨h.conf,h.ml,h.bl,h.sl,λi hi=>?_,hp.1,h.last,h.model,h.alive,h.dlive,h.fly,h.addr,h.data,h.held,h.log⟩,?_,rfl,rfl,rfl,rfl,rfl,rfl,rfl,rfl,rfl,rfl,rfl,rfl⟩
    .have hmi:=h.mst i hi;exact⟨hmi.right,hmi.tries,hmi.bucket,hmi.split⟩
    .rcases hp.2 with hp2|hp2
     .exact .inl hp2
     .exact .inr ⟨hp2.1,by rw[<-Zws h hp2.1];exact hp2.2,by simp⟩
theorem Yh2 {b:Za} {i:Int} (h:Kn b i=true):(atI b.m i).beat < Z0 (atI b.m i)/\atI b.splits i=0/\(b.holder=-1\/b.holder=i):=by
 simp only[Kn,Zp1,ZZg,Vb3,ZZl] at h;exact⟨h.1,h.2.1,h.2.2⟩
theorem Yyz (m:Zb):(X6 m).queue=m.queue/\(X6 m).done=m.done/\(X6 m).tries=m.tries/\(X6 m).parted=m.parted/\(X6 m).broken=m.broken:=by
 unfold X6;split<;>exact⟨rfl,rfl,rfl,rfl,rfl⟩
theorem Y7e {n:Int} {b:Za} (h:Yy n b) (ha:b.addr=Zh.z0) (Z34:b.data_.second=false) {who by_:Int} (hw:Zv b.conf who=true) (Yiz:Kn b who=true) (hby:1<=by_/\by_<=3):Yy n (Z6l b who by_):=by
 obtain⟨w1,w2,w3⟩:=Yh2 Yiz;have hmw:=(h.mst _ hw).right;have hal:b.addr.live=false:=by rw[ha]
 have hfw:=h.fly _ hw;have hle:(atI b.m who).beat - (atI b.m who).done<=1:=by
  rw[hfw];unfold K8;rw[hal];simp only[ZZf,false_and,if_false];split<;>omega
 have hbt:(X6 (atI b.m who)).beat=(atI b.m who).beat+1:=by
  unfold X6;rw[ZZj ⟨w1,by omega⟩]
 have hs:=Yyz (atI b.m who);have hat:∀i,Zv b.conf i=true->atI (b.m.set who.toNat (X6 (atI b.m who))) i=if i=who then X6 (atI b.m who) else atI b.m i:=λi hi=>h.at_m hw _ hi
 have hsm:∀i,Zv b.conf i=true->(atI (b.m.set who.toNat (X6 (atI b.m who))) i).queue=(atI b.m i).queue/\(atI (b.m.set who.toNat (X6 (atI b.m who))) i).done=(atI b.m i).done/\(atI (b.m.set who.toNat (X6 (atI b.m who))) i).tries=(atI b.m i).tries/\(atI (b.m.set who.toNat (X6 (atI b.m who))) i).parted=(atI b.m i).parted/\(atI (b.m.set who.toNat (X6 (atI b.m who))) i).broken=(atI b.m i).broken:=λi hi=>by
  rw[hat i hi];split
  .rename_i e;subst e;exact hs
  .exact⟨rfl,rfl,rfl,rfl,rfl⟩
 have hmb:=Wc hw;refine⟨h.conf,?_,h.bl,h.sl,λi hi=>?_,h.arb,.inr hw,h.model,λ_=>⟨hw,hby,w2⟩,h.dlive,λi hi=>?_,?_,?_,?_,h.log⟩
 .show (b.m.set who.toNat _).length=_
  rw[Vbg];exact h.ml
 .have Ym:Zv b.conf i=true:=hi
  have hm:=h.mst i Ym;refine⟨?_,?_,hm.bucket,hm.split⟩
  .show Yt (atI (b.m.set who.toNat (X6 (atI b.m who))) i)
   rw[hat i Ym];split
   .exact Ysz hmw
   .exact hm.right
  .show (atI (b.m.set who.toNat (X6 (atI b.m who))) i).tries<=_
   rw[(hsm i Ym).2.2.1];exact hm.tries
 .have Ym:Zv b.conf i=true:=hi
  have Kg:=h.fly i Ym;show (atI (b.m.set who.toNat (X6 (atI b.m who))) i).beat - (atI (b.m.set who.toNat (X6 (atI b.m who))) i).done=K8 (Z6l b who by_) i;rw[(hsm i Ym).2.1,hat i Ym];unfold K8 at Kg ⊢;rw[hal] at Kg;simp only[ZZf,false_and,if_false] at Kg;show _=(if (true:Bool)=true/\who=i then (1:Int) else 0)+(if b.data_.live=true/\b.data_.who=i then 1 else 0);simp only[true_and];by_cases e:i=who
  .subst e
   rw[ZZj rfl,ZZj rfl,hbt];omega
  .rw[ZZi e,ZZi (λe2=>e e2.symm)];omega
 .unfold K4
  show if (true:Bool)=true then (atI b.m who).beat=(atI (b.m.set who.toNat (X6 (atI b.m who))) who).beat - 1/\_ else _
  rw[ZZj rfl,hat _ hw,ZZj rfl,hbt];exact⟨by omega,rfl,rfl,rfl⟩
 .have hD:=h.data
  unfold Kl at hD ⊢;show if b.data_.live=true then _ else _
  by_cases hl:b.data_.live=true
  .rw[ZZj hl] at hD ⊢
   have e:=hsm _ (Qz h hl);show (b.data_.beat=(atI (b.m.set who.toNat (X6 (atI b.m who))) b.data_.who).done/\_)/\(_->(atI (b.m.set who.toNat (X6 (atI b.m who))) b.data_.who).tries < _)/\(_->(atI (b.m.set who.toNat (X6 (atI b.m who))) b.data_.who).parted=false/\b.data_.who≠(if Yl (atI b.m who)=true/\b.holder=-1 then who else b.holder))/\_;rw[e.2.1,e.2.2.1,e.2.2.2.1];refine⟨hD.1,hD.2.1,λh3=>⟨(hD.2.2.1 h3).1,?_⟩,λh4=>?_⟩
   .split
    .rename_i e2
     intro e3;have hp:=Zu1 h hl;have hr:=Je (h.mst _ (Qz h hl)).right;have:=h.held.1 _ (Qz h hl) (by omega) (by rw[e3];exact e2.1);omega
    .exact (hD.2.2.1 h3).2
   .have:b.data_.second=true:=h4
    rw[Z34] at this;cases this
  .rw[ZZi hl] at hD ⊢;exact hD
 .have hh:=h.held
  unfold Zjw at hh ⊢;show (∀i,Zv b.conf i=true->(atI (b.m.set who.toNat (X6 (atI b.m who))) i).beat > 0->Yl (atI (b.m.set who.toNat (X6 (atI b.m who))) i)=true->(if Yl (atI b.m who)=true/\b.holder=-1 then who else b.holder)=i)/\
   (if (if Yl (atI b.m who)=true/\b.holder=-1 then who else b.holder)=-1 then (if Yl (atI b.m who)=true/\b.holder=-1 then 0 else b.held)=0 else Zv b.conf (if Yl (atI b.m who)=true/\b.holder=-1 then who else b.holder)=true/\Yl (atI (b.m.set who.toNat (X6 (atI b.m who))) (if Yl (atI b.m who)=true/\b.holder=-1 then who else b.holder))=true/\atI b.splits (if Yl (atI b.m who)=true/\b.holder=-1 then who else b.holder)=0/\(0<=(if Yl (atI b.m who)=true/\b.holder=-1 then 0 else b.held)/\(if Yl (atI b.m who)=true/\b.holder=-1 then 0 else b.held)<=b.conf.lockMost))
  have hlk:∀i,Zv b.conf i=true->Yl (atI (b.m.set who.toNat (X6 (atI b.m who))) i)=Yl (atI b.m i):=λi hi=>Ztc (hsm i hi).1 (hsm i hi).2.2.2.2;have hlm:=(Ql h.conf).2.2.1;have Ziy:∀i,Zv b.conf i=true->i≠who->(atI (b.m.set who.toNat (X6 (atI b.m who))) i).beat > 0->Yl (atI b.m i)=true->False:=by
   intro i hi e hx hk;rw[hat i hi,ZZi e] at hx;have:=hh.1 i hi hx hk;have:=Wc hi;omega
  by_cases e:Yl (atI b.m who)=true/\b.holder=-1
  .simp only[ZZj e]
   refine⟨λi hi hx hk=>?_,?_⟩
   .by_cases e2:i=who
    .exact e2.symm
    .rw[hlk i hi] at hk
     exact (Ziy i hi e2 hx hk).elim
   .rw[ZZi (by omega)]
    exact⟨hw,by rw[hlk _ hw];exact e.1,w2,by omega,by omega⟩
  .simp only[ZZi e]
   refine⟨λi hi hx hk=>?_,?_⟩
   .rw[hlk i hi] at hk
    by_cases e2:i=who
    .subst e2
     rcases w3 with w3|w3
     .exact absurd ⟨hk,w3⟩ e
     .exact w3
    .exact (Ziy i hi e2 hx hk).elim
   .have h2:=hh.2
    split
    .rename_i e2;rw[ZZj e2] at h2;exact h2
    .rename_i e2
     rw[ZZi e2] at h2;exact⟨h2.1,by rw[hlk _ h2.1];exact h2.2.1,h2.2.2⟩
theorem Y4v {n:Int} {b:Za} (h:Yy n b) (ha:b.addr=Zh.z0) (Z34:b.data_.second=false):Yy n (Jd b).2:=by
 have hp:=Zxd h;unfold Jd;split
 .exact hp.ok
 .rename_i hx
  rcases hp.who with h1|h1
  .exact absurd (show (Zaj b).1 < 0 by rw[h1];decide) hx
  .refine Y7e hp.ok (by rw[hp.addr];exact ha) (by rw[hp.data];exact Z34) (by rw[hp.conf];exact h1.1) ?_ h1.2.2
   have:=h1.2.1;unfold Kn at this ⊢;rw[hp.m,hp.splits,hp.holder];exact this
theorem Z6b {n:Int} {b:Za} (h:Yy n b):(Jd b).2.now=b.now/\(Jd b).2.conf=b.conf/\(Jd b).2.log=b.log/\(Jd b).2.model=b.model/\(Jd b).2.picks=b.picks/\(Jd b).2.data_=b.data_:=by
 have hp:=Zxd h;unfold Jd;split
 .exact⟨hp.now,hp.conf,hp.log,hp.model,hp.picks,hp.data⟩
 .exact⟨hp.now,hp.conf,hp.log,hp.model,hp.picks,hp.data⟩
theorem Y41 {n:Int} {b:Za} (h:Yy n b) (s:Zf) (hd:b.data_=Zh.z0):Yy n (Ww b s).2/\(Ww b s).2.now=b.now/\b.picks<=(Ww b s).2.picks/\(Ww b s).2.picks<=b.picks+1/\(Ww b s).2.conf=b.conf/\(Ww b s).2.log=b.log/\(Ww b s).2.model=b.model:=by
 have h1:=Yd9 h;have e1:=Zyv b;have h2:=Yeq h1 s (by rw[e1.1];exact hd);have e2:=Z5k (Xd b) s;have Z34:(Q2 (Xd b) s).data_.second=false:=by
  unfold Q2;split
  .rename_i hl
   have hA:=h1.addr;unfold K4 at hA;rw[ZZj hl] at hA;exact hA.2.2.2
  .rw[e1.1,hd]
 have h3:=Y4v h2.1 h2.2 Z34;have e3:=Z6b h2.1;unfold Ww;exact⟨h3,by rw[e3.1,e2.1,e1.2.2.2.1],by rw[e3.2.2.2.2.1,<-e1.2.2.1];exact e2.2.2.2.2.2.2.2.1,by rw[e3.2.2.2.2.1,<-e1.2.2.1];exact e2.2.2.2.2.2.2.2.2,by rw[e3.2.1,e2.2.1,e1.2.2.2.2.1],by rw[e3.2.2.1,e2.2.2.1,e1.2.2.2.2.2.1],by rw[e3.2.2.2.1,e2.2.2.2.1,e1.2.2.2.2.2.2]⟩
theorem Y1x (b:Za):(Xh b).now=b.now/\(Xh b).conf=b.conf/\(Xh b).picks=b.picks/\(Xh b).log=b.log/\(Xh b).model=b.model/\(Xh b).m=b.m/\(Xh b).addr=b.addr/\(Xh b).data_=b.data_/\(Xh b).holder=b.holder:=⟨rfl,rfl,rfl,rfl,rfl,rfl,rfl,rfl,rfl⟩
theorem Y2y (b:Za):(Ju b).now=b.now/\(Ju b).conf=b.conf/\(Ju b).picks=b.picks/\(Ju b).log=b.log/\(Ju b).model=b.model/\(Ju b).m=b.m/\(Ju b).addr=b.addr/\(Ju b).data_=b.data_/\(Ju b).holder=b.holder:=by
 unfold Ju;split<;>exact⟨rfl,rfl,rfl,rfl,rfl,rfl,rfl,rfl,rfl⟩
theorem Z8i (b:Za) (s:Zf):(Kw b s).now=b.now/\(Kw b s).conf=b.conf/\(Kw b s).picks=b.picks/\(Kw b s).log=b.log/\(Kw b s).model=b.model/\(Kw b s).addr=b.addr/\(Kw b s).data_=b.data_/\(Kw b s).holder=b.holder:=by
 have h1:=Y2y (Xh (Xw b (Zbr s b.now)));have h2:=Y1x (Xw b (Zbr s b.now));have h3:=Zny b (Zbr s b.now);unfold Kw;refine⟨?_,?_,?_,?_,?_,?_,?_,?_⟩
 .rw[h1.1,h2.1,h3.2.1]
 .rw[h1.2.1,h2.2.1,h3.1]
 .rw[h1.2.2.1,h2.2.2.1,h3.2.2.1]
 .rw[h1.2.2.2.1,h2.2.2.2.1,h3.2.2.2.1]
 .rw[h1.2.2.2.2.1,h2.2.2.2.2.1,h3.2.2.2.2.1]
 .rw[h1.2.2.2.2.2.2.1,h2.2.2.2.2.2.2.1,h3.2.2.2.2.2.2.2.1]
 .rw[h1.2.2.2.2.2.2.2.1,h2.2.2.2.2.2.2.2.1,h3.2.2.2.2.2.2.2.2.1]
 .rw[h1.2.2.2.2.2.2.2.2,h2.2.2.2.2.2.2.2.2,h3.2.2.2.2.2.1]
theorem Ykq {b:Za} (h:Zif b) (s:Zf):Yy b.now (Kw b s):=Yxb (Z56 (Zt9 h.i _))
theorem Zx3 (b:Za) (x:Zh):(Wh b x).now=b.now/\(Wh b x).picks=b.picks/\(Wh b x).conf=b.conf/\(Wh b x).log=b.log/\(Wh b x).model=b.model:=by
 unfold Wh;split
 .exact⟨rfl,rfl,rfl,rfl,rfl⟩
 .split<;>exact⟨rfl,rfl,rfl,rfl,rfl⟩
theorem Z6r (b:Za) (s:Zf):(Ya b s).1.now=b.now/\(Ya b s).1.picks=b.picks/\(Ya b s).1.conf=b.conf:=by
 unfold Ya
 repeat' split
 all_goals first
  | exact⟨rfl,rfl,rfl⟩
  | exact⟨(Zx3 _ _).1,(Zx3 _ _).2.1,(Zx3 _ _).2.2.1⟩
theorem Yja {b:Za} (h:Zif b) (s:Zf) (hn:b.now < 4000):Zif (Zd7 b s).1/\(Zd7 b s).1.now=b.now+1/\(Zd7 b s).1.conf=b.conf:=by
 have h1:=Ykq h s;have e1:=Z8i b s;have hI:Yy (Kw b s).now (Kw b s):=by rw[e1.1];exact h1
 have h2:=Z85 s (by rw[e1.1];exact h.now.1) hI;have e2:=Z6r (Kw b s) s;have hp:=h.picks;have hnow:=h.now;unfold Zd7;rw[e1.1] at h2;by_cases hr:(Ya (Kw b s) s).2.1=true
 .rw[ZZj hr]
  have h3:=Y41 h2.1 s (h2.2 hr);refine⟨?_,rfl,by show (Ww _ s).2.conf=_;rw[h3.2.2.2.2.1,e2.2.2,e1.2.1]⟩;have h4:=h3.1;have e3:(Ya (Kw b s) s).1.picks=b.picks:=by rw[e2.2.1,e1.2.2.1]
  have h5:=h3.2.2.1;have h6:=h3.2.2.2.1;generalize (Ww (Ya (Kw b s) s).1 s).2=r at h4 h5 h6 ⊢;exact⟨h4.conf,⟨by show 0<=b.now+1;omega,by show b.now+1<=4000;omega⟩,h4.ml,h4.bl,h4.sl,λi hi=>⟨(h4.mst i hi).right,(h4.mst i hi).tries,(h4.mst i hi).bucket,(h4.mst i hi).split⟩,h4.arb,h4.last,h4.model,⟨by show 0<=r.picks;omega,by show r.picks<=b.now+1;omega⟩,h4.alive,h4.dlive,h4.fly,h4.addr,h4.data,h4.held,h4.log⟩
 .rw[ZZi hr]
  refine⟨?_,rfl,by show (Ya _ s).1.conf=_;rw[e2.2.2,e1.2.1]⟩;have h4:=h2.1;have e3:(Ya (Kw b s) s).1.picks=b.picks:=by rw[e2.2.1,e1.2.2.1]
  generalize (Ya (Kw b s) s).1=r at h4 e3 ⊢;exact⟨h4.conf,⟨by show 0<=b.now+1;omega,by show b.now+1<=4000;omega⟩,h4.ml,h4.bl,h4.sl,λi hi=>⟨(h4.mst i hi).right,(h4.mst i hi).tries,(h4.mst i hi).bucket,(h4.mst i hi).split⟩,h4.arb,h4.last,h4.model,⟨by show 0<=r.picks;omega,by show r.picks<=b.now+1;omega⟩,h4.alive,h4.dlive,h4.fly,h4.addr,h4.data,h4.held,h4.log⟩
structure Zf.sm (s:Zf):Prop where
 posts:s.posts.length < 1048577
 reqs:∀p∈s.posts,p.req.sm
 waits:s.waits.length < 1048577
 says:s.says.length < 1048577
 wmin:∀w∈s.waits,-9223372036854775808<=w/\w < 9223372036854775808
theorem Zs8 (l:List Int) (k:Int) (hl:l.length < 1048577):Zk1 l k=some (Zj5 l k):=by
 unfold Zk1 Zl5 Zj5;by_cases h:l=[]
 .simp[h]
 .have h1:0 < l.length:=Van.2 h
  rw[ZZi (by simpa using h)];by_cases h2:k < 0
  .simp[h2]
  .have h3:0<=k % (l.length:Int):=Vc2 _ (by omega)
   have h4:k % (l.length:Int) < (l.length:Int):=Vco _ (by omega);rw[Zw6 (by omega),ZZa,Zeq (by omega),Xq h3 h4];simp[h,h2]
theorem Z76 (l:List Int) (k:Int) (hl:l.length < 1048577):Zzk l k=some (Zj5 l k):=by
 rw[<-Zs8 l k hl];rfl
theorem Yqj {l:List Int} {k:Int} (h:∀w∈l,-9223372036854775808<=w/\w < 9223372036854775808):-9223372036854775808<=Zj5 l k/\Zj5 l k < 9223372036854775808:=by
 unfold Zj5;split
 .omega
 .rename_i hx
  have h1:l≠[]:=λe=>hx (.inl e);have h2:0 < l.length:=Van.2 h1;exact h _ (Zkq (Vc2 _ (by omega)) (Vco _ (by omega)))
theorem Ytb (c:Zk) {s:Zf} (k:Int) (hs:s.sm):Zyu c s k=some (Zqf c s k):=by
 unfold Zyu Zqf;rw[Zs8 _ _ hs.waits,ZZa,Zun,Zcf]
theorem Ysy (c:Zk) {s:Zf} (k:Int) (hs:s.sm):Zy0 c s k=some (Zqf c s k):=by
 unfold Zy0 Zqf;rw[Z76 _ _ hs.waits,ZZa,Zun,Zcf,Vdo]
theorem Ytz {s:Zf} (k:Int) (hs:s.sm):Zys s k=some (Zh1 s k):=by
 unfold Zys Zh1;rw[Zs8 _ _ hs.says,ZZa];by_cases h1:Zj5 s.says k=2
 .simp[h1]
 .by_cases h2:Zj5 s.says k=3<;>simp[h1,h2]
theorem Yvb {s:Zf} (k:Int) (hs:s.sm):Zyt s k=some (Zh1 s k):=by
 unfold Zyt Zh1;rw[Z76 _ _ hs.says,ZZa];by_cases h1:Zj5 s.says k=2
 .simp[h1]
 .by_cases h2:Zj5 s.says k=3<;>simp[h1,h2]
theorem Yoh (c:Zk) {s:Zf} (k:Int) (hs:s.sm):Zvh c s k=some (Zis c s k):=by
 have h:=Yqj (k:=k) hs.wmin;unfold Zvh Zis;rw[Zs8 _ _ hs.waits,ZZa,Zun,Zcf,Zun,Zcf,Yq (by omega) (by omega)]
theorem Yoz (c:Zk) {s:Zf} (k:Int) (hs:s.sm):Zvt c s k=some (Zis c s k):=by
 have h:=Yqj (k:=k) hs.wmin;unfold Zvt Zis;rw[Z76 _ _ hs.waits,ZZa,Zun,Zcf,Zcf,Yq (by omega) (by omega)]
 congr 1
 omega
theorem Ydg {α:Type} (p:α->Bool) (xs:List α) (k:Nat) (hk:k < xs.length):(xs.take (k+1)).filter p=(xs.take k).filter p++(if p xs[k] then [xs[k]] else []):=by
 rw[List.take_succ_eq_append_getElem hk,Vc3];cases hq:p xs[k]<;>simp[hq]
theorem Ypv (s:Zf) (t:Int) (hs:s.sm):Zwc s t=some (Zbr s t):=by
 unfold Zwc Zbr;have hp:=hs.posts;refine Zfx (σ:=List Zl) (n:=s.posts.length) (by omega) (λk=>(s.posts.take k).filter λp=>decide (p.at_=t)) (B:=Zkh s t) (L:=Zlu s t) (λm s i=>rfl) (λk hk κ=>?_) λκ=>?_
 .unfold Zkh
  have Yo:((s.posts.take k).filter λp=>decide (p.at_=t)).length<=k:=Vb5 (Vbs ..) (by rw[Vbu];omega);rw[ZZj (by simpa using hk),Xs hk,ZZa,Ydg _ _ _ hk,Z9o _ (hs.reqs _ (Vaq hk)),ZZa];by_cases e:s.posts[k].at_=t
  .rw[ZZj (by simpa using e),Kh (by simp only[Vag,Vbh];omega) (by simp only[Vag,Vbh];omega),ZZa,ZZj (decide_eq_true e)]
  .rw[ZZi (by simpa using e),ZZi (by simpa using e),Vb2]
 .unfold Zkh
  rw[ZZi (by simp),Vbx]
theorem Ypu (s:Zf) (t:Int) (hs:s.sm):Zv7 s t=some (Zbr s t):=by
 unfold Zv7 Zbr;have hp:=hs.posts;refine Zfx (σ:=List Zl) (n:=s.posts.length) (by omega) (λk=>(s.posts.take k).filter λp=>decide (p.at_=t)) (B:=Zjb s t) (L:=Zlm s t) (λm s i=>rfl) (λk hk κ=>?_) λκ=>?_
 .unfold Zjb
  have Yo:((s.posts.take k).filter λp=>decide (p.at_=t)).length<=k:=Vb5 (Vbs ..) (by rw[Vbu];omega);rw[ZZj (by simpa using hk),Xs hk,ZZa,Ydg _ _ _ hk,Z79 _ (hs.reqs _ (Vaq hk)),ZZa];by_cases e:s.posts[k].at_=t
  .rw[ZZj (by simpa using e),Kh (by simp only[Vag,Vbh];omega) (by simp only[Vag,Vbh];omega),ZZa,ZZj (decide_eq_true e)]
  .rw[ZZi (by simpa using e),ZZi (by simpa using e),Vb2]
 .unfold Zjb
  rw[ZZi (by simp),Vbx]
theorem Yo3 {s:Zf} (hs:s.sm) (t:Int):(Zbr s t).length < 1048577/\∀p∈Zbr s t,p.req.sm:=by
 have hp:=hs.posts;refine⟨Nat.lt_of_le_of_lt (Vbs ..) hp,λp hx=>hs.reqs p ?_⟩;unfold Zbr at hx;exact (Vb4.1 hx).1
theorem Yaa (b:Za) (ps:List Zl) (k:Nat) (hk:k < ps.length):Xw b (ps.take (k+1))=Kx (Xw b (ps.take k)) ps[k]:=by
 unfold Xw;rw[List.take_succ_eq_append_getElem hk,List.foldl_append];rfl
theorem Yl0 (c:Zk) (h:c.masters.length < 1048577):Zvc c=some c/\Zyf c=some c:=by
 unfold Zvc Zah Zyf;rw[Kh (by simp;omega) (by simp;omega)];exact⟨rfl,rfl⟩
theorem Yqb (xs:List Zm) (h:xs.length < 1048577):We 56 [] xs=some xs:=by
 rw[Kh (by simp;omega) (by simp;omega)];rfl
theorem Yoi (xs:List Zc) (h:xs.length < 1048577):We 16 [] xs=some xs:=by
 rw[Kh (by simp;omega) (by simp;omega)];rfl
theorem Ydi (b:Za) (hs:b.sm):Zr2 b=some b:=by
 unfold Zr2;rw[(Yl0 b.conf hs.conf).1,ZZa];have:=hs.ml;refine (Zfx (σ:=Za×List Zb) (n:=b.m.length) (by omega) (λk=>(b,b.m.take k)) (B:=λκ s i=>Zlo b (λx y i=>κ (x,y) i) s.1 s.2 i) (L:=λm s i=>Zh8 b m s.1 s.2 i) (λm s i=>rfl) (λk hk κ=>?_) λκ=>?_:Zh8 b FU b [] 0=some b)
 .unfold Zlo
  have Yo:(b.m.take k).length=k:=by rw[Vbu];omega
  simp only;rw[ZZj (by simpa using hk),Xs hk,ZZa,Zpp _ (hs.mst _ (Vaq hk)),ZZa,Kh (by simp only[Vag,Vbh];omega) (by simp only[Vag,Vbh];omega),ZZa,<-List.take_succ_eq_append_getElem hk]
 .unfold Zlo Jt Zbh
  simp only;rw[ZZi (by simp),Yoi _ hs.bl,ZZa,Zus _ hs.sl,ZZa,Zxm _ hs.model,ZZa,Yqb _ hs.log,ZZa,Vbx]
theorem Z71 (b:Za) (hs:b.sm):Zp9 b=some b:=by
 unfold Zp9;rw[(Yl0 b.conf hs.conf).2,ZZa];have:=hs.ml;refine (Zfx (σ:=Za) (n:=b.m.length) (by omega) (λk=>{b with m:=b.m.take k}) (B:=Zjr b) (L:=Zgs b) (λm s i=>rfl) (λk hk κ=>?_) λκ=>?_:Zgs b FU {b with m:=[]} 0=some b)
 .unfold Zjr
  have Yo:(b.m.take k).length=k:=by rw[Vbu];omega
  simp only;rw[ZZj (by simpa using hk),Xs hk,ZZa,Zms _ (hs.mst _ (Vaq hk)),ZZa,Kh (by simp only[Vag,Vbh];omega) (by simp only[Vag,Vbh];omega),ZZa,<-List.take_succ_eq_append_getElem hk]
 .unfold Zjr
  simp only;rw[ZZi (by simp),Yoi _ hs.bl,ZZa,Z4x _ hs.sl,ZZa,Ycf _ hs.model,ZZa,Yqb _ hs.log,ZZa,Vbx]
theorem Ybm {c:Zk} {n:Int} (hn:n<=4001) {l:List Zm} (h:(∀d∈l,Z6y c n d)/\l.Pairwise λx y=>x.cycle < y.cycle):l.length<=4001:=by
 have key:∀(l:List Zm) (a:Int),(∀d∈l,a<=d.cycle/\d.cycle < n)->(l.Pairwise λx y=>x.cycle < y.cycle)->l≠[]->(l.length:Int)<=n - a:=by
  intro l
  induction l with
  | nil=>intro a _ _ h;exact absurd rfl h
  | cons x xs ih=>
   intro a h1 h2 _;have h3:=h1 x (Vaa ..);by_cases hx:xs=[]
   .subst hx;simp;omega
   .have h4:=List.pairwise_cons.1 h2
    have:=ih (x.cycle+1) (λd hd=>⟨by have:=h4.1 d hd;omega,(h1 d (Vac _ hd)).2⟩) h4.2 hx;simp only[Vag];omega
 by_cases hx:l=[]
 .subst hx;simp
 .have:=key l 0 (λd hd=>(h.1 d hd).1) h.2 hx
  omega
theorem Yy.sm {n:Int} {b:Za} (h:Yy n b) (hn:n<=4001):b.sm:=by
 have h1:=Zcj h.conf;have h2:=h.ml;have h3:=h.bl;have h4:=h.sl;have h5:=Ybm hn h.log;refine⟨h1,by omega,λx hx=>?_,by omega,by omega,h.model.sm,by omega⟩;obtain⟨k,hk,rfl⟩:=Vbr hx;have:=(h.mst (k:Int) (mas (by omega))).right.sm
 rwa [Qk hk] at this
theorem Zif.sm {b:Za} (h:Zif b):b.sm:=h.i.sm (by have:=h.now;omega)
section
variable {n:Int} {b:Za} {s:Zf}
theorem Z3e (x:Zh) (hc:X9 b.conf=true) (hw:Zv b.conf x.who=true) (hml:b.m.length=b.conf.masters.length) (hbl:b.buckets.length=b.conf.masters.length) (hr:Yt (atI b.m x.who)) (har:Za5 b.arb b.conf=true):Zeo b x=some (Wh b x):=by
 obtain⟨ok,hbk⟩:=Ypt hr;unfold Zeo Wh;rw[Wf hml hw,ZZa,hbk,ZZa,Wy,ZZa,Ya9 hbl hw,ZZa,Z2j hw,ZZa,Yh7 _ (Zk0 hc hw),ZZa,Wy,ZZa,Ypl _ _ _ har,ZZa];by_cases h1:x.by_=1
 .simp[h1]
 .by_cases h2:x.by_=2<;>simp[h1,h2]
theorem Z3f (x:Zh) (hc:X9 b.conf=true) (hw:Zv b.conf x.who=true) (hml:b.m.length=b.conf.masters.length) (hbl:b.buckets.length=b.conf.masters.length) (hr:Yt (atI b.m x.who)) (har:Za5 b.arb b.conf=true):Zky b x=some (Wh b x):=by
 obtain⟨ok,hbk⟩:=Yol hr;unfold Zky Wh;rw[Wf hml hw,ZZa,hbk,ZZa,Wy,ZZa,Ya9 hbl hw,ZZa,Z2j hw,ZZa,Yfv _ (Zk0 hc hw),ZZa,Wy,ZZa,Yq7 _ _ _ har,ZZa];by_cases h1:x.by_=1
 .simp[h1]
 .by_cases h2:x.by_=2<;>simp[h1,h2]
theorem Yt7 {m:Zb} {k:Int} (h:Yt m) (hq:m.queue≠[]) (h0:0<=k) (h1:k < Z0 m):Zoi m k=some (Zrg m k):=by
 have hl:0 < m.queue.length:=Van.2 hq;unfold Zoi Zrg;rw[Xq (xs:=m.queue) (by omega) (by omega),ZZa];by_cases hw:(atI m.queue 0).write=true
 .have:=Ylt h h0 h1 hw
  rw[ZZj hw,ZZj hw,Xq this.1 this.2];rfl
 .rw[ZZi hw,ZZi hw]
theorem Yia {m:Zb} {k:Int} (h:Yt m) (hq:m.queue≠[]) (h0:0<=k) (h1:k < Z0 m):Znw (atI m.queue 0) k=some (Zrg m k):=by
 unfold Znw Zrg;by_cases hw:(atI m.queue 0).write=true
 .have:=Ylt h h0 h1 hw
  rw[ZZi (by simp[hw]),ZZj hw,Xq this.1 this.2];rfl
 .rw[ZZj (by simpa using hw),ZZi hw]
theorem Zrt {m:Zb} {k:Int} (h0:0<=k) (h1:k < Z0 m):m.queue≠[]:=by
 intro hq;unfold Z0 at h1;rw[ZZj hq] at h1;omega
theorem Zw0 {m:Zb} (hq:m.queue≠[]):idx m.queue 0=some (atI m.queue 0):=by
 have hl:0 < m.queue.length:=Van.2 hq;exact Xq (by omega) (by omega)
theorem Ywj (x:Zh) (hw:Zv b.conf x.who=true) (hml:b.m.length=b.conf.masters.length) (hr:Yt (atI b.m x.who)) (hm:Zeu b.model) (h0:0<=x.beat) (h1:x.beat < Z0 (atI b.m x.who)):Zsf b x=some (doG b x):=by
 have hq:=Zrt h0 h1;unfold Zsf doG;rw[Wf hml hw,ZZa,Zw0 hq,ZZa,Ze8 _ hr,ZZa,Yt7 hr hq h0 h1,ZZa,Yqs _ _ _ _ hm];rfl
theorem Ycq {m:Zb} (h:Yt m) (hp:m.beat - m.done≥1):((Jb m).queue.length:Int) < (m.queue.length:Int)↔m.done+1=Z0 m:=by
 have hq:=Zha h (by omega);have hl:0 < m.queue.length:=Van.2 hq;have hf:=Z9e h hp;by_cases e:m.done+1=Z0 m
 .rw[(hf.1 e).2.1];simp[e];omega
 .rw[(hf.2 e).1];simp[e]
theorem Ypk {m:Zb} (h:Yt m) (hp:m.beat - m.done≥1):(Jb m).done=0↔m.done+1=Z0 m:=by
 have hb:=Je h;have hf:=Z9e h hp;by_cases e:m.done+1=Z0 m
 .rw[(hf.1 e).2.2.2.1];simp[e]
 .rw[(hf.2 e).2.2.1];simp[e];omega
theorem Ynk (x:Zh) (h1:Zv b.conf x.who=true) (hml:b.m.length=b.conf.masters.length) (hr:Yt (atI b.m x.who)) (hm:Zeu b.model) (hp:(atI b.m x.who).beat - (atI b.m x.who).done≥1) (h2:0<=x.beat) (h3:x.beat < Z0 (atI b.m x.who)) (hl:b.log.length < 1048577):Zjf b x=some (Zgf b x):=by
 have hq:=Zrt h2 h3;obtain⟨ok,he⟩:=Ysx hr;unfold Zjf;rw[Wf hml h1,ZZa,Zw0 hq,ZZa,Ze8 _ hr,ZZa,Ywj x h1 hml hr hm h2 h3,ZZa];have hJ:∀(mo:Zi) (d:Zm),Zbf b x {b with model:=mo} (atI b.m x.who) d=some {b with model:=mo,log:=b.log++[d],m:=b.m.set x.who.toNat (Jb (atI b.m x.who)),holder:=if b.holder=x.who/\(atI b.m x.who).done+1=Z0 (atI b.m x.who) then -1 else b.holder,held:=if b.holder=x.who/\(atI b.m x.who).done+1=Z0 (atI b.m x.who) then 0 else b.held}:=by
  intro mo d;unfold Zbf Zd4 Zd1 Zmr;simp only;rw[Kh (by simp only[Vag,Vbh];omega) (by simp only[Vag,Vbh];omega),ZZa,he,ZZa];simp only[ZZa,Wf hml h1,Wy];have hi:idx b.m x.who=some (atI b.m x.who):=Wf hml h1;by_cases e1:b.holder=x.who
  .by_cases e2:(atI b.m x.who).done+1=Z0 (atI b.m x.who)
   .have e3:=(Ycq hr hp).2 e2
    simp only[decide_eq_true e1,decide_eq_true e3,if_true,ZZj (And.intro e1 e2)]
   .have e3:=mt (Ycq hr hp).1 e2
    simp only[decide_eq_true e1,decide_eq_false e3,if_true,if_false,ZZf,ZZi (λhx:b.holder=x.who/\_=>e2 hx.2)]
  .simp only[decide_eq_false e1,if_false,ZZf,ZZi (λhx:b.holder=x.who/\_=>e1 hx.1)]
 unfold Zgf Yh8;by_cases e:x.resp=0
 .rw[ZZj (decide_eq_true e),hJ]
  simp only[ZZj e]
 .rw[ZZi (by simpa using e)]
  have:=hJ b.model (Zm.mk b.now x.who (atI (atI b.m x.who).queue 0).write (X5 (atI b.m x.who) x.beat) (atI (atI b.m x.who).queue 0).size 0 x.resp);refine Eq.trans (b:=_) ?_ (this.trans ?_)
  .rfl
  .simp only[ZZi e]
theorem Yul (w:Zt) (h:Yy b.now b) (hs:s.sm) (hn:b.now<=4000):Zo4 b s w=some ((Ya b s).2.1,(Ya b s).1,if b.data_.live=true/\¬b.data_.left > 0 then {w with resp:=b.data_.resp} else w):=by
 unfold Zo4 Ya;by_cases hd:b.data_.live=true
 .have hdf:¬b.data_.live=false:=by simp[hd]
  rw[ZZi (by simp[hd]),ZZi hdf];have Za6:=h.data;unfold Kl at Za6;rw[ZZj hd] at Za6;have hw:=Qz h hd;have hmw:=(h.mst _ hw).right;have hp:=Zu1 h hd;have hbt:=Z7z h hd;have Yz1:=(Ql h.conf).2.1;by_cases hl:b.data_.left > 0
  .rw[ZZj (decide_eq_true hl),ZZj hl,ZZi (λhx:_/\¬b.data_.left > 0=>hx.2 hl),Xe (by omega) (by omega)]
  .rw[ZZi (by simpa using hl),ZZi hl,ZZj (And.intro hd hl)]
   have hJf:¬(b.data_.resp≠0/\b.data_.second=false)->Zav b s w false=some ((if b.data_.resp=2 then (Wh {b with data_:=Zh.z0,m:=b.m.set b.data_.who.toNat {atI b.m b.data_.who with tries:=(atI b.m b.data_.who).tries+1}} b.data_,true,b.data_.resp)
 else if b.data_.resp=3 then (Wh {b with data_:=Zh.z0,m:=b.m.set b.data_.who.toNat {atI b.m b.data_.who with parted:=true},splits:=b.splits.set b.data_.who.toNat (Zis b.conf s b.picks)} b.data_,true,b.data_.resp)
 else (Zgf {b with data_:=Zh.z0} b.data_,true,b.data_.resp):Za×Bool×Int).2.1,(if b.data_.resp=2 then (Wh {b with data_:=Zh.z0,m:=b.m.set b.data_.who.toNat {atI b.m b.data_.who with tries:=(atI b.m b.data_.who).tries+1}} b.data_,true,b.data_.resp)
 else if b.data_.resp=3 then (Wh {b with data_:=Zh.z0,m:=b.m.set b.data_.who.toNat {atI b.m b.data_.who with parted:=true},splits:=b.splits.set b.data_.who.toNat (Zis b.conf s b.picks)} b.data_,true,b.data_.resp)
 else (Zgf {b with data_:=Zh.z0} b.data_,true,b.data_.resp):Za×Bool×Int).1,{w with resp:=b.data_.resp}):=by
    intro hns;have hmb:=Wc hw;have hml:=h.ml;have Yi0:∀x:Zb,Yt x->Yt (atI (b.m.set b.data_.who.toNat x) b.data_.who):=λx hx=>by rw[Zp8 x hmb.1 (by omega)];exact hx
    have Yo:∀x:Zb,(b.m.set b.data_.who.toNat x).length=b.conf.masters.length:=λx=>by rw[Vbg];exact hml
    unfold Zav;rw[ZZi (by simp)];by_cases h2:b.data_.resp=2
    .have ht:=Za6.2.1 h2
     have hmx:=(Ql h.conf).1;have htr:=hmw.tries;have Z6:Yt {atI b.m b.data_.who with tries:=(atI b.m b.data_.who).tries+1}:=⟨hmw.len,by show 0<=(atI b.m b.data_.who).tries+1;omega,hmw.reqs,λhq=>absurd (show (atI b.m b.data_.who).queue=[] from hq) (Zrt hbt.1 hbt.2),hmw.some⟩;simp only[decide_eq_true h2,if_true,ZZj h2,Wf hml hw,ZZa,Wy,Yq (a:=(atI b.m b.data_.who).tries) (b:=1) (by omega) (by omega)];rw[Z3e (b:={b with data_:=Zh.z0,m:=b.m.set b.data_.who.toNat {atI b.m b.data_.who with tries:=(atI b.m b.data_.who).tries+1}}) b.data_ h.conf hw (Yo _) h.bl (Yi0 _ Z6) h.arb];rfl
    .by_cases h3:b.data_.resp=3
     .have Y2:Yt {atI b.m b.data_.who with parted:=true}:=⟨hmw.len,hmw.tries,hmw.reqs,λhq=>absurd (show (atI b.m b.data_.who).queue=[] from hq) (Zrt hbt.1 hbt.2),hmw.some⟩
      simp only[decide_eq_false h2,decide_eq_true h3,if_true,if_false,ZZf,ZZi h2,ZZj h3,Wf hml hw,Zqg h.sl hw,ZZa,Wy,Yoh _ _ hs];rw[Z3e (b:={b with data_:=Zh.z0,m:=b.m.set b.data_.who.toNat {atI b.m b.data_.who with parted:=true},splits:=b.splits.set b.data_.who.toNat (Zis b.conf s b.picks)}) b.data_ h.conf hw (Yo _) h.bl (Yi0 _ Y2) h.arb];rfl
     .simp only[decide_eq_false h2,decide_eq_false h3,if_false,ZZf,ZZi h2,ZZi h3]
      have hlog:=Ybm (by omega) h.log;rw[Ynk (b:={b with data_:=Zh.z0}) b.data_ hw hml hmw h.model hp hbt.1 hbt.2 (by show b.log.length < _;omega)];rfl
   by_cases h2:b.data_.resp≠0
   .rw[ZZj (decide_eq_true h2)]
    by_cases h3:b.data_.second=false
    .rw[ZZj (And.intro h2 h3),h3]
     unfold Zav Zgn;rw[ZZj (by rfl)];by_cases ha:b.addr.live=true
     .rw[ZZj ha,ZZj ha]
      have hwa:=Zbk h ha;rw[Z3e (b:={b with data_:={b.data_ with second:=true}}) b.addr h.conf hwa h.ml h.bl (h.mst _ hwa).right h.arb];rfl
     .rw[ZZi ha,ZZi ha]
    .have h4:b.data_.second=true:=by simpa using h3
     rw[ZZi (λhx:_/\b.data_.second=false=>h3 hx.2),h4,Va5,hJf (λhx=>h3 hx.2)]
   .rw[ZZi (by simpa using h2),ZZi (λhx:b.data_.resp≠0/\_=>h2 hx.1),hJf (λhx=>h2 hx.1)]
 .rw[ZZj (by simpa using hd),ZZj (by simpa using hd),ZZi (λhx:b.data_.live=true/\_=>hd hx.1)]
theorem Yus (h:Yy b.now b) (hs:s.sm) (hn:b.now<=4000) (hd:b.data_.live=true) (hl:¬b.data_.left > 0) (hns:¬(b.data_.resp≠0/\b.data_.second=false)):Zqp b s=some (Ya b s).1:=by
 have hdf:¬b.data_.live=false:=by simp[hd]
 have Za6:=h.data;unfold Kl at Za6;rw[ZZj hd] at Za6;have hw:=Qz h hd;have hmw:=(h.mst _ hw).right;have hp:=Zu1 h hd;have hbt:=Z7z h hd;have hmb:=Wc hw;have hml:=h.ml;have hq:=Zrt hbt.1 hbt.2;have Yi0:∀x:Zb,Yt x->Yt (atI (b.m.set b.data_.who.toNat x) b.data_.who):=λx hx=>by rw[Zp8 x hmb.1 (by omega)];exact hx
 have Yo:∀x:Zb,(b.m.set b.data_.who.toNat x).length=b.conf.masters.length:=λx=>by rw[Vbg];exact hml
 unfold Zqp Ya;rw[ZZi hdf,ZZi hl,ZZi hns,Wf hml hw,ZZa];by_cases h2:b.data_.resp=2
 .have ht:=Za6.2.1 h2
  have hmx:=(Ql h.conf).1;have htr:=hmw.tries;have Z6:Yt {atI b.m b.data_.who with tries:=(atI b.m b.data_.who).tries+1}:=⟨hmw.len,by show 0<=(atI b.m b.data_.who).tries+1;omega,hmw.reqs,λhq=>absurd (show (atI b.m b.data_.who).queue=[] from hq) (Zrt hbt.1 hbt.2),hmw.some⟩;simp only[decide_eq_true h2,if_true,ZZj h2,ZZa,Wy,Yq (a:=(atI b.m b.data_.who).tries) (b:=1) (by omega) (by omega)];rw[Z3f (b:={b with data_:=Zh.z0,m:=b.m.set b.data_.who.toNat {atI b.m b.data_.who with tries:=(atI b.m b.data_.who).tries+1}}) b.data_ h.conf hw (Yo _) h.bl (Yi0 _ Z6) h.arb];rfl
 .by_cases h3:b.data_.resp=3
  .have Y2:Yt {atI b.m b.data_.who with parted:=true}:=⟨hmw.len,hmw.tries,hmw.reqs,λhq=>absurd (show (atI b.m b.data_.who).queue=[] from hq) (Zrt hbt.1 hbt.2),hmw.some⟩
   simp only[decide_eq_false h2,decide_eq_true h3,if_true,if_false,ZZf,ZZi h2,ZZj h3,Zqg h.sl hw,ZZa,Wy,Yoz _ _ hs];rw[Z3f (b:={b with data_:=Zh.z0,m:=b.m.set b.data_.who.toNat {atI b.m b.data_.who with parted:=true},splits:=b.splits.set b.data_.who.toNat (Zis b.conf s b.picks)}) b.data_ h.conf hw (Yo _) h.bl (Yi0 _ Y2) h.arb];rfl
  .have hlog:=Ybm (by omega) h.log
   obtain⟨ok,he⟩:=Yvm hmw;have hJ:∀(mo:Zi) (d:Zm),Zdx b s {b with data_:=Zh.z0,model:=mo} (atI b.m b.data_.who) d=some {b with data_:=Zh.z0,model:=mo,log:=b.log++[d],m:=b.m.set b.data_.who.toNat (Jb (atI b.m b.data_.who)),holder:=if b.holder=b.data_.who/\(atI b.m b.data_.who).done+1=Z0 (atI b.m b.data_.who) then -1 else b.holder,held:=if b.holder=b.data_.who/\(atI b.m b.data_.who).done+1=Z0 (atI b.m b.data_.who) then 0 else b.held}:=by
    intro mo d;unfold Zdx;simp only;rw[Kh (by simp only[Vag,Vbh];omega) (by simp only[Vag,Vbh];omega),ZZa,he,ZZa];simp only[ZZa,Wf hml hw,Wy];by_cases e1:b.holder=b.data_.who
    .by_cases e2:(atI b.m b.data_.who).done+1=Z0 (atI b.m b.data_.who)
     .have e3:=(Ypk hmw hp).2 e2
      simp only[decide_eq_true e1,decide_eq_true e3,if_true,ZZj (And.intro e1 e2)]
     .have e3:=mt (Ypk hmw hp).1 e2
      simp only[decide_eq_true e1,decide_eq_false e3,if_true,if_false,ZZf,ZZi (λhx:b.holder=b.data_.who/\_=>e2 hx.2)]
    .simp only[decide_eq_false e1,if_false,ZZf,ZZi (λhx:b.holder=b.data_.who/\_=>e1 hx.1)]
   simp only[decide_eq_false h2,decide_eq_false h3,if_false,ZZf,ZZi h2,ZZi h3];rw[Zw0 hq,ZZa,Zid _ hmw,ZZa];unfold Zgf Yh8 doG;by_cases e:b.data_.resp=0
   .rw[ZZj (decide_eq_true e),Yia hmw hq hbt.1 hbt.2,ZZa,Z8o _ _ _ _ h.model,ZZa,hJ]
    simp only[ZZj e]
   .rw[ZZi (by simpa using e)]
    have:=hJ b.model (Zm.mk b.now b.data_.who (atI (atI b.m b.data_.who).queue 0).write (X5 (atI b.m b.data_.who) b.data_.beat) (atI (atI b.m b.data_.who).queue 0).size 0 b.data_.resp);refine Eq.trans (b:=_) ?_ (this.trans ?_)
    .rfl
    .simp only[ZZi e]
end
section
variable {n:Int} {b:Za} {s:Zf}
theorem Yva (h:Yy n b) (hs:s.sm) (hl:b.addr.live=true):Zn3 b s b.addr=some (Zdm b s b.addr):=by
 have hw:=Zbk h hl;have hmw:=(h.mst _ hw).right;have hbt:=Z9h h hl;have hwt:=Yko h.conf s b.picks;have hlm:=(Ql h.conf).2.1;unfold Zn3;rw[Wf h.ml hw,ZZa,Ze8 _ hmw,ZZa,Z05,ZZa];have hJ1:Jf b s b.addr (atI b.m b.addr.who) (Yx (X5 (atI b.m b.addr.who) b.addr.beat)) false=some (if Zh1 s b.picks=2/\Yx (X5 (atI b.m b.addr.who) b.addr.beat)≠3/\(atI b.m b.addr.who).tries < b.conf.maxRetry then 2
  else if Zh1 s b.picks=3/\Yx (X5 (atI b.m b.addr.who) b.addr.beat)=2/\(atI b.m b.addr.who).parted=false/\b.addr.who≠b.holder then 3 else (doG b b.addr).2.2,if Yx (X5 (atI b.m b.addr.who) b.addr.beat)=3 then Zqf b.conf s b.picks+2 else Zqf b.conf s b.picks):=by
  unfold Jf;rw[ZZi (by simp),Ywj _ hw h.ml hmw h.model hbt.1 hbt.2,ZZa,Ytb _ _ hs,ZZa,Yq (by omega) (by omega)];have hJ2:∀(r t:Int),Zde b s b.addr (atI b.m b.addr.who) (Yx (X5 (atI b.m b.addr.who) b.addr.beat)) r t=some (if Zh1 s b.picks=2/\Yx (X5 (atI b.m b.addr.who) b.addr.beat)≠3/\(atI b.m b.addr.who).tries < b.conf.maxRetry then 2
  else if Zh1 s b.picks=3/\Yx (X5 (atI b.m b.addr.who) b.addr.beat)=2/\(atI b.m b.addr.who).parted=false/\b.addr.who≠b.holder then 3 else r,t):=by
   intro r t;unfold Zde;rw[Ytz _ hs,ZZa];generalize Yx (X5 (atI b.m b.addr.who) b.addr.beat)=sl;have hJ3:Kd b s b.addr (atI b.m b.addr.who) sl r t (Zh1 s b.picks) false=some (if Zh1 s b.picks=3/\sl=2/\(atI b.m b.addr.who).parted=false/\b.addr.who≠b.holder then 3 else r,t):=by
    unfold Kd;rw[ZZi (by simp)];by_cases e1:Zh1 s b.picks=3
    .by_cases e2:sl=2
     .by_cases e3:(atI b.m b.addr.who).parted=true
      .simp[e1,e2,e3]
      .by_cases e4:b.addr.who=b.holder<;>simp[e1,e2,e3,e4]
     .simp[e1,e2]
    .simp[e1]
   have hJ3t:Kd b s b.addr (atI b.m b.addr.who) sl r t (Zh1 s b.picks) true=some (2,t):=by
    unfold Kd;rw[ZZj rfl]
   by_cases e1:Zh1 s b.picks=2
   .by_cases e2:sl=3
    .rw[ZZj (decide_eq_true e1),ZZi (by simpa using e2),hJ3,ZZi (λhx:_/\sl≠3/\_=>hx.2.1 e2)]
    .by_cases e3:(atI b.m b.addr.who).tries < b.conf.maxRetry
     .rw[ZZj (decide_eq_true e1),ZZj (by simpa using e2),decide_eq_true e3,hJ3t,ZZj ⟨e1,e2,e3⟩]
     .rw[ZZj (decide_eq_true e1),ZZj (by simpa using e2),decide_eq_false e3,hJ3,ZZi (λhx:_/\_/\_=>e3 hx.2.2)]
   .rw[ZZi (by simpa using e1),hJ3,ZZi (λhx:_/\_/\_=>e1 hx.1)]
  by_cases e:Yx (X5 (atI b.m b.addr.who) b.addr.beat)=3
  .rw[ZZj (decide_eq_true e),hJ2,ZZj e]
  .rw[ZZi (by simpa using e),hJ2,ZZi e]
 have hJ1t:Jf b s b.addr (atI b.m b.addr.who) (Yx (X5 (atI b.m b.addr.who) b.addr.beat)) true=some (1,0):=by
  unfold Jf;rw[ZZj rfl]
 unfold Zdm;by_cases e1:(atI b.m b.addr.who).broken=true
 .rw[ZZj e1,hJ1t,ZZj (.inl e1)]
 .by_cases e2:Yx (X5 (atI b.m b.addr.who) b.addr.beat)=0
  .rw[ZZi e1,decide_eq_true e2,hJ1t,ZZj (.inr e2)]
  .rw[ZZi e1,decide_eq_false e2,hJ1,ZZi (show ¬((atI b.m b.addr.who).broken=true\/Yx (X5 (atI b.m b.addr.who) b.addr.beat)=0) fromλhx=>hx.elim e1 e2)]
theorem Ytu (a:Int):Yx a=0\/Yx a=1\/Yx a=2\/Yx a=3:=by
 unfold Yx
 repeat' split
 all_goals simp
theorem Yza (h:Yy n b) (hs:s.sm) (hp:0<=b.picks/\b.picks<=4000):Zr0 b s=some (Q2 b s):=by
 unfold Zr0 Q2;by_cases hl:b.addr.live=true
 .have hw:=Zbk h hl
  have hmw:=(h.mst _ hw).right;have hbt:=Z9h h hl;have hq:=Zrt hbt.1 hbt.2;have hwt:=Yko h.conf s b.picks;have hlm:=(Ql h.conf).2.1;have hA:=h.addr;unfold K4 at hA;rw[ZZj hl] at hA;rw[ZZi (by simp[hl]),ZZj hl,Wf h.ml hw,ZZa,Zw0 hq,ZZa,Zid _ hmw,ZZa,Z9w,ZZa,Yvb _ hs,ZZa];have hsr:=Ytu (X5 (atI b.m b.addr.who) b.addr.beat);have hJ8:∀x:Zh,Zff b s x=some {b with addr:=Zh.z0,data_:=x,picks:=b.picks+1}:=by
   intro x;unfold Zff;rw[Yq (by omega) (by omega)]
  unfold Zdm;by_cases e1:(atI b.m b.addr.who).broken=true
  .rw[ZZj e1,ZZj (.inl e1)]
   unfold Zck Zce Zct Zcg Kj Zcp Kk;simp only[if_true,e1,Va5,ZZf,if_false,hJ8,Yea]
   congr 2
   rw[hA.2.1]
  .have e1':(atI b.m b.addr.who).broken=false:=by simpa using e1
   rw[ZZi e1];generalize hsl:Yx (X5 (atI b.m b.addr.who) b.addr.beat)=sl at hsr;by_cases e2:sl=0
   .rw[decide_eq_true e2,ZZj (.inr e2)]
    unfold Zck Zce Zct Zcg Kj Zcp Kk;have f1:¬sl=3:=by omega
    have f2:¬sl=1:=by omega
    have f3:¬sl=2:=by omega
    simp only[if_true,e1',f1,f2,f3,decide_false,Vbd,ZZf,if_false,hJ8,Yea]
    congr 2
    rw[hA.2.1]
   .rw[decide_eq_false e2,ZZi (λhx=>hx.elim e1 e2)]
    unfold Zck;rw[ZZi (by simp),Ysy _ _ hs,ZZa,Yia hmw hq hbt.1 hbt.2,ZZa,Z8o _ _ _ _ h.model,ZZa];have hdo:Ze9 b.model (atI (atI b.m b.addr.who).queue 0).write (X5 (atI b.m b.addr.who) b.addr.beat) (atI (atI b.m b.addr.who).queue 0).size (Zrg (atI b.m b.addr.who) b.addr.beat)=doG b b.addr:=rfl;rw[hdo];unfold Zce Zct Zcg Kj Zcp Kk;simp only[e1',Vbd,if_true,hJ8,Yq (a:=Zqf b.conf s b.picks) (b:=2) (by omega) (by omega)];generalize Zh1 s b.picks=sd;by_cases g1:sl=3
    .subst g1
     by_cases g2:sd=2
     .subst g2;simp
     .by_cases g3:sd=3
      .subst g3;simp
      .simp[g2,g3]
    .by_cases g4:sl=2
     .subst g4
      by_cases g2:sd=2
      .subst g2
       by_cases g5:(atI b.m b.addr.who).tries < b.conf.maxRetry<;>simp[g5]
      .by_cases g3:sd=3
       .subst g3
        by_cases g5:(atI b.m b.addr.who).parted=true
        .simp[g5]
        .by_cases g6:b.addr.who=b.holder
         .simp[g5,g6]
         .have g7:¬b.holder=b.addr.who:=λe=>g6 e.symm
          simp[g5,g6,g7]
       .simp[g2,g3]
     .have g8:sl=1:=by omega
      subst g8;by_cases g2:sd=2
      .subst g2
       by_cases g5:(atI b.m b.addr.who).tries < b.conf.maxRetry<;>simp[g5]
      .by_cases g3:sd=3
       .subst g3;simp
       .simp[g2,g3]
 .rw[ZZj (by simpa using hl),ZZi hl]
  have hA:=h.addr;unfold K4 at hA;rw[ZZi hl] at hA;rw[<-hA]
theorem Ygb (b:Za) (k:Nat):((List.range (k+1)).map λj:Nat=>Kn b (j:Int))=((List.range k).map λj:Nat=>Kn b (j:Int))++[Kn b (k:Int)]:=by
 rw[List.range_succ,Vdl];rfl
theorem Z2s (h:Yy n b):b.holder=-1\/Zv b.conf b.holder=true:=by
 by_cases e:b.holder=-1
 .exact .inl e
 .exact .inr (Zfa h e).1
theorem Y1y (h:Yy n b):Zsm b=some ((Zaj b).1,(Zaj b).2.1,(Zaj b).2.2):=by
 have Yo:=Zar h.conf;have hml:=h.ml;have hL2:Zez b FU (Qw b) ((Qw b).length:Int) 0=some (match (List.range b.m.length).find? (Zaw b) with
  | some k=>((k:Int),1,{b with buckets:=b.buckets.set k (Zf4 (atI b.buckets (k:Int)) (atI b.conf.masters (k:Int))).1})
  | none=>if b.holder≠-1 then (-1,0,b) else ((Zda b.arb b.conf (Qw b)).2,2,{b with arb:=(Zda b.arb b.conf (Qw b)).1})):=by
  rw[Zd8];have key:∀(r m k:Nat),r < m->k+r=b.m.length->(∀j,j < k->Zaw b j=false)->Zez b m (Qw b) (b.m.length:Int) (k:Int)=some (match (List.range' k r).find? (Zaw b) with
  | some k=>((k:Int),1,{b with buckets:=b.buckets.set k (Zf4 (atI b.buckets (k:Int)) (atI b.conf.masters (k:Int))).1})
  | none=>if b.holder≠-1 then (-1,0,b) else ((Zda b.arb b.conf (Qw b)).2,2,{b with arb:=(Zda b.arb b.conf (Qw b)).1})):=by
   intro r
   induction r with
   | zero=>
    intro m k hm hk _;obtain⟨m,rfl⟩:∃m',m=m'+1:=⟨m - 1,by omega⟩;show Zdv b _ (Qw b) (b.m.length:Int) (k:Int)=_;unfold Zdv;rw[ZZi (by simp;omega),Yqw _ _ _ h.arb (by rw[Zd8,hml]),ZZa];by_cases e:b.holder=-1
    .simp[e]
    .simp[e]
   | succ r ih=>
    intro m k hm hk hj;obtain⟨m,rfl⟩:∃m',m=m'+1:=⟨m - 1,by omega⟩;show Zdv b _ (Qw b) (b.m.length:Int) (k:Int)=_;have hmk:=mas (c:=b.conf) (k:=k) (by omega);unfold Zdv;have hix:idx (Qw b) (k:Int)=some (Kn b (k:Int)):=by
     rw[Xq (by omega) (by rw[Zd8];omega),Zws h hmk]
    rw[ZZj (by simp;omega),hix,ZZa,Ya9 h.bl hmk,ZZa,Z2j hmk,ZZa,Yhp _ (Zk0 h.conf hmk),ZZa,Wy,ZZa,Vde,List.find?_cons];by_cases e1:Kn b (k:Int)=true
    .by_cases e2:(Zf4 (atI b.buckets (k:Int)) (atI b.conf.masters (k:Int))).2=true
     .have e3:Zaw b k=true:=by simp[Zaw,e1,e2]
      rw[e1,ZZi (by simp),ZZj e2,e3];rfl
     .have e3:Zaw b k=false:=by simp[Zaw,e1,e2]
      rw[e1,ZZi (by simp),ZZi e2,e3,Wj (by omega)];exact ih m (k+1) (by omega) (by omega) (λj hj2=>by
       by_cases hjk:j=k
       .subst hjk;exact e3
       .exact hj j (by omega))
    .have e3:Zaw b k=false:=by simp[Zaw,e1]
     have e4:Kn b (k:Int)=false:=by simpa using e1
     rw[e4,ZZj (by simp),e3,Wj (by omega)];exact ih m (k+1) (by omega) (by omega) (λj hj2=>by
       by_cases hjk:j=k
       .subst hjk;exact e3
       .exact hj j (by omega))
  have:=key b.m.length FU 0 (by have:=Qx;omega) (by omega) (λj hj=>by omega);rw[Vcy];simpa using this
 unfold Zsm;refine Zfx (σ:=List Bool) (n:=b.m.length) (by omega) (λk=>(List.range k).map λj:Nat=>Kn b (j:Int)) (B:=Zh0 b) (L:=Zjh b) (λm s i=>rfl) (λk hk κ=>?_) λκ=>?_
 .have hmk:=mas (c:=b.conf) (k:=k) (by omega)
  unfold Zh0;have Y5e:∀x:Bool,We 1 ((List.range k).map λj:Nat=>Kn b (j:Int)) [x]=some (((List.range k).map λj:Nat=>Kn b (j:Int))++[x]):=λx=>Kh (by simp;omega) (by simp;omega);rw[ZZj (by simpa using hk),Wf hml hmk,ZZa,Z7e (h.mst _ hmk).right,ZZa,Zqg h.sl hmk,ZZa,Ygb];simp only[Y5e,ZZa];unfold Kn;by_cases e1:Zp1 (atI b.m (k:Int))=true
  .by_cases e2:atI b.splits (k:Int)=0
   .by_cases e3:b.holder=-1
    .simp[e1,e2,e3]
    .simp[e1,e2,e3]
   .simp[e1,e2]
  .simp[e1]
 .unfold Zh0 Zi8
  rw[ZZi (by simp)];show (if decide (b.holder≠-1)=true then (idx (Qw b) b.holder).bind _ else _)=_;unfold Zaj;by_cases e:b.holder=-1
  .rw[ZZi (by simpa using e),ZZi (by simp),ZZi (λhx:b.holder≠-1/\_=>hx.1 e)]
   exact hL2
  .have hw:=(Zfa h e).1
   have hmb:=Wc hw;rw[ZZj (by simpa using e),Xq hmb.1 (by rw[Zd8];omega),ZZa,Zws h hw];by_cases e2:Kn b b.holder=true
   .rw[ZZj e2,ZZj ⟨e,e2⟩]
   .rw[ZZi e2,ZZi (λhx:_/\Kn b b.holder=true=>e2 hx.2)]
    exact hL2
theorem Y7g {b:Za} {i:Int} (hr:Yt (atI b.m i)) (h:Kn b i=true):(atI b.m i).queue≠[]:=by
 have:=(Yh2 h).1;have:=Je hr;intro hq;unfold Z0 at*;rw[ZZj hq] at*;omega
theorem Y2u (x0:Za) (h:Yy n b) {who by_:Int} (hw:Zv b.conf who=true):((idx b.m who).bind λa405=>
  if decide (a405.beat=0)=true then J0 x0 {b with addr:=(Zh.mk true who a405.beat true by_ 0 0 false)} a405 who
  else J0 x0 {b with addr:=(Zh.mk true who a405.beat (decide (b.last≠who)) by_ 0 0 false)} a405 who)=some (who,Z6l b who by_):=by
 obtain⟨ok,hi⟩:=Ynm (h.mst _ hw).right;rw[Wf h.ml hw,ZZa];have hJ:∀f:Bool,J0 x0 {b with addr:=(Zh.mk true who (atI b.m who).beat f by_ 0 0 false)} (atI b.m who) who=some (who,{b with addr:=Zh.mk true who (atI b.m who).beat f by_ 0 0 false,holder:=if Yl (atI b.m who)=true/\b.holder=-1 then who else b.holder,held:=if Yl (atI b.m who)=true/\b.holder=-1 then 0 else b.held,m:=b.m.set who.toNat (X6 (atI b.m who)),last:=who}):=by
  intro f;unfold J0 Zhv Zhq;simp only[Z5b,ZZa,hi,Wf h.ml hw,Wy];by_cases e1:Yl (atI b.m who)=true
  .by_cases e2:b.holder=-1
   .simp only[e1,if_true,decide_eq_true e2,true_and,ZZj e2]
   .simp only[e1,if_true,decide_eq_false e2,ZZf,if_false,true_and,ZZi e2]
  .simp only[e1,if_false,ZZf,false_and]
 unfold Z6l;by_cases e:(atI b.m who).beat=0
 .rw[ZZj (decide_eq_true e),hJ,decide_eq_true e];rfl
 .rw[ZZi (by simpa using e),hJ,decide_eq_false e,Vdw]
end
section
variable {n:Int} {b:Za} {s:Zf}
theorem Yzq (h:Yy n b):Zqm b=some ((Jd b).1,(Jd b).2):=by
 have hp:=Zxd h;unfold Zqm Jd;rw[Y1y h,ZZa];by_cases e:(Zaj b).1 < 0
 .rw[ZZj (decide_eq_true e),ZZj e]
 .rw[ZZi (by simpa using e),ZZi e]
  rcases hp.who with h1|h1
  .exact absurd (show (Zaj b).1 < 0 by rw[h1];decide) e
  .exact Y2u b hp.ok (by rw[hp.conf];exact h1.1)
theorem Y4m {c:Zc} {m:Zd} (h:Y5 c m=true):(Zf4 c m).2=decide (c.tokens > 0):=by
 unfold Zf4;by_cases hp:m.prio=true
 .have h2:=h
  unfold Y5 at h2;rw[ZZj hp] at h2;simp only[ZZg,ZZl] at h2;by_cases e:c.tokens=0
  .simp[hp,h,e]
  .have:c.tokens > 0:=by omega
   simp[hp,h,e,this]
 .have h2:=h
  unfold Y5 at h2;rw[ZZi hp] at h2;simp only[ZZg,ZZl] at h2;simp[hp,h2.1]
theorem Z9n (x0:Za) (h:Yy n b) {who by_:Int} (hw:Zv b.conf who=true) (Yiz:Kn b who=true):Ji x0 b (Zh.mk false who 0 false by_ 0 0 false)=some (Z6l b who by_):=by
 obtain⟨ok,hi⟩:=Yni (h.mst _ hw).right;have hq:=Y7g (h.mst _ hw).right Yiz;have hmb:=Wc hw;unfold Ji;simp only;rw[ZZi (by simp;omega),Wf h.ml hw,ZZa];have hh:=Z2s h;have Z7:b.holder < 0↔b.holder=-1:=by
  rcases hh with hh|hh
  .omega
  .have:=Wc hh;omega
 have hJ:∀f:Bool,Zfb x0 b (Zh.mk true who (atI b.m who).beat f by_ 0 0 false) (atI b.m who)=some {b with addr:=Zh.mk true who (atI b.m who).beat f by_ 0 0 false,holder:=if Yl (atI b.m who)=true/\b.holder=-1 then who else b.holder,held:=if Yl (atI b.m who)=true/\b.holder=-1 then 0 else b.held,m:=b.m.set who.toNat (X6 (atI b.m who)),last:=who}:=by
  intro f;unfold Zfb Zdu Zh3;simp only[Zw0 hq,ZZa,hi,Wf h.ml hw,Wy];unfold Yl;by_cases e1:(atI (atI b.m who).queue 0).lock=true
  .by_cases e2:(atI b.m who).broken=true
   .simp[e1,e2]
   .by_cases e3:b.holder=-1
    .have e4:=Z7.2 e3
     simp[e1,e2,e3,hq]
    .have e4:=mt Z7.1 e3
     simp[e1,e2,e3,e4]
  .simp[e1]
 unfold Z6l;by_cases e:(atI b.m who).beat=0
 .rw[ZZj (decide_eq_true e),hJ,decide_eq_true e];rfl
 .rw[ZZi (by simpa using e),hJ,decide_eq_false e,Vdw]
theorem Ydj (x0:Za) (c:Za) (by_:Int):Ji x0 c (Zh.mk false (-1) 0 false by_ 0 0 false)=some c:=by
 unfold Ji;rw[ZZj (by simp)]
theorem Yxf (h:Yy n b):Zsa b=some (Jd b).2:=by
 have Yo:=Zar h.conf;have hml:=h.ml;have hh:=Z2s h;have Z7:b.holder < 0↔b.holder=-1:=by
  rcases hh with hh|hh
  .omega
  .have:=Wc hh;omega
 have hp:=Zxd h;have hgo:∀(m:Nat) (c:Za) (who by_:Int) (k:Nat),0<=who->Zao b (m+1) c (Zh.mk false who 0 false by_ 0 0 false) (Qw b) (k:Int)=Ji b c (Zh.mk false who 0 false by_ 0 0 false):=by
  intro m c who by_ k hwho;have hn:¬who < 0:=by omega
  show J1 b _ c _ _ _=_;unfold J1 Zcq Zer;simp only[decide_eq_false hn,ZZf,if_false,Yea]
 have hL2:(¬(b.holder≠-1/\Kn b b.holder=true))->Zao b FU b (Zh.mk false (-1) 0 false 0 0 0 false) (Qw b) 0=some (Jd b).2:=by
  intro hnl;have key:∀(r m k:Nat),r+1 < m->k+r=b.m.length->(List.range b.m.length).find? (Zaw b)=(List.range' k r).find? (Zaw b)->Zao b m b (Zh.mk false (-1) 0 false 0 0 0 false) (Qw b) (k:Int)=some (Jd b).2:=by
   intro r
   induction r with
   | zero=>
    intro m k hm hk Zy3;obtain⟨m,rfl⟩:∃m',m=m'+1:=⟨m - 1,by omega⟩;show J1 b _ b _ (Qw b) (k:Int)=_;unfold J1 Zcq Zer;have hf:(List.range b.m.length).find? (Zaw b)=none:=by rw[Zy3];rfl
    rw[ZZi (by simp;omega),ZZi (by simp),ZZj (by simp)];have hpk:Zaj b=if b.holder≠-1 then (-1,0,b) else ((Zda b.arb b.conf (Qw b)).2,2,{b with arb:=(Zda b.arb b.conf (Qw b)).1}):=by
     unfold Zaj;rw[ZZi hnl,hf]
    by_cases e:b.holder=-1
    .rw[decide_eq_true (Z7.2 e),ZZj rfl,Yqx _ _ _ h.arb (by rw[Zd8,hml]),ZZa]
     rw[ZZi (by simpa using e)] at hpk;have hw:=hp.who;have Y4:=hp.ok;unfold Jd;rw[hpk] at hw Y4 ⊢;simp only at hw Y4 ⊢;rcases hw with hw|hw
     .rw[hw,Ydj,ZZj (by decide)]
     .have hmb:=Wc hw.1
      rw[ZZi (by omega)];exact Z9n b Y4 hw.1 hw.2.1
    .rw[decide_eq_false (mt Z7.1 e),ZZi (by simp),Ydj]
     rw[ZZj e] at hpk;unfold Jd;rw[hpk,ZZj (show (-1:Int) < 0 by decide)]
   | succ r ih=>
    intro m k hm hk Zy3;obtain⟨m,rfl⟩:∃m',m=m'+1:=⟨m - 1,by omega⟩;show J1 b _ b _ (Qw b) (k:Int)=_;have hmk:=mas (c:=b.conf) (k:=k) (by omega);have hix:idx (Qw b) (k:Int)=some (Kn b (k:Int)):=by
     rw[Xq (by omega) (by rw[Zd8];omega),Zws h hmk]
    rw[Vde,List.find?_cons] at Zy3;unfold J1 Zcq Zkc;rw[ZZj (by simp;omega),ZZj (by simp),hix,ZZa,Ya9 h.bl hmk,ZZa,ZZa,Z2j hmk,ZZa,Yf0 _ (Zk0 h.conf hmk),ZZa,Wy,ZZa,Wj (by omega),<-Y4m (h.mst _ hmk).bucket];by_cases e1:Kn b (k:Int)=true
    .by_cases e2:(Zf4 (atI b.buckets (k:Int)) (atI b.conf.masters (k:Int))).2=true
     .have e3:Zaw b k=true:=by simp[Zaw,e1,e2]
      rw[e3] at Zy3;have hpk:Zaj b=((k:Int),1,{b with buckets:=b.buckets.set k (Zf4 (atI b.buckets (k:Int)) (atI b.conf.masters (k:Int))).1}):=by
       unfold Zaj;rw[ZZi hnl,Zy3]
      rw[ZZj e1,ZZj e2];obtain⟨m,rfl⟩:∃m',m=m'+1:=⟨m - 1,by omega⟩;rw[hgo m _ _ _ _ (by omega)];have hw:=hp.who;have Y4:=hp.ok;unfold Jd;rw[hpk] at hw Y4 ⊢;simp only at hw Y4 ⊢;rcases hw with hw|hw
      .omega
      .rw[ZZi (by omega)]
       exact Z9n b Y4 hw.1 hw.2.1
     .have e3:Zaw b k=false:=by simp[Zaw,e1,e2]
      rw[e3] at Zy3;rw[ZZj e1,ZZi e2];exact ih m (k+1) (by omega) (by omega) Zy3
    .have e3:Zaw b k=false:=by simp[Zaw,e1]
     rw[e3] at Zy3;rw[ZZi e1,ZZi (by simp)];exact ih m (k+1) (by omega) (by omega) Zy3
  have:=key b.m.length FU 0 (by have:=Qx;omega) (by omega) (by rw[Vcy]);simpa using this
 unfold Zsa;refine Zfx (σ:=List Bool) (n:=b.m.length) (by omega) (λk=>(List.range k).map λj:Nat=>Kn b (j:Int)) (B:=Zht b) (L:=Zjo b) (λm s i=>rfl) (λk hk κ=>?_) λκ=>?_
 .have hmk:=mas (c:=b.conf) (k:=k) (by omega)
  unfold Zht;have Y5e:∀x:Bool,We 1 ((List.range k).map λj:Nat=>Kn b (j:Int)) [x]=some (((List.range k).map λj:Nat=>Kn b (j:Int))++[x]):=λx=>Kh (by simp;omega) (by simp;omega);rw[ZZj (by simpa using hk),Wf hml hmk,ZZa,Z68 (h.mst _ hmk).right,ZZa,Zqg h.sl hmk,ZZa,Ygb];simp only[Y5e,ZZa];unfold Kn;by_cases e1:Zp1 (atI b.m (k:Int))=true
  .by_cases e2:atI b.splits (k:Int)=0
   .by_cases e3:b.holder=-1
    .simp[e1,e2,e3]
    .have e4:=mt Z7.1 e3
     simp only[e1,e2,e3,e4,decide_true,decide_false,if_true,ZZf,if_false,Vby,Vdw]
   .simp[e1,e2]
  .simp[e1]
 .unfold Zht Zj2 Zkf
  rw[ZZi (by simp)];show (if decide (b.holder≥0)=true then (idx (Qw b) b.holder).bind _ else _)=_;by_cases e:b.holder=-1
  .rw[ZZi (by simp;omega),ZZi (by simp)]
   exact hL2 λhx=>hx.1 e
  .have hw:=(Zfa h e).1
   have hmb:=Wc hw;rw[ZZj (by simpa using hmb.1),Xq hmb.1 (by rw[Zd8];omega),ZZa,Zws h hw];by_cases e2:Kn b b.holder=true
   .have hpk:Zaj b=(b.holder,3,b):=by
     unfold Zaj;rw[ZZj ⟨e,e2⟩]
    rw[ZZj e2];have hfu:FU=(FU - 1)+1:=by decide
    show Zao b FU b (Zh.mk false b.holder 0 false 3 0 0 false) (Qw b) ((0:Nat):Int)=_;rw[hfu,hgo _ _ _ _ _ hmb.1];unfold Jd;rw[hpk,ZZi (by simp;omega)];exact Z9n b h hw e2
   .rw[ZZi e2]
    exact hL2 λhx=>e2 hx.2
theorem Ywb {α:Type} {X Y:List α} (hl:X.length=Y.length) {k:Nat} (hk:k < Y.length):idx (X.take k++Y.drop k) (k:Int)=some Y[k]/\(X.take k++Y.drop k).set k (X[k]'(by omega))=X.take (k+1)++Y.drop (k+1):=by
 have h1:(X.take k).length=k:=by rw[Vbu];omega
 constructor
 .rw[Xs (by simp;omega)]
  simp[List.getElem_append_right,h1]
 .rw[Vef _ _ (by omega),h1,Vei,Va2 hk,Vdr,List.take_succ_eq_append_getElem (show k < X.length by omega),List.append_assoc]
  rfl
def Zk9 (c:Za) (k:Nat):Za:={c with splits:=(Xh c).splits.take k++c.splits.drop k,buckets:=(Xh c).buckets.take k++c.buckets.drop k}
theorem Yv1 (c:Za):Zk9 c 0=c:=by simp[Zk9]
theorem Ymc (h:Yy n b):Zk9 b b.conf.masters.length=Xh b:=by
 have h1:=h.sl;have h2:=h.bl;unfold Zk9 Xh;simp only;rw[Vbi (by simp;omega),Vcq (by omega),Vbi (by simp;omega),Vcq (by omega),Vb2,Vb2]
theorem Yhz (h:Yy n b) {k:Nat} (hk:k < b.conf.masters.length):idx (Zk9 b k).splits (k:Int)=some (atI b.splits (k:Int))/\(Zk9 b k).splits.set k (max (atI b.splits (k:Int) - 1) 0)=(Zk9 b (k+1)).splits/\
  idx (Zk9 b k).buckets (k:Int)=some (atI b.buckets (k:Int))/\(Zk9 b k).buckets.set k (Zs2 (atI b.buckets (k:Int)) (atI b.conf.masters (k:Int)))=(Zk9 b (k+1)).buckets:=by
 have h1:=h.sl;have h2:=h.bl;have m1:=Ywb (X:=(Xh b).splits) (Y:=b.splits) (by simp[Xh]) (k:=k) (by omega);have m2:=Ywb (X:=(Xh b).buckets) (Y:=b.buckets) (by simp[Xh];omega) (k:=k) (by omega);rw[Qk (by omega),Qk (by omega),Qk hk];refine⟨m1.1,?_,m2.1,?_⟩
 .have:=m1.2
  simp only[Xh,List.getElem_map] at this;exact this
 .have:=m2.2
  simp only[Xh,List.getElem_zipWith] at this;exact this
end
section
variable {n:Int} {b:Za} {s:Zf}
theorem Yci (h:Yy n b) (s:Zf) (hd:b.data_=Zh.z0):Yy n (Xd b)/\Yy n (Q2 (Xd b) s):=⟨Yd9 h,(Yeq (Yd9 h) s (by rw[(Zyv b).1];exact hd)).1⟩
theorem Yqh (x0:Za) (w:Zt) (h:Yy n b) (hs:s.sm) (hd:b.data_=Zh.z0) (hp:0<=b.picks/\b.picks<=4000) (hn:0<=b.now/\b.now<=4000):(if decide (b.holder≠(-1))=true then Jg x0 s b w (decide (b.held=b.conf.lockMost)) else Jg x0 s b w false)=some ({w with got:=(Ww b s).1},{(Ww b s).2 with now:=b.now+1}):=by
 obtain⟨h1,h2⟩:=Yci h s hd;have e1:=Zyv b;have hJ9:∀(c:Za) (w:Zt),Yy n c->c.now=b.now->Zfg x0 s c w=some ({w with got:=(Jd c).1},{(Jd c).2 with now:=b.now+1}):=by
  intro c w hc hcn;unfold Zfg Zet;rw[Yzq hc,ZZa];simp only;rw[(Z6b hc).1,hcn,Yq (by omega) (by omega)]
 have hJ8:∀w:Zt,Zcm x0 s (Xd b) w=some ({w with got:=(Ww b s).1},{(Ww b s).2 with now:=b.now+1}):=by
  intro w;unfold Zcm Ww;have e2:=Z5k (Xd b) s;by_cases hl:(Xd b).addr.live=true
  .rw[ZZj hl,Yva h1 hs hl,ZZa,Yq (by rw[e1.2.2.1];omega) (by rw[e1.2.2.1];omega)]
   have hb:Q2 (Xd b) s={Xd b with addr:=Zh.z0,data_:={(Xd b).addr with left:=(Zdm (Xd b) s (Xd b).addr).2,resp:=(Zdm (Xd b) s (Xd b).addr).1},picks:=(Xd b).picks+1}:=by
    unfold Q2;rw[ZZj hl]
   rw[<-hb];exact hJ9 _ _ h2 (by rw[e2.1,e1.2.2.2.1])
  .rw[ZZi hl]
   have hb:Q2 (Xd b) s=Xd b:=by
    unfold Q2;rw[ZZi hl]
   rw[hb];exact hJ9 _ _ h1 e1.2.2.2.1
 have hJ6:Jg x0 s b w false=Zcm x0 s b w:=by unfold Jg;rw[ZZi (by simp)]
 by_cases e:b.holder=-1
 .have hb:Xd b=b:=by unfold Xd;rw[ZZi (λhx:b.holder≠-1/\b.held=b.conf.lockMost=>hx.1 e)]
  rw[ZZi (by simpa using e),hJ6];have:=hJ8 w
  rwa [hb] at this
 .rw[ZZj (by simpa using e)]
  by_cases e2:b.held=b.conf.lockMost
  .have hb:Xd b=Yye {b with m:=b.m.set b.holder.toNat {atI b.m b.holder with broken:=true}}:=by unfold Xd;rw[ZZj ⟨e,e2⟩]
   unfold Jg Zmr;rw[decide_eq_true e2,ZZj rfl,Wf h.ml (Zfa h e).1,ZZa,Wy,ZZa,ZZa];have:=hJ8 w;rw[hb] at this;exact this
  .have hb:Xd b=b:=by unfold Xd;rw[ZZi (λhx:b.holder≠-1/\b.held=b.conf.lockMost=>e2 hx.2)]
   rw[decide_eq_false e2,hJ6];have:=hJ8 w
   rwa [hb] at this
theorem Yqp (x0:Za) (w:Zt) (h:Yy n b) (hs:s.sm) (hd:b.data_=Zh.z0) (hp:0<=b.picks/\b.picks<=4000) (hn:0<=b.now/\b.now<=4000) (hg:w.got=-1):(if decide (b.holder≥0)=true then J4 x0 s b w (decide (b.held≥b.conf.lockMost)) else J4 x0 s b w false)=some ({(Ww b s).2 with now:=b.now+1},{w with got:=(Ww b s).1}):=by
 obtain⟨h1,h2⟩:=Yci h s hd;have e1:=Zyv b;have e2:=Z5k (Xd b) s;have hz:=(Yeq h1 s (by rw[e1.1];exact hd)).2;have hJ9:Zdj x0 s (Xd b) w=some ({(Ww b s).2 with now:=b.now+1},{w with got:=(Ww b s).1}):=by
  unfold Zdj Zdh Ww;have hgr:=Yxf h2;have hgd:=(Z6b h2).1;rw[Yza h1 hs (by rw[e1.2.2.1];exact hp),ZZa,hgr,ZZa];have hpk:=Zxd h2;rw[hgd,e2.1,e1.2.2.2.1,Yq (by omega) (by omega)];unfold Jd;rcases hpk.who with hw|hw
  .rw[ZZj (show (Zaj (Q2 (Xd b) s)).1 < 0 by rw[hw];decide)]
   have:(Zaj (Q2 (Xd b) s)).2.2.addr.live=false:=by rw[hpk.addr,hz]
   rw[ZZi (by simp[this])];rw[show (-1,(Zaj (Q2 (Xd b) s)).2.2).1=w.got from hg.symm]
  .have hmb:=Wc hw.1
   rw[ZZi (show ¬(Zaj (Q2 (Xd b) s)).1 < 0 by omega),ZZj (by rfl)];rfl
 have hh:=Z2s h;have Z7:b.holder≥0↔b.holder≠-1:=by
  rcases hh with hh|hh
  .omega
  .have:=Wc hh;omega
 have hJ7:J4 x0 s b w false=Zdj x0 s b w:=by unfold J4;rw[ZZi (by simp)]
 by_cases e:b.holder=-1
 .have hb:Xd b=b:=by unfold Xd;rw[ZZi (λhx:b.holder≠-1/\b.held=b.conf.lockMost=>hx.1 e)]
  rw[ZZi (by simp;omega),hJ7]
  rwa [hb] at hJ9
 .rw[ZZj (by simpa using Z7.2 e)]
  have hhe:=(Zfa h e).2.2.2;by_cases e2:b.held=b.conf.lockMost
  .have hb:Xd b=Yye {b with m:=b.m.set b.holder.toNat {atI b.m b.holder with broken:=true}}:=by unfold Xd;rw[ZZj ⟨e,e2⟩]
   unfold J4;rw[decide_eq_true (show b.held≥b.conf.lockMost by omega),ZZj rfl,Wf h.ml (Zfa h e).1,ZZa,Wy,ZZa];rw[hb] at hJ9;exact hJ9
  .have hb:Xd b=b:=by unfold Xd;rw[ZZi (λhx:b.holder≠-1/\b.held=b.conf.lockMost=>e2 hx.2)]
   rw[decide_eq_false (show ¬b.held≥b.conf.lockMost by omega),hJ7]
   rwa [hb] at hJ9
theorem Y6h (x0:Za) (w:Zt) (h:Yy b.now b) (hs:s.sm) (hw:w.ready=true) (hg:w.resp=0) (hp:0<=b.picks/\b.picks<=4000) (hn:0<=b.now/\b.now < 4000):
  Jc x0 s b w=some (if (Ya b s).2.1=true then ({w with resp:=(Ya b s).2.2,got:=(Ww (Ya b s).1 s).1},{(Ww (Ya b s).1 s).2 with now:=b.now+1}) else ({w with ready:=false,resp:=(Ya b s).2.2},{(Ya b s).1 with now:=b.now+1})):=by
 have hf:=Z85 s hn.1 h;have hfn:=Z6r b s;obtain⟨w1,w2,w3,w4,w5,w6,rdy,rsp,w9⟩:=w;simp only at hw hg;subst hw;subst hg;unfold Jc;rw[Yul (Zt.mk w1 w2 w3 w4 w5 w6 true 0 w9) h hs (by omega),ZZa];simp only;have hresp:(if b.data_.live=true/\¬b.data_.left > 0 then Zt.mk w1 w2 w3 w4 w5 w6 true b.data_.resp w9 else Zt.mk w1 w2 w3 w4 w5 w6 true 0 w9)=Zt.mk w1 w2 w3 w4 w5 w6 true (Ya b s).2.2 w9:=by
  unfold Ya;by_cases hd:b.data_.live=true
  .by_cases hl:b.data_.left > 0
   .rw[ZZi (λhx:b.data_.live=true/\¬b.data_.left > 0=>hx.2 hl),ZZi (by simp[hd]),ZZj hl]
   .rw[ZZj ⟨hd,hl⟩,ZZi (by simp[hd]),ZZi hl]
    congr 1
    split
    .rfl
    .split
     .rfl
     .split<;>rfl
  .rw[ZZi (λhx:b.data_.live=true/\¬b.data_.left > 0=>hd hx.1),ZZj (by simpa using hd)]
 rw[hresp];by_cases hr:(Ya b s).2.1=true
 .rw[ZZj hr,ZZj hr]
  simp only[hr];have:=Yqh x0 (Zt.mk w1 w2 w3 w4 w5 w6 true (Ya b s).2.2 w9) hf.1 hs (hf.2 hr) (by rw[hfn.2.1];exact hp) (by rw[hfn.1];omega);rw[hfn.1] at this;exact this
 .rw[ZZi hr,ZZi hr]
  unfold Zet;have Z6:(Ya b s).2.1=false:=by simpa using hr
  rw[Z6,hfn.1,Yq (by omega) (by omega)]
theorem Y7b (x0:Za) (w:Zt) (h:Yy b.now b) (hs:s.sm) (hw:w.ready=true) (hg:w.resp=0) (hgot:w.got=-1) (hp:0<=b.picks/\b.picks<=4000) (hn:0<=b.now/\b.now < 4000):
  J6 x0 s b w=some (if (Ya b s).2.1=true then ({(Ww (Ya b s).1 s).2 with now:=b.now+1},{w with resp:=(Ya b s).2.2,got:=(Ww (Ya b s).1 s).1}) else ({(Ya b s).1 with now:=b.now+1},{w with ready:=false,resp:=(Ya b s).2.2})):=by
 have hf:=Z85 s hn.1 h;have hfn:=Z6r b s;have Yz1:=(Ql h.conf).2.1;obtain⟨w1,w2,w3,w4,w5,w6,rdy,rsp,w9⟩:=w;simp only at hw hg hgot;subst hw;subst hg;subst hgot;have hT:∀w2:Zt,w2.ready=true->w2.got=-1->(Ya b s).2.1=true->Q8 x0 s (Ya b s).1 w2=some ({(Ww (Ya b s).1 s).2 with now:=b.now+1},{w2 with got:=(Ww (Ya b s).1 s).1}):=by
  intro w2 h1 h2 hr;unfold Q8;rw[ZZj h1];have:=Yqp x0 w2 hf.1 hs (hf.2 hr) (by rw[hfn.2.1];exact hp) (by rw[hfn.1];omega) h2;rw[hfn.1] at this;exact this
 have hF:∀(c:Za) (w2:Zt),w2.ready=false->c.now=b.now->Q8 x0 s c w2=some ({c with now:=b.now+1},w2):=by
  intro c w2 h1 h2;unfold Q8 Zdh;rw[ZZi (by simp[h1]),h2,Yq (by omega) (by omega)]
 unfold J6 Zla;by_cases hd:b.data_.live=true
 .have Za6:=h.data
  unfold Kl at Za6;rw[ZZj hd] at Za6;rw[ZZj hd];by_cases hl:b.data_.left > 0
  .have e:Ya b s=({b with data_:={b.data_ with left:=b.data_.left - 1}},false,0):=by
    unfold Ya;rw[ZZi (by simp[hd]),ZZj hl]
   rw[decide_eq_true hl,ZZj rfl,Xe (by omega) (by omega),hF {b with data_:={b.data_ with left:=b.data_.left - 1}} (Zt.mk w1 w2 w3 w4 w5 w6 false 0 (-1)) rfl rfl,e,ZZi (by simp)]
  .rw[decide_eq_false hl,ZZi (by simp),ZZj hd]
   have Yiy:¬(b.data_.resp≠0/\b.data_.second=false)->J2 x0 s b (Zt.mk w1 w2 w3 w4 w5 w6 true 0 (-1)) false=some (if (Ya b s).2.1=true then ({(Ww (Ya b s).1 s).2 with now:=b.now+1},Zt.mk w1 w2 w3 w4 w5 w6 true (Ya b s).2.2 (Ww (Ya b s).1 s).1) else ({(Ya b s).1 with now:=b.now+1},Zt.mk w1 w2 w3 w4 w5 w6 false (Ya b s).2.2 (-1))):=by
    intro hns;unfold J2;rw[ZZi (by simp),ZZj hd,Yus h hs (by omega) hd hl hns,ZZa];have hr:(Ya b s).2.1=true/\(Ya b s).2.2=b.data_.resp:=by
     unfold Ya;rw[ZZi (by simp[hd]),ZZi hl,ZZi hns];split
     .exact⟨rfl,rfl⟩
     .split<;>exact⟨rfl,rfl⟩
    rw[ZZj hr.1,hr.2];exact hT _ rfl rfl hr.1
   by_cases h2:b.data_.resp≠0
   .rw[ZZj (decide_eq_true h2)]
    by_cases h3:b.data_.second=false
    .rw[h3]
     have e:Ya b s=(if b.addr.live then {Wh {b with data_:={b.data_ with second:=true}} b.addr with addr:=Zh.z0} else {b with data_:={b.data_ with second:=true}},false,b.data_.resp):=by
      unfold Ya;rw[ZZi (by simp[hd]),ZZi hl,ZZj ⟨h2,h3⟩]
     have hq:∀(x y:Option (Za×Zt)),(if (Ya b s).2.1=true then x else y)=y:=by
      intro x y;rw[e];exact ZZi (by simp)
     have hq2:(some (if (Ya b s).2.1=true then ({(Ww (Ya b s).1 s).2 with now:=b.now+1},Zt.mk w1 w2 w3 w4 w5 w6 true (Ya b s).2.2 (Ww (Ya b s).1 s).1) else ({(Ya b s).1 with now:=b.now+1},Zt.mk w1 w2 w3 w4 w5 w6 false (Ya b s).2.2 (-1))))=some ({(Ya b s).1 with now:=b.now+1},Zt.mk w1 w2 w3 w4 w5 w6 false b.data_.resp (-1)):=by
      rw[show (Ya b s).2.2=b.data_.resp by rw[e]];exact congrArg some (ZZi (by rw[e];simp))
     refine Eq.trans ?_ hq2.symm;unfold J2;rw[ZZj (by rfl),show (Ya b s).1=(if b.addr.live then {Wh {b with data_:={b.data_ with second:=true}} b.addr with addr:=Zh.z0} else {b with data_:={b.data_ with second:=true}}) by rw[e]];by_cases ha:b.addr.live=true
     .rw[ZZj ha,ZZj ha]
      have hwa:=Zbk h ha;rw[Z3f (b:={b with addr:=Zh.z0,data_:={b.data_ with second:=true}}) b.addr h.conf hwa h.ml h.bl (h.mst _ hwa).right h.arb,ZZa];have er:Wh {b with addr:=Zh.z0,data_:={b.data_ with second:=true}} b.addr={Wh {b with data_:={b.data_ with second:=true}} b.addr with addr:=Zh.z0}:=by
       unfold Wh;split
       .rfl
       .split<;>rfl
      rw[er];exact hF _ _ rfl (Zx3 _ _).1
     .rw[ZZi ha,ZZi ha]
      exact hF _ _ rfl rfl
    .have h4:b.data_.second=true:=by simpa using h3
     rw[h4,Va5];exact Yiy λhx=>h3 hx.2
   .rw[ZZi (by simpa using h2)]
    exact Yiy λhx=>h2 hx.1
 .have hd2:b.data_.live=false:=by simpa using hd
  have e:Ya b s=(b,true,0):=by unfold Ya;rw[ZZj hd2]
  rw[ZZi hd,ZZi (by simp),ZZi hd];unfold J2;have:=hT (Zt.mk w1 w2 w3 w4 w5 w6 true 0 (-1)) rfl rfl (by rw[e]);rw[e] at this ⊢;rw[ZZi (by simp),ZZi hd,ZZj rfl];simp only at this ⊢;rw[this]
theorem Y52 (x0:Za) (w:Zt) (h:Yy b.now b) (hs:s.sm) (hw:w.ready=true) (hg:w.resp=0) (hp:0<=b.picks/\b.picks<=4000) (hn:0<=b.now/\b.now < 4000):
  Zaq x0 s FU b w (b.splits.length:Int) 0=Jc x0 s (Ju (Xh b)) w:=by
 have Yo:=Zar h.conf;have hsl:=h.sl;rw[hsl];have:=Zfx (σ:=Za×Zt×Int) (n:=b.conf.masters.length) (by omega) (λk=>(Zk9 b k,w,(b.conf.masters.length:Int))) (B:=λκ st i=>Zhy x0 s (λa b c i=>κ (a,b,c) i) st.1 st.2.1 st.2.2 i) (L:=λm st i=>Zaq x0 s m st.1 st.2.1 st.2.2 i) (λm s i=>rfl) (r:=Jc x0 s (Ju (Xh b)) w) (λk hk κ=>?_) λκ=>?_
 .simp only[Yv1] at this
  exact this
 .have hmk:=mas (c:=b.conf) hk
  obtain⟨t1,t2,t3,t4⟩:=Yhz h hk;have hsp:=(h.mst _ hmk).split;have hlm:=(Ql h.conf).2.2.2;unfold Zhy;simp only;rw[ZZj (by simpa using hk),t1,ZZa,Wy,ZZa,t3,ZZa,show (Zk9 b k).conf=b.conf from rfl,Z2j hmk,ZZa,Yhm _ (Zk0 h.conf hmk),ZZa,Wy,ZZa,Xe (by omega) (by omega),Zun,Vcd,t2,t4];rfl
 .have hto:=Z56 h
  unfold Zhy;simp only[Ymc h];rw[ZZi (by simp)];unfold Ju;by_cases e:b.holder=-1
  .rw[ZZi (by simp[Xh,e]),ZZj (show (Xh b).holder=-1 from e)]
  .have hh:=(Zfa hto (show (Xh b).holder≠-1 from e)).2.2.2
   have hl:=(Ql h.conf).2.2.1;have h3:(Xh b).conf.lockMost=b.conf.lockMost:=rfl;rw[ZZj (by simp[Xh,e]),ZZi (show ¬(Xh b).holder=-1 from e),Yq (by omega) (by omega),Zcf]
theorem Y68 (x0:Za) (w:Zt) (h:Yy b.now b) (hs:s.sm):Zbd x0 s FU b w 0=J6 x0 s (Ju (Xh b)) w:=by
 have Yo:=Zar h.conf;have hml:=h.ml;have:=Zfx (σ:=Za×Zt) (n:=b.conf.masters.length) (by omega) (λk=>(Zk9 b k,w)) (B:=λκ st i=>Zj8 x0 s (λa b i=>κ (a,b) i) st.1 st.2 i) (L:=λm st i=>Zbd x0 s m st.1 st.2 i) (λm s i=>rfl) (r:=J6 x0 s (Ju (Xh b)) w) (λk hk κ=>?_) λκ=>?_
 .simp only[Yv1] at this
  exact this
 .have hmk:=mas (c:=b.conf) hk
  obtain⟨t1,t2,t3,t4⟩:=Yhz h hk;have hsp:=(h.mst _ hmk).split;have hlm:=(Ql h.conf).2.2.2;unfold Zj8;simp only;rw[ZZj (by show decide ((k:Int) < (b.m.length:Int))=true;rw[hml];simpa using hk),t1,ZZa,Wy,ZZa,t3,ZZa,show (Zk9 b k).conf=b.conf from rfl,Z2j hmk,ZZa,Yhb _ (Zk0 h.conf hmk),ZZa,Wy,ZZa,Xe (by omega) (by omega),Zun,Int.max_comm,Vcd,t2,t4];rfl
 .have hto:=Z56 h
  have hh:=Z2s h;unfold Zj8;simp only[Ymc h];rw[ZZi (by show ¬decide ((b.conf.masters.length:Int) < (b.m.length:Int))=true;rw[hml];simp)];unfold Ju;by_cases e:b.holder=-1
  .rw[ZZi (by show ¬decide (b.holder≥0)=true;rw[e];simp),ZZj (show (Xh b).holder=-1 from e)]
  .have hh2:=(Zfa hto (show (Xh b).holder≠-1 from e)).2.2.2
   have hl:=(Ql h.conf).2.2.1;have h3:(Xh b).conf.lockMost=b.conf.lockMost:=rfl;have hmb:=Wc (Zfa h e).1;rw[ZZj (by show decide (b.holder≥0)=true;simpa using hmb.1),ZZi (show ¬(Xh b).holder=-1 from e),Yq (by omega) (by omega),Zcf,Vdo]
theorem Yu2 (h:Yy n b):Zig b s=Zfc b s (Zl2 b):=by
 unfold Zig Zey Zl2;by_cases ha:b.addr.live=true
 .have hwa:=Zbk h ha
  by_cases hd:b.data_.live=true
  .have hwd:=Qz h hd
   simp only[ha,hd,if_true,Wf h.ml hwa,Wf h.ml hwd,ZZa,Ze8 _ (h.mst _ hwa).right,Ze8 _ (h.mst _ hwd).right];by_cases hf:b.addr.first=true<;>simp[hf]
  .have hd2:b.data_.live=false:=by simpa using hd
   simp only[ha,hd2,if_true,ZZf,if_false,Wf h.ml hwa,ZZa,Ze8 _ (h.mst _ hwa).right];by_cases hf:b.addr.first=true<;>simp[hf]
 .have Kv:b.addr.live=false:=by simpa using ha
  by_cases hd:b.data_.live=true
  .have hwd:=Qz h hd
   simp only[Kv,hd,if_true,ZZf,if_false,Wf h.ml hwd,ZZa,Ze8 _ (h.mst _ hwd).right]
  .have hd2:b.data_.live=false:=by simpa using hd
   simp only[Kv,hd2,if_true,ZZf,if_false]
theorem Y08 (h:Yy n b):Zwa b=some (Zl2 b):=by
 unfold Zwa Zf6 Zl2;by_cases ha:b.addr.live=true
 .have hwa:=Zbk h ha
  by_cases hd:b.data_.live=true
  .have hwd:=Qz h hd
   simp only[ha,hd,if_true,Wf h.ml hwa,Wf h.ml hwd,ZZa,Zid _ (h.mst _ hwa).right,Zid _ (h.mst _ hwd).right];by_cases hf:b.addr.first=true<;>simp[hf]
  .have hd2:b.data_.live=false:=by simpa using hd
   simp only[ha,hd2,if_true,ZZf,if_false,Wf h.ml hwa,ZZa,Zid _ (h.mst _ hwa).right];by_cases hf:b.addr.first=true<;>simp[hf]
 .have Kv:b.addr.live=false:=by simpa using ha
  by_cases hd:b.data_.live=true
  .have hwd:=Qz h hd
   simp only[Kv,hd,if_true,ZZf,if_false,Wf h.ml hwd,ZZa,Zid _ (h.mst _ hwd).right]
  .have hd2:b.data_.live=false:=by simpa using hd
   simp only[Kv,hd2,if_true,ZZf,if_false]
theorem Y62 (x0:Za) (w:Zt) (h:Yy n b) (ps:List Zl) (hps:ps.length < 1048577/\∀p∈ps,p.req.sm):Ze6 x0 s FU b w ps (ps.length:Int) 0=Zaq x0 s FU (Xw b ps) w ((Xw b ps).splits.length:Int) 0:=by
 have Z7:=Zcj h.conf;have:=Zfx (σ:=Za×Zt×List Zl×Int) (n:=ps.length) (by omega) (λk=>(Xw b (ps.take k),w,ps,(ps.length:Int))) (B:=λκ st i=>Zhu x0 s (λa b c d i=>κ (a,b,c,d) i) st.1 st.2.1 st.2.2.1 st.2.2.2 i) (L:=λm st i=>Ze6 x0 s m st.1 st.2.1 st.2.2.1 st.2.2.2 i) (λm s i=>rfl) (r:=Zaq x0 s FU (Xw b ps) w ((Xw b ps).splits.length:Int) 0) (λk hk κ=>?_) λκ=>?_
 .exact this
 .have hI:=Zt9 h (ps.take k)
  have hc:=(Zny b (ps.take k)).1;rw[Yaa b ps k hk];generalize Xw b (ps.take k)=c at hI hc ⊢;unfold Zhu Kx;simp only;rw[ZZj (by simpa using hk),Xs hk,ZZa,Jr _ _ (by rw[hc];exact Z7),ZZa];by_cases e:Zv c.conf ps[k].who=true
  .obtain⟨ok,hp⟩:=Yp0 (r:=ps[k].req) (hI.mst _ e).right (hps.2 _ (Vaq hk))
   rw[ZZj e,ZZj e,Wf hI.ml e,ZZa,hp,ZZa,Wy,ZZa]
  .rw[ZZi e,ZZi e]
 .unfold Zhu
  simp only;rw[ZZi (by simp),Vbx]
theorem Y7d (x0:Za) (w:Zt) (h:Yy n b) (ps:List Zl) (hps:ps.length < 1048577/\∀p∈ps,p.req.sm):Zf7 x0 s FU b w ps 0=Zbd x0 s FU (Xw b ps) w 0:=by
 have Z7:=Zcj h.conf;have:=Zfx (σ:=Za×Zt×List Zl) (n:=ps.length) (by omega) (λk=>(Xw b (ps.take k),w,ps)) (B:=λκ st i=>Zjl x0 s (λa b c i=>κ (a,b,c) i) st.1 st.2.1 st.2.2 i) (L:=λm st i=>Zf7 x0 s m st.1 st.2.1 st.2.2 i) (λm s i=>rfl) (r:=Zbd x0 s FU (Xw b ps) w 0) (λk hk κ=>?_) λκ=>?_
 .exact this
 .have hI:=Zt9 h (ps.take k)
  have hc:=(Zny b (ps.take k)).1;rw[Yaa b ps k hk];generalize Xw b (ps.take k)=c at hI hc ⊢;unfold Zjl Kx;simp only;rw[ZZj (by simpa using hk),Xs hk,ZZa,Zkl hI.ml (by rw[hc];exact Z7),ZZa];by_cases e:Zv c.conf ps[k].who=true
  .obtain⟨ok,hp⟩:=Yn9 (r:=ps[k].req) (hI.mst _ e).right (hps.2 _ (Vaq hk))
   rw[ZZj e,ZZj e,Wf hI.ml e,ZZa,hp,ZZa,Wy,ZZa]
  .rw[ZZi e,ZZi e]
 .unfold Zjl
  simp only;rw[ZZi (by simp),Vbx]
end
theorem Yl7 {b:Za} {s:Zf} (h:Zif b) (hs:s.sm) (hn:b.now < 4000):Zig b s=some ((Zd7 b s).2,(Zd7 b s).1):=by
 have hP:=Zt9 h.i (Zbr s b.now);have hc:=Zny b (Zbr s b.now);have hp:=h.picks;have hn2:=h.now;have hO:=Ykq h s;have eO:=Z8i b s;rw[Yu2 h.i];unfold Zfc;rw[Ypv _ _ hs,ZZa,Y62 b (Zl2 b) h.i _ (Yo3 hs _)];have hP2:Yy (Xw b (Zbr s b.now)).now (Xw b (Zbr s b.now)):=by rw[hc.2.1];exact hP
 rw[Y52 b (Zl2 b) hP2 hs rfl rfl (by rw[hc.2.2.1];omega) (by rw[hc.2.1];omega)];have hO2:Yy (Kw b s).now (Kw b s):=by rw[eO.1];exact hO
 show Jc b s (Kw b s) (Zl2 b)=_;rw[Y6h b (Zl2 b) hO2 hs rfl rfl (by rw[eO.2.2.1];omega) (by rw[eO.1];omega),eO.1];unfold Zd7;split<;>rfl
theorem Yl2 {b:Za} {s:Zf} (h:Zif b) (hs:s.sm) (hn:b.now < 4000):Zvj b s=some ((Zd7 b s).1,(Zd7 b s).2):=by
 have hP:=Zt9 h.i (Zbr s b.now);have hc:=Zny b (Zbr s b.now);have hp:=h.picks;have hn2:=h.now;have hO:=Ykq h s;have eO:=Z8i b s;unfold Zvj;rw[Z71 b h.sm,ZZa,Y08 h.i,ZZa,Ypu _ _ hs,ZZa,Y7d b (Zl2 b) h.i _ (Yo3 hs _)];have hP2:Yy (Xw b (Zbr s b.now)).now (Xw b (Zbr s b.now)):=by rw[hc.2.1];exact hP
 rw[Y68 b (Zl2 b) hP2 hs];have hO2:Yy (Kw b s).now (Kw b s):=by rw[eO.1];exact hO
 show J6 b s (Kw b s) (Zl2 b)=_;rw[Y7b b (Zl2 b) hO2 hs rfl rfl rfl (by rw[eO.2.2.1];omega) (by rw[eO.1];omega),eO.1];unfold Zd7;split<;>rfl
def okB (b:Za):Bool:=(Zno b).getD false
theorem Yi9 {b:Za} (hs:b.sm):okB b=true↔Zif b:=by
 obtain⟨r,-,h2,h3⟩:=Yeb b hs;unfold okB;rw[h2];exact h3
theorem i_okB {b:Za} (hs:b.sm):Zrj b=some (okB b):=by
 obtain⟨r,h1,h2,h3⟩:=Yeb b hs;unfold okB;rw[h1,h2];rfl
theorem s_okB {b:Za} (hs:b.sm):Zno b=some (okB b):=by
 obtain⟨r,h1,h2,h3⟩:=Yeb b hs;unfold okB;rw[h2];rfl
def Znb (b:Za):Bool:=b.m.all λm=>decide (m.queue=[])
theorem Yu7 {b:Za} (hl:b.m.length < 1048577):Zos b=some (Znb b):=by
 unfold Zos Qn Q4;have e:∀a:Zb,Zew a=some (!decide (a.queue=[])):=by
  intro a;unfold Zew;by_cases h:a.queue=[]
  .simp[h]
  .have:=Van.2 h
   simp only[h,decide_false,Vbd];exact congrArg some (decide_eq_true (by omega))
 rcases Z5y b.m (by omega) Zew (λm=>decide (m.queue=[])) (λa _=>e a) (X4 b.m) (λm i=>rfl) with⟨h1,h2⟩|⟨k,hk,h2,h3,-⟩
 .rw[h2]
  unfold Znb;rw[h1];rfl
 .rw[h2]
  have:Znb b=false:=by
   unfold Znb;rw[List.all_eq_false];exact⟨_,Vaq hk,by rw[h3];simp⟩
  rw[this];simp
theorem Y4c {α ρ:Type} (xs:List α) (hl:xs.length < 4611686018427387904) (c:α->Bool) {no:Option ρ} (fin:Option ρ) (L:Nat->Int->Option ρ)
  (hL:∀m i,L (m+1) i=if decide (i < (xs.length:Int))=true then (idx xs i).bind λa=>if c a=true then no else L m (Zs i 1) else fin):L FU 0=if xs.any c=true then no else fin:=by
 have key:∀(m k:Nat),k<=xs.length->xs.length - k < m->L m (k:Int)=if (xs.drop k).any c=true then no else fin:=by
  intro m
  induction m with
  | zero=>intro k _ h;omega
  | succ m ih=>
   intro k hk hm;rw[hL];by_cases hc:k < xs.length
   .rw[ZZj (by simpa using hc),Xs hc,ZZa,Wj (by omega),ih (k+1) (by omega) (by omega),Va2 hc,Vcl]
    by_cases h:c xs[k]=true
    .simp[h]
    .simp[h]
   .rw[ZZi (by simpa using hc),Vcq (by omega)]
    simp
 have:=key FU 0 (Vbk _) (by have:=Qx;omega);simpa using this
theorem Y25 (b:Za):(b.m.any λa=>decide ((a.queue.length:Int) > 0))=!Znb b:=by
 unfold Znb;rw[List.not_all_eq_any_not]
 congr 1
 funext a
 by_cases h:a.queue=[]
 .simp[h]
 .have:=Van.2 h
  simp only[h,decide_false,Vbd];exact decide_eq_true (by omega)
def Zx5 (s:Zf):Int:=s.posts.foldl (λm p=>Zm5 m p.at_) (-1)
theorem Ymv (s:Zf) (hl:s.posts.length < 1048577):Zse s=some (Zx5 s):=by
 unfold Zse;rw[Zz9 (ρ:=Int) s.posts (by omega) (λ(p:Zl) m=>some (.inl (Zm5 m p.at_))) (λm=>some m) (Zj3 s) (λm v i=>rfl) (-1)];exact Ylm _ _ (λm (p:Zl)=>Zm5 m p.at_) (λ_ _=>True) (λa l s _=>⟨rfl,trivial⟩) _ _ trivial
theorem Ymx (s:Zf) (hl:s.posts.length < 1048577):Zt4 s=some (Zx5 s):=by
 unfold Zt4;rw[Zz9 (ρ:=Int) s.posts (by omega) (λ(p:Zl) m=>some (.inl (Zm5 m p.at_))) (λm=>some m) (Zja s) (λm v i=>rfl) (-1)];exact Ylm _ _ (λm (p:Zl)=>Zm5 m p.at_) (λ_ _=>True) (λa l s _=>⟨rfl,trivial⟩) _ _ trivial
theorem Ypw {b:Za} (hl:b.m.length < 1048577):Zv3 b=some (Znb b):=by
 unfold Zv3;rw[Y4c b.m (by omega) (λa=>decide ((a.queue.length:Int) > 0)) (some true) (Zlg b) (λm i=>rfl),Y25];cases Znb b<;>simp
def Zvi (s:Zf) (b:Za):Prop:=b.now < 4000/\(Znb b=false\/b.now<=Zx5 s)
instance (s:Zf) (b:Za):Decidable (Zvi s b):=by unfold Zvi;infer_instance
def Zih (s:Zf):Nat->Za->Za
 | 0,b=>b
 | f+1,b=>if Zvi s b then Zih s f (Zd7 b s).1 else b
def Z9c (b:Za) (s:Zf):Za×Int:=if okB b=true then (Zih s (4000 - b.now).toNat b,(Zih s (4000 - b.now).toNat b).now - b.now) else (b,0)
theorem Y6f (s:Zf):∀(f:Nat) {b:Za},Zif b->f=(4000 - b.now).toNat->Zif (Zih s f b)/\¬Zvi s (Zih s f b)/\b.now<=(Zih s f b).now/\(Zih s f b).conf=b.conf:=by
 intro f
 induction f with
 | zero=>
  intro b h hf;have hn:=h.now;exact⟨h,λhx=>by have:=hx.1;simp only[Zih] at this;omega,Vcp _,rfl⟩
 | succ f ih=>
  intro b h hf;have hn:=h.now;unfold Zih;split
  .rename_i hg
   have hs:=Yja h s hg.1;have:=ih hs.1 (by rw[hs.2.1];omega);rw[hs.2.1,hs.2.2] at this;exact⟨this.1,this.2.1,by omega,this.2.2.2⟩
  .rename_i hg
   exact⟨h,hg,Vcp _,rfl⟩
theorem Yvg {b:Za} {s:Zf} (hb:b.sm) (hs:s.sm):Zx4 b s=some (Z9c b s):=by
 unfold Zx4 Z9c;rw[Ydi b hb,ZZa,i_okB hb,ZZa];by_cases h:okB b=true
 .have hP:=(Yi9 hb).1 h
  have hN:=hP.now;rw[h,ZZi (by simp),ZZj rfl,Ymx s hs.posts,ZZa];have hJ:∀c:Za,Zif c->b.now<=c.now->Zic b s c=some (c,c.now - b.now):=by
   intro c hc hn;have:=hc.now;unfold Zic;rw[Ydi _ hc.sm,ZZa,Xe (by omega) (by omega)]
  have key:∀(f m:Nat) (c:Za),Zif c->b.now<=c.now->f=(4000 - c.now).toNat->f < m->Zci b s m c (Zx5 s)=some (Zih s f c,(Zih s f c).now - b.now):=by
   intro f
   induction f with
   | zero=>
    intro m c hc hn hf hm;obtain⟨m,rfl⟩:∃k,m=k+1:=⟨m - 1,by omega⟩;have:=hc.now;show Zgc b s (Zci b s m) c (Zx5 s)=_;unfold Zgc;rw[ZZi (by simp;omega),hJ c hc hn];rfl
   | succ f ih=>
    intro m c hc hn hf hm;obtain⟨m,rfl⟩:∃k,m=k+1:=⟨m - 1,by omega⟩;have hcn:=hc.now;have hst:=Yja hc s (by omega);have hgo:Zci b s m (Zd7 c s).1 (Zx5 s)=some (Zih s f (Zd7 c s).1,(Zih s f (Zd7 c s).1).now - b.now):=ih m _ hst.1 (by rw[hst.2.1];omega) (by rw[hst.2.1];omega) (by omega);show Zgc b s (Zci b s m) c (Zx5 s)=_;unfold Zgc Zih;have Z7:c.now < 4000:=by omega
    rw[ZZj (by simpa using Z7),Yu7 hc.sm.ml,ZZa];by_cases hq:Znb c=true
    .rw[ZZi (by simp[hq])]
     by_cases hl:c.now<=Zx5 s
     .rw[ZZj (by simpa using hl),Yl7 hc hs Z7,ZZa,ZZj (show Zvi s c from⟨Z7,.inr hl⟩)]
      exact hgo
     .rw[ZZi (by simpa using hl),ZZi (show ¬Zvi s c fromλhx=>hx.2.elim (λh1=>by rw[hq] at h1;exact absurd h1 (by decide)) hl),hJ c hc hn]
    .rw[ZZj (by simpa using hq),Yl7 hc hs Z7,ZZa,ZZj (show Zvi s c from⟨Z7,.inl (by simpa using hq)⟩)]
     exact hgo
  exact key _ FU b hP (Vcp _) rfl (by have:=Qx;omega)
 .simp[h]
theorem Yt5 {b:Za} {s:Zf} (hb:b.sm) (hs:s.sm):Zyg b s=some (Z9c b s):=by
 unfold Zyg Z9c;rw[Z71 b hb,ZZa,s_okB hb,ZZa];by_cases h:okB b=true
 .have hP:=(Yi9 hb).1 h
  have hN:=hP.now;rw[h,ZZi (by simp),ZZj rfl];have key:∀(f m:Nat) (c:Za),Zif c->b.now<=c.now->f=(4000 - c.now).toNat->f < m->Zcn b s m c (c.now - b.now)=some (Zih s f c,(Zih s f c).now - b.now):=by
   intro f
   induction f with
   | zero=>
    intro m c hc hn hf hm;obtain⟨m,rfl⟩:∃k,m=k+1:=⟨m - 1,by omega⟩;have:=hc.now;show Zg0 b s (Zcn b s m) c _=_;unfold Zg0 Zel;rw[ZZi (by simp;omega),ZZi (by simp)];rfl
   | succ f ih=>
    intro m c hc hn hf hm;obtain⟨m,rfl⟩:∃k,m=k+1:=⟨m - 1,by omega⟩;have hcn:=hc.now;have hst:=Yja hc s (by omega);have hgo:Zcn b s m (Zd7 c s).1 ((Zd7 c s).1.now - b.now)=some (Zih s f (Zd7 c s).1,(Zih s f (Zd7 c s).1).now - b.now):=ih m _ hst.1 (by rw[hst.2.1];omega) (by rw[hst.2.1];omega) (by omega);have e1:Zs (c.now - b.now) 1=(Zd7 c s).1.now - b.now:=by rw[hst.2.1,Yq (by omega) (by omega)];omega
    show Zg0 b s (Zcn b s m) c _=_;unfold Zg0 Zel Zih;have Z7:c.now < 4000:=by omega
    rw[ZZj (by simpa using Z7),Ypw hc.sm.ml,ZZa];by_cases hq:Znb c=true
    .rw[ZZi (by simp[hq]),Ymv s hs.posts,ZZa]
     by_cases hl:c.now<=Zx5 s
     .rw[ZZj (by simpa using hl),Yl2 hc hs Z7,ZZa,ZZj (show Zvi s c from⟨Z7,.inr hl⟩),e1]
      exact hgo
     .rw[ZZi (by simpa using hl),ZZi (show ¬Zvi s c fromλhx=>hx.2.elim (λh1=>by rw[hq] at h1;exact absurd h1 (by decide)) hl)]
    .rw[ZZj (by simpa using hq),ZZj rfl,Yl2 hc hs Z7,ZZa,ZZj (show Zvi s c from⟨Z7,.inl (by simpa using hq)⟩),e1]
     exact hgo
  have:=key _ FU b hP (Vcp _) rfl (by have:=Qx;omega)
  rwa [Int.sub_self] at this
 .simp[h]
def Zbq (left:Int) (n:Nat):Int:=if left < (n:Int) then -1 else left - n
def Sz (f:Int->Option Int) (n:Nat):Prop:=∀left,0<=left->left<=1048576->f left=some (Zbq left n)
theorem Sz.tail {f:Int->Option Int} {n:Nat} (h:Sz f n):Sz (λl=>(f l).bind λr=>if decide (r < 0)=true then some (-1) else some r) n:=by
 intro l h0 h1;dsimp only;rw[h l h0 h1,ZZa];unfold Zbq;by_cases hc:l < (n:Int)
 .simp[hc]
 .rw[ZZi hc,ZZi (by simp;omega)]
theorem Sz.seq {f g:Int->Option Int} {n m:Nat} (h:Sz f n) (k:Sz g m):Sz (λl=>(f l).bind λr=>if decide (r < 0)=true then some (-1) else g r) (n+m):=by
 intro l h0 h1;dsimp only;rw[h l h0 h1,ZZa];unfold Zbq;by_cases hc:l < (n:Int)
 .rw[ZZj hc,ZZj (by decide),ZZj (by omega)]
 .rw[ZZi hc,ZZi (by simp;omega),k _ (by omega) (by omega)]
  unfold Zbq;by_cases hd:l - (n:Int) < (m:Int)
  .rw[ZZj hd,ZZj (by omega)]
  .rw[ZZi hd,ZZi (by omega)]
   congr 1;omega
theorem Sz.flat {n:Nat} (hn:n<=9223372036854775807):Sz (λl=>if decide ((Y8 l (n:Int)) < 0)=true then some (-1) else some (Y8 l (n:Int))) n:=by
 intro l h0 h1;dsimp only;rw[Xe (by omega) (by omega)];unfold Zbq;by_cases h:l < (n:Int)
 .rw[ZZj (by simp;omega),ZZj h]
 .rw[ZZi (by simp;omega),ZZi h]
theorem Sz.list {α:Type} (xs:List α) (f:α->Int->Option Int) (t:α->Nat) (hn:xs.length<=9223372036854775807) (hf:∀a∈xs,Sz (f a) (t a)) (L:Int->Nat->Int->Int->Option Int)
  (hL:∀l m v i,L l (m+1) v i=if decide (i < (xs.length:Int))=true then (idx xs i).bind λa=>(f a v).bind λr=>if decide (r < 0)=true then some (-1) else L l m r (Zs i 1) else some v):
  Sz (λl=>if decide ((Y8 l (xs.length:Int)) < 0)=true then some (-1) else L l FU (Y8 l (xs.length:Int)) 0) (xs.length+(xs.map t).sum):=by
 intro l h0 h1;dsimp only;rw[Xe (by omega) (by omega)];by_cases h:l < (xs.length:Int)
 .rw[ZZj (by simp;omega)]
  unfold Zbq;rw[ZZj (by omega)]
 .rw[ZZi (by simp;omega)]
  have key:=Zz9 (ρ:=Int) xs (by omega) (λa s=>(f a s).bind λr=>if decide (r < 0)=true then some (.inr (-1)) else some (.inl r)) some (L l) (λm s i=>by
   rw[hL]
   congr 1;congr 1;funext a
   cases f a s with
   | none=>rfl
   | some r=>
    simp only[ZZa];by_cases hr:r < 0<;>simp[hr,goL]) (l - xs.length)
  rw[key];have run:∀(ys:List α) (s:Int),0<=s->s<=1048576->(∀a∈ys,Sz (f a) (t a))->Zxr (λa s=>(f a s).bind λr=>if decide (r < 0)=true then some (.inr (-1)) else some (.inl r)) some ys s=some (Zbq s (ys.map t).sum):=by
   intro ys
   induction ys with
   | nil=>intro s hs0 _ _;simp[Zxr,Zbq];omega
   | cons p ys ih=>
    intro s hs0 hs1 hp;simp only[Zxr,hp p Vaa s hs0 hs1,ZZa,Va1,Vdc];unfold Zbq;by_cases hr:s < (t p:Int)
    .rw[ZZj hr,ZZj (by decide),ZZj (by omega)]
     rfl
    .rw[ZZi hr,ZZi (by simp;omega)]
     simp only[ZZa];rw[ih _ (by omega) (by omega) (λq hq=>hp q (Vac _ hq))];unfold Zbq;by_cases h3:s - (t p:Int) < ((ys.map t).sum:Nat)
     .rw[ZZj h3,ZZj (by omega)]
     .rw[ZZi h3,ZZi (by omega)]
      congr 1;omega
  rw[run xs _ (by omega) (by omega) hf];unfold Zbq;by_cases h3:l - (xs.length:Int) < ((xs.map t).sum:Nat)
  .rw[ZZj h3,ZZj (by omega)]
  .rw[ZZi h3,ZZi (by omega)]
   congr 1;omega
theorem Zpw {α:Type} {xs:List α} {t:α->Nat} {a:α} (h:a∈xs):t a<=(xs.map t).sum:=by
 induction xs with
 | nil=>simp at h
 | cons q l ih=>
  simp only[Va1,Vdc];rcases Vau.1 h with rfl|h
  .omega
  .have:=ih h;omega
def Zg.tot (r:Zg):Nat:=r.data_.length
def Zb0 (l:List Zg):Nat:=l.length+(l.map Zg.tot).sum
def Zb.tot (m:Zb):Nat:=Zb0 m.queue
def Zek (l:List Zb):Nat:=l.length+(l.map Zb.tot).sum
def Zi.tot (m:Zi):Nat:=m.mem.length+(m.dev.regs.length+m.dev.fifo.length)
def Za.tot (b:Za):Nat:=b.conf.masters.length+(Zek b.m+(b.buckets.length+(b.splits.length+(b.model.tot+b.log.length))))
theorem Y26 (c:Zk) (h:c.ok):Sz (Z5c c) c.masters.length:=(Sz.flat (by have:=h.1.1;unfold maxLen at this;omega)).tail
theorem Yq2 (r:Zg) (h:r.ok):Sz (Zw2 r) r.tot:=(Sz.flat (by have:=h.2.2.2.2.2.1;unfold maxLen at this;omega)).tail
theorem Y2q (l:List Zg) (h0:l.length<=maxLen) (h:∀r∈l,r.ok):Sz (Z6v l) (Zb0 l):=
 Sz.list l Zw2 Zg.tot (by unfold maxLen at h0;omega) (λa ha=>Yq2 a (h a ha)) (Zot l) (λ_ _ _ _=>rfl)
theorem Y40 (m:Zb) (h:m.ok):Sz (Z1x m) m.tot:=(Y2q m.queue h.1.1 h.1.2).tail
theorem Y07 (l:List Zb) (h0:l.length<=maxLen) (h:∀r∈l,r.ok):Sz (Z55 l) (Zek l):=
 Sz.list l Z1x Zb.tot (by unfold maxLen at h0;omega) (λa ha=>Y40 a (h a ha)) (Zob l) (λ_ _ _ _=>rfl)
theorem Yyk (m:Zi) (h:m.ok):Sz (Z30 m) m.tot:=by
 have h1:=h.1.1;have h2:=h.2.1.1;have h3:=h.2.2.2.1;unfold maxLen at h1 h2 h3;exact (Sz.flat (by omega)).seq ((Sz.flat (by omega)).seq (Sz.flat (by omega)).tail).tail
theorem Y32 (b:Za) (h:b.ok):Sz (Zwu b) b.tot:=by
 obtain⟨h1,-,h2,-,h3,h4,-,-,-,-,-,h5,-,h6⟩:=h;have a3:=h3.1;have a4:=h4.1;have a6:=h6.1;unfold maxLen at a3 a4 a6;exact (Y26 _ h1).seq ((Y07 _ h2.1 h2.2).seq ((Sz.flat (by omega)).seq ((Sz.flat (by omega)).seq ((Yyk _ h5).seq (Sz.flat (by omega)).tail))))
theorem Znn (xs:List Int) (hl:xs.length < 1048577):Zcy xs=some xs:=by
 unfold Zcy;rw[Zw8 (by omega) (by omega),ZZa];have:=Zq1 xs id (by omega) some (λa _=>rfl) (Zpc xs) (λm v i=>rfl) (List.replicate xs.length 0) (by simp);simpa using this
theorem Y0p (c:Zk) (hl:c.masters.length < 1048577):Zyq c=some c:=by
 have:Zsq c.masters=some c.masters:=by
  unfold Zsq;rw[Zw8 (by omega) (by omega),ZZa];have:=Zq1 c.masters id (by omega) Z3c (λa _=>rfl) (Zi9 c.masters) (λm v i=>rfl) (List.replicate c.masters.length Zd.z0) (by simp);simpa using this
 unfold Zyq;rw[this];rfl
theorem Ypx (r:Zg) (h:r.data_.length < 1048577):Zrq r=some r:=by
 unfold Zrq;rw[Znn _ h];rfl
theorem Y0r (l:List Zg) (h:Zb0 l < 1048577):Zyp l=some l:=by
 unfold Zb0 at h;unfold Zyp;rw[Zw8 (by omega) (by omega),ZZa];have:=Zq1 l id (by omega) Zrq (λa ha=>Ypx a (by have:=Zpw (t:=Zg.tot) ha;unfold Zg.tot at this h;omega)) (Zom l) (λm v i=>rfl) (List.replicate l.length Zg.z0) (by simp);simpa using this
theorem Y1j (l:List Zb) (h:Zek l < 1048577):Zyo l=some l:=by
 unfold Zek at h;unfold Zyo;rw[Zw8 (by omega) (by omega),ZZa];have:=Zq1 l id (by omega) Z2e (λa ha=>by
  unfold Z2e;rw[Y0r _ (by have:=Zpw (t:=Zb.tot) ha;unfold Zb.tot at this h;omega)];rfl) (Zod l) (λm v i=>rfl) (List.replicate l.length Zb.z0) (by simp)
 simpa using this
theorem Yxe (m:Zi) (h:m.tot < 1048577):Zvz m=some m:=by
 unfold Zi.tot at h;unfold Zvz Z8a;rw[Znn _ (by omega),ZZa,Znn _ (by omega),ZZa,Znn _ (by omega)];rfl
theorem Y3o (b:Za) (h:b.tot < 1048577):Z2n b=some b:=by
 unfold Za.tot at h;have e1:Zqj b.buckets=some b.buckets:=by
  unfold Zqj;rw[Zw8 (by omega) (by omega),ZZa];have:=Zq1 b.buckets id (by omega) Z0e (λa _=>rfl) (Zhp b.buckets) (λm v i=>rfl) (List.replicate b.buckets.length Zc.z0) (by simp);simpa using this
 have e2:Zwd b.log=some b.log:=by
  unfold Zwd;rw[Zw8 (by omega) (by omega),ZZa];have:=Zq1 b.log id (by omega) Z53 (λa _=>rfl) (Zmd b.log) (λm v i=>rfl) (List.replicate b.log.length Zm.z0) (by simp);simpa using this
 unfold Z2n;rw[Y0p _ (by omega),ZZa,Y1j _ (by omega),ZZa,show Z8y b.arb=some b.arb from rfl,ZZa,e1,ZZa,Znn _ (by omega),ZZa,show Ztm b.addr=some b.addr from rfl,ZZa,show Ztm b.data_=some b.data_ from rfl,ZZa,Yxe _ (by omega),ZZa,e2];rfl
theorem Zy7 {α:Type} (xs:List α) (hl:xs.length < 4611686018427387904) (e:α->α->Option Bool) (L:Nat->Int->Option Bool)
  (hL:∀m i,L (m+1) i=if decide (i < (xs.length:Int))=true then (idx xs i).bind λa=>(idx xs i).bind λb=>(e a b).bind λr=>if (!r)=true then some false else L m (Zs i 1) else some true)
  (he:∀a∈xs,e a a=some true):(if decide ((xs.length:Int)≠(xs.length:Int))=true then some false else L FU 0)=some true:=by
 rw[ZZi (by simp)];refine Yq1 (n:=xs.length) hl (B:=λκ i=>if decide (i < (xs.length:Int))=true then (idx xs i).bind λa=>(idx xs i).bind λb=>(e a b).bind λr=>if (!r)=true then some false else κ (Zs i 1) else some true) (L:=L) hL (λk hk κ=>?_) λκ=>?_
 .rw[ZZj (by simpa using hk),Xs hk,ZZa,ZZa,he _ (Vaq hk)]
  rfl
 .rw[ZZi (by simp)]
theorem Zg8 (xs:List Int) (hl:xs.length < 1048577):Zcw xs xs=some true:=by
 unfold Zcw;rw[ZZi (by simp)];refine Yq1 (n:=xs.length) (by omega) (B:=Zl3 xs xs) (L:=Zoz xs xs) (λm i=>rfl) (λk hk κ=>?_) λκ=>?_
 .unfold Zl3
  rw[ZZj (by simpa using hk),Xs hk];simp
 .unfold Zl3
  rw[ZZi (by simp)]
theorem Yq3 (m:Zd):Zpl m m=some true:=by unfold Zpl;simp
theorem Yuf (c:Zk) (hl:c.masters.length < 1048577):Zyd c c=some true:=by
 have:Zte c.masters c.masters=some true:=by
  unfold Zte;exact Zy7 c.masters (by omega) Zpl (Zjs c.masters c.masters) (λm i=>rfl) (λa _=>Yq3 a)
 unfold Zyd;rw[this];simp
theorem Yig (r:Zg) (h:r.data_.length < 1048577):Zrr r r=some true:=by
 unfold Zrr;rw[Zg8 _ h];simp
theorem Yt3 (l:List Zg) (h:Zb0 l < 1048577):Zx6 l l=some true:=by
 unfold Zb0 at h;unfold Zx6;exact Zy7 l (by omega) Zrr (Zon l l) (λm i=>rfl) (λa ha=>Yig a (by have:=Zpw (t:=Zg.tot) ha;unfold Zg.tot at this h;omega))
theorem Ys1 (l:List Zb) (h:Zek l < 1048577):Zyw l l=some true:=by
 unfold Zek at h;unfold Zyw;exact Zy7 l (by omega) Z2m (Zo3 l l) (λm i=>rfl) (λa ha=>by
  unfold Z2m;rw[Yt3 _ (by have:=Zpw (t:=Zb.tot) ha;unfold Zb.tot at this h;omega)];simp)
theorem Yp3 (m:Zi) (h:m.tot < 1048577):Zv1 m m=some true:=by
 unfold Zi.tot at h;unfold Zv1 Z72;rw[Zg8 _ (by omega),Zg8 m.dev.regs (by omega),Zg8 m.dev.fifo (by omega)];simp
theorem Yu6 (d:Zm):Zt8 d d=some true:=by unfold Zt8;simp
theorem Yq5 (l:List Zm) (h:l.length < 1048577):Zu9 l l=some true:=by
 unfold Zu9;exact Zy7 l (by omega) Zt8 (Zli l l) (λm i=>rfl) (λa _=>Yu6 a)
theorem Yty (x:Zh):Zr8 x x=some true:=by unfold Zr8;simp
theorem Yzs (b:Za) (h:b.tot < 1048577):Zrp b b=some true:=by
 unfold Za.tot at h;have e1:Zqk b.buckets b.buckets=some true:=by
  unfold Zqk;exact Zy7 b.buckets (by omega) Zsx (Zhs b.buckets b.buckets) (λm i=>rfl) (λa _=>by unfold Zsx;simp)
 have e2:Z1p b.arb b.arb=some true:=by unfold Z1p;simp
 unfold Zrp;simp[Yuf b.conf (by omega),Ys1 b.m (by omega),e1,e2,Zg8 b.splits (by omega),Yty,Yp3 b.model (by omega),Yq5 b.log (by omega)]
def Zl.tot (p:Zl):Nat:=p.req.tot
def Zjk (l:List Zl):Nat:=l.length+(l.map Zl.tot).sum
def Zf.tot (s:Zf):Nat:=Zjk s.posts+(s.waits.length+s.says.length)
theorem Y2o (p:Zl) (h:p.ok):Sz (Zyj p) p.tot:=(Yq2 p.req h.2.2).tail
theorem Yzt (l:List Zl) (h0:l.length<=maxLen) (h:∀r∈l,r.ok):Sz (Z32 l) (Zjk l):=
 Sz.list l Zyj Zl.tot (by unfold maxLen at h0;omega) (λa ha=>Y2o a (h a ha)) (Zmi l) (λ_ _ _ _=>rfl)
theorem Yu8 (s:Zf) (h:s.ok):Sz (Zs7 s) s.tot:=by
 have h1:=h.1.1;have h2:=h.2.1.1;have h3:=h.2.2.1;unfold maxLen at h1 h2 h3;exact (Yzt s.posts h.1.1 h.1.2).seq ((Sz.flat (by omega)).seq (Sz.flat (by omega)).tail)
theorem Y2m (p:Zl) (h:p.tot < 1048577):Zth p=some p:=by
 unfold Zth;rw[Ypx _ h];rfl
theorem Yy5 (l:List Zl) (h:Zjk l < 1048577):Zvv l=some l:=by
 unfold Zjk at h;unfold Zvv;rw[Zw8 (by omega) (by omega),ZZa];have:=Zq1 l id (by omega) Zth (λa ha=>Y2m a (by have:=Zpw (t:=Zl.tot) ha;omega)) (Zlq l) (λm v i=>rfl) (List.replicate l.length Zl.z0) (by simp);simpa using this
theorem Yup (s:Zf) (h:s.tot < 1048577):Ztq s=some s:=by
 unfold Zf.tot at h;unfold Ztq;rw[Yy5 _ (by omega),ZZa,Znn _ (by omega),ZZa,Znn _ (by omega)];rfl
theorem Ytc (p:Zl) (h:p.tot < 1048577):Zt7 p p=some true:=by
 unfold Zt7;rw[Yig _ h];simp
theorem Yql (l:List Zl) (h:Zjk l < 1048577):Zvp l l=some true:=by
 unfold Zjk at h;unfold Zvp;exact Zy7 l (by omega) Zt7 (Zmb l l) (λm i=>rfl) (λa ha=>Ytc a (by have:=Zpw (t:=Zl.tot) ha;omega))
theorem Ym9 (s:Zf) (h:s.tot < 1048577):Zs1 s s=some true:=by
 unfold Zf.tot at h;unfold Zs1;rw[Yql _ (by omega),ZZa,ZZi (by simp),Zg8 _ (by omega),ZZa,ZZi (by simp),Zg8 _ (by omega)];simp
theorem Zf.small {s:Zf} (h:s.tot < 1048577) (Y4:s.ok):s.sm:=by
 unfold Zf.tot Zjk at h;refine⟨by omega,λp hp=>?_,by omega,by omega,λw hw=>ok_i64 (Y4.2.1.2 w hw)⟩;have:=Zpw (t:=Zl.tot) hp;unfold Zl.tot Zg.tot at this h;unfold Zg.sm;omega
theorem Ytx {l:List Zg} {r:Zg} (h:r∈l):r.data_.length<=Zb0 l:=by
 have:=Zpw (t:=Zg.tot) h;unfold Zb0;unfold Zg.tot at this ⊢;omega
theorem Yss {l:List Zb} {m:Zb} (h:m∈l):Zb0 m.queue<=Zek l:=by
 have:=Zpw (t:=Zb.tot) h;unfold Zek;unfold Zb.tot at this ⊢;omega
theorem Za.small {b:Za} (h:b.tot < 1048577):b.sm:=by
 have hm:∀x∈b.m,Zb0 x.queue<=Zek b.m:=λx hx=>Yss hx;unfold Za.tot Zi.tot at h;have h1:b.m.length<=Zek b.m:=by unfold Zek;omega
 refine⟨by omega,by omega,λx hx=>?_,by omega,by omega,⟨by omega,by omega,by omega⟩,by omega⟩;have:=hm x hx;have hl:x.queue.length<=Zb0 x.queue:=by unfold Zb0;omega
 refine⟨by omega,λr hr=>?_⟩;have:=Ytx hr;unfold Zg.sm;omega
theorem Zf.mk_ok {s:Zf} (h:s.tot < 1048577):s.mok:=by
 unfold Zf.tot Zjk at h;refine⟨⟨by omega,λp hp=>?_⟩,by omega,by omega⟩;have:=Zpw (t:=Zl.tot) hp;unfold Zl.tot Zg.tot at this h;omega
theorem Za.mk_ok {b:Za} (hs:b.sm):b.mok:=by
 have h1:=hs.conf;have h2:=hs.ml;have h3:=hs.bl;have h4:=hs.sl;have h5:=hs.log;have h6:=hs.model.1;have h7:=hs.model.2.1;have h8:=hs.model.2.2;refine⟨by unfold Zk.mok;omega,⟨by omega,λx hx=>?_⟩,by omega,by omega,⟨by omega,⟨by omega,by omega⟩⟩,by omega⟩;have h9:=hs.mst x hx;have:=h9.1;refine⟨by omega,λr hr=>?_⟩;have:=h9.2 r hr;unfold Zg.sm at this;omega
theorem Ykj {α:Type} {w t:α->Nat} {c:Nat} (h:∀x,w x<=c*t x+c) (l:List α):Ky w l<=c*(l.length+(l.map t).sum):=by
 induction l with
 | nil=>simp[Ky]
 | cons x l ih=>
  have:=h x;rw[Znk,Vag,Va1,Vdc];have e:c*(l.length+1+(t x+(l.map t).sum))=c*(l.length+(l.map t).sum)+(c*t x+c):=by
   rw[Vec,Vec,Vec,Vec];omega
  omega
theorem Y1d (l:List Zg):Ky Z3o l<=5*Zb0 l:=Ykj (λx=>by unfold Z3o Zg.tot;omega) l
theorem Y01 (l:List Zb):Ky Zh6 l<=5*Zek l:=Ykj (λx=>by
 have:=Y1d x.queue;unfold Zh6 Zb.tot;omega) l
def Yeo (b:Za):Nat:=4*b.conf.masters.length+Ky Zh6 b.m+2*b.buckets.length+b.splits.length+b.model.mem.length+b.model.dev.regs.length+b.model.dev.fifo.length+7*b.log.length
theorem Y56 {b:Za}:Yeo b<=7*b.tot:=by
 have:=Y01 b.m;unfold Yeo Za.tot Zi.tot;omega
theorem Y7s {l:List Zd} {k:Int} (h0:0<=k) (h1:k+4*(l.length:Int)<=1152921504606846976):(mkL Js l k).2=k+4*(l.length:Int):=by
 have e:=Zm0 (α:=Zd) 4 l;rw[Zrh Yk6 (l:=l) h0 (by rw[e];omega),e];omega
theorem Y6i {l:List Zc} {k:Int} (h0:0<=k) (h1:k+2*(l.length:Int)<=1152921504606846976):(mkL Xa l k).2=k+2*(l.length:Int):=by
 have e:=Zm0 (α:=Zc) 2 l;rw[Zrh Yh0 (l:=l) h0 (by rw[e];omega),e];omega
theorem Y7i {l:List Zm} {k:Int} (h0:0<=k) (h1:k+7*(l.length:Int)<=1152921504606846976):(mkL Zbg l k).2=k+7*(l.length:Int):=by
 have e:=Zm0 (α:=Zm) 7 l;rw[Zrh Yof (l:=l) h0 (by rw[e];omega),e];omega
theorem Zzp {a:Int} (h:0<=a):¬decide (a < 0)=true:=by simp;omega
theorem Yyf {b:Za} (hs:b.sm) {k:Int} (h0:0<=k) (h1:k+(Yeo b:Int)<=1152921504606846976):(Xb b k).2=k+(Yeo b:Int)/\Zp6 (Xb b k).1 k=some (Xb b k).2:=by
 unfold Yeo at h1 ⊢;have g1:=hs.conf;have g2:=hs.ml;have g3:=hs.bl;have g4:=hs.sl;have g5:=hs.log;have g6:=hs.model.1;have g7:=hs.model.2.1;have g8:=hs.model.2.2;have a1:=Y7s (l:=b.conf.masters) (k:=k) h0 (by omega);have b1:=Yom b.conf.masters k g1 h0 (by omega);have a2:=Zrh Ywk (l:=b.m) (k:=k+4*(b.conf.masters.length:Int)) (by omega) (by omega);have b2:=Yyn b.m (k+4*(b.conf.masters.length:Int)) g2 (λx hx=>⟨(hs.mst x hx).1,λr hr=>(hs.mst x hx).2 r hr⟩) (by omega) (by omega);rw[a2] at b2;have a3:=Y6i (l:=b.buckets) (k:=k+4*(b.conf.masters.length:Int)+(Ky Zh6 b.m:Int)) (by omega) (by omega);have b3':=Ynb b.buckets (k+4*(b.conf.masters.length:Int)+(Ky Zh6 b.m:Int)) g3 (by omega) (by omega);rw[a3] at b3';have a4:=Zg2 (l:=b.splits) (k:=k+4*(b.conf.masters.length:Int)+(Ky Zh6 b.m:Int)+2*(b.buckets.length:Int)) (by omega) (by omega);have b4:=Zry b.splits (k+4*(b.conf.masters.length:Int)+(Ky Zh6 b.m:Int)+2*(b.buckets.length:Int)) g4 (by omega) (by omega);rw[a4] at b4;have a5:=Zg2 (l:=b.model.mem) (k:=k+4*(b.conf.masters.length:Int)+(Ky Zh6 b.m:Int)+2*(b.buckets.length:Int)+(b.splits.length:Int)) (by omega) (by omega);have b5:=Zry b.model.mem (k+4*(b.conf.masters.length:Int)+(Ky Zh6 b.m:Int)+2*(b.buckets.length:Int)+(b.splits.length:Int)) g6 (by omega) (by omega);rw[a5] at b5;have a6:=Zg2 (l:=b.model.dev.regs) (k:=k+4*(b.conf.masters.length:Int)+(Ky Zh6 b.m:Int)+2*(b.buckets.length:Int)+(b.splits.length:Int)+(b.model.mem.length:Int)) (by omega) (by omega);have b6:=Zry b.model.dev.regs (k+4*(b.conf.masters.length:Int)+(Ky Zh6 b.m:Int)+2*(b.buckets.length:Int)+(b.splits.length:Int)+(b.model.mem.length:Int)) g7 (by omega) (by omega);rw[a6] at b6;have a7:=Zg2 (l:=b.model.dev.fifo) (k:=k+4*(b.conf.masters.length:Int)+(Ky Zh6 b.m:Int)+2*(b.buckets.length:Int)+(b.splits.length:Int)+(b.model.mem.length:Int)+(b.model.dev.regs.length:Int)) (by omega) (by omega);have b7:=Zry b.model.dev.fifo (k+4*(b.conf.masters.length:Int)+(Ky Zh6 b.m:Int)+2*(b.buckets.length:Int)+(b.splits.length:Int)+(b.model.mem.length:Int)+(b.model.dev.regs.length:Int)) g8 (by omega) (by omega);rw[a7] at b7;have a8:=Y7i (l:=b.log) (k:=k+4*(b.conf.masters.length:Int)+(Ky Zh6 b.m:Int)+2*(b.buckets.length:Int)+(b.splits.length:Int)+(b.model.mem.length:Int)+(b.model.dev.regs.length:Int)+(b.model.dev.fifo.length:Int)) (by omega) (by omega);have b8:=Ytg b.log (k+4*(b.conf.masters.length:Int)+(Ky Zh6 b.m:Int)+2*(b.buckets.length:Int)+(b.splits.length:Int)+(b.model.mem.length:Int)+(b.model.dev.regs.length:Int)+(b.model.dev.fifo.length:Int)) g5 (by omega) (by omega);rw[a8] at b8;rw[a1] at b1;constructor
 .simp only[Xb,Xp,Ja,Zoo,a1,a2,a3,a4,a5,a6,a7,a8]
  omega
 .unfold Zp6 Zzw Zxk Z3p
  simp only[Xb,Xp,Ja,Zoo,a1,a2,a3,a4,a5,a6,a7,a8];rw[b1,ZZa,ZZi (Zzp (by omega)),ZZa,ZZi (Zzp (by omega)),b2,ZZa,ZZi (Zzp (by omega)),b3',ZZa,ZZi (Zzp (by omega)),b4,ZZa,ZZi (Zzp (by omega)),b5,ZZa,ZZi (Zzp (by omega)),b6,ZZa,ZZi (Zzp (by omega)),b7,ZZa,ZZi (Zzp (by omega)),ZZa,ZZi (Zzp (by omega)),ZZa,ZZi (Zzp (by omega)),b8,ZZa,ZZi (Zzp (by omega))]
theorem Y3v {r:Zg} (h:Zd2 r=true):r.data_.length < 1000:=by
 have:=Y0s h;unfold Zd2 at h;simp only[ZZg,ZZl] at h;have h1:=h.2.1;have:X1 r.burst<=16:=by unfold X1;repeat (first|omega|split)
 split at h1<;>omega
theorem Zif.tot_lt {b:Za} (h:Zif b):b.tot < 100000:=by
 have h1:=Zar h.conf;have h2:=h.ml;have h3:=h.bl;have h4:=h.sl;have h5:=Ybm (by have:=h.now;omega) h.log;have h6:=h.model.len;have h7:=h.model.dev.regs;have h8:=h.model.dev.len;have hq:∀x∈b.m,Zb0 x.queue<=4004:=λx hx=>by
  obtain⟨k,hk,rfl⟩:=Vbr hx;have hr:=(h.mst (k:Int) (mas (by omega))).right;rw[Qk hk] at hr;have key:∀(l:List Zg),(∀r∈l,r.data_.length<=1000)->(l.map Zg.tot).sum<=1000*l.length:=by
   intro l
   induction l with
   | nil=>intro _;simp
   | cons r l ih=>
    intro hl;have:=hl r (Vaa ..);have:=ih λq hq=>hl q (Vac _ hq);simp only[Va1,Vdc,Vag];unfold Zg.tot at*;omega
  have:=key _ λr J7=>Nat.le_of_lt (Y3v (hr.reqs r J7));have:=hr.len;unfold Zb0;omega
 have key:∀(l:List Zb),(∀x∈l,Zb0 x.queue<=4004)->(l.map Zb.tot).sum<=4004*l.length:=by
  intro l
  induction l with
  | nil=>intro _;simp
  | cons r l ih=>
   intro hl;have:=hl r (Vaa ..);have:=ih λq hq=>hl q (Vac _ hq);simp only[Va1,Vdc,Vag];unfold Zb.tot at*;omega
 have:=key _ hq;unfold Za.tot Zek Zi.tot;omega
theorem Yln {b:Za} (h:b.tot < 1048577):b.mok/\Zrp b b=some true/\(Xb b 1).2=1+(Yeo b:Int)/\Zp6 (Xb b 1).1 1=some (Xb b 1).2/\Yeo b<=7340032:=by
 have hw:=Y56 (b:=b);obtain⟨h1,h2⟩:=Yyf (Za.small h) (k:=1) (by omega) (by omega);exact⟨Za.mk_ok (Za.small h),Yzs b h,h1,h2,by omega⟩
theorem Y1n {s:Zf} (h:s.tot < 1048577) {k:Int} (h0:0<=k) (h1:k<=100000000):0<=(Kz s k).2:=by
 have hi:Inc Qy (λp=>7+p.req.data_.length):=λx k h0 h1=>by
  have h3:k+((7+x.req.data_.length:Nat):Int)<=1152921504606846976:=h1;show _=k+((7+x.req.data_.length:Nat):Int);have h2:k+7+(x.req.data_.length:Int)<=1152921504606846976:=by omega
  simp only[Qy];simp (discharger:=omega) only[Z2a];rw[Zg2 (by omega) (by omega)];omega
 unfold Zf.tot Zjk at h;have hw:Ky (λp:Zl=>7+p.req.data_.length) s.posts<=7*(s.posts.length+(s.posts.map Zl.tot).sum):=Ykj (λx=>by unfold Zl.tot Zg.tot;omega) s.posts;have e1:=Zrh hi (l:=s.posts) h0 (by omega);have e2:=Zg2 (l:=s.waits) (k:=(mkL Qy s.posts k).2) (by rw[e1];omega) (by rw[e1];omega);have e3:=Zg2 (l:=s.says) (k:=(mkL Yd s.waits (mkL Qy s.posts k).2).2) (by rw[e2,e1];omega) (by rw[e2,e1];omega);simp only[Kz];rw[e3,e2,e1];omega
theorem Y65 {n:Nat} (h:(1048576:Int) < (n:Int)):Zbq 1048576 n < 0:=by unfold Zbq;rw[ZZj h];omega
theorem Y59 {n:Nat} (h:¬(1048576:Int) < (n:Int)):Zbq 1048576 n=1048576 - (n:Int)/\0<=Zbq 1048576 n/\n < 1048577:=by unfold Zbq;rw[ZZi h];omega
theorem left2 {n m:Nat} (e1:0<=Zbq 1048576 n) (hc2:¬Zbq (Zbq 1048576 n) m < 0):m < 1048577:=by
 unfold Zbq at hc2 e1;split at hc2
 .omega
 .omega
theorem Y6l {b:Za} (h:b.tot < 1048577) (s:Zf):(Z9c b s).1.tot < 1048577:=by
 unfold Z9c;split
 .rename_i hc
  have hP:=(Yi9 (Za.small h)).1 hc;have:=(Y6f s _ hP rfl).1.tot_lt;show (Zih s (4000 - b.now).toNat b).tot < _;omega
 .exact h
theorem Z7x (b:Za) (s:Zf) (h:b.ok) (hs:s.ok):b.ok/\s.ok:=⟨h,hs⟩
theorem Ybr [Anchor] {b:Za} {s:Zf} (h:b.ok/\s.ok):Zu Tryz.prog Mo (6,[.agg (Za.enc b),.agg (Zf.enc s)],.lit (.bool true),[.undef,.undef]):=by
 have c0:=Y32 b h.1 1048576 (by omega) (by omega);by_cases hc:(1048576:Int) < (b.tot:Int)
 .exact Z7w b s c0 (Y65 hc)
 .obtain⟨e0,e1,ht⟩:=Y59 hc
  have c1:=Yu8 s h.2 (Zbq 1048576 b.tot) e1 (by omega);by_cases hc2:Zbq (Zbq 1048576 b.tot) s.tot < 0
  .exact Z7u b s c0 e1 c1 hc2
  .have hst:s.tot < 1048577:=left2 e1 hc2
   obtain⟨f1,f2,f3,f4,f5⟩:=Yln ht;obtain⟨g1,g2,g3,g4,g5⟩:=Yln (Y6l ht s);have hbs:=Za.small ht;have hss:=Zf.small hst h.2;exact Ybt b s (Z9c b s).1 (Z9c b s).2 c0 e1 c1 (by omega) (Y3o b ht) (Yup s hst) (Yt5 hbs hss) (Yvg hbs hss) g2 f2 (Ym9 s hst) f1 (Zf.mk_ok hst) (Y1n hst (by rw[f3];omega) (by rw[f3];omega)) g1 g4 (by rw[g3];omega)
end Go.Proofs.YtagdmghmblplbaaGreat.Ev
