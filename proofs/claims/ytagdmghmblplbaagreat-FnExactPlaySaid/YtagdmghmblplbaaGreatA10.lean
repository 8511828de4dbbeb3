/- A part of the proof of FnExactPlay: see the text YtagdmghmblplbaaGreatLawFnExactPlay for what is proved and its conditions. Conditions here: those in each line. -/
import Derived.Test.YtagdmghmblplbaaGreatA9
set_option linter.unusedSimpArgs false
set_option linter.unusedVariables false
set_option linter.unusedSectionVars false
namespace Go.Proofs.YtagdmghmblplbaaGreat.Ev
open Go Go.Proofs
theorem Xs (x a b:Int):Yp x a b=some (decide (a<=x/\x<=b)):=by
 unfold Yp;by_cases h:a<=x<;>simp[h]
theorem Xb (x a b:Int):Z4 x a b=some (decide (a<=x/\x<=b)):=by
 unfold Z4;by_cases h:a<=x<;>simp[h]
def Zir (c:Zh):Int:=if (0<=c.maxRetry/\c.maxRetry<=3)/\(0<=c.maxWait/\c.maxWait<=3) then (c.maxRetry+2)*(c.maxWait+6) else 0
def Kt (c:Zh):Int:=if Zir c=0 then 0 else if 1<=c.lockMost/\c.lockMost<=40 then 2*Zir c+c.lockMost else 0
def Qg (c:Zh):Nat:=c.masters.countP (·.prio)
def Qs (c:Zh) (m:Zc):Bool:=decide (1<=m.weight/\m.weight<=4)&&if m.prio then decide (2*Kt c*Qg c<=m.every/\m.every<=1000)&&decide (1<=m.cap/\m.cap<=8) else decide (m.every=0)&&decide (m.cap=0)
def Xh (c:Zh):Bool:=decide (1<=(c.masters.length:Int)/\(c.masters.length:Int)<=4)&&decide (1<=c.quantum/\c.quantum<=4)&&decide (1<=c.maxSplit/\c.maxSplit<=12)&&decide (Kt c≠0)&&c.masters.all (Qs c)
theorem Z6b (c:Zh):0<=Zir c/\Zir c<=45:=by
 unfold Zir;split
 .rename_i h
  obtain⟨⟨h1,h2⟩,h3,h4⟩:=h;generalize c.maxRetry=a at*;generalize c.maxWait=b at*;have:a=0\/a=1\/a=2\/a=3:=by omega
  rcases this with rfl|rfl|rfl|rfl<;>omega
 .omega
theorem Zz1 (c:Zh):0<=Kt c/\Kt c<=130:=by
 have:=Z6b c;unfold Kt;split
 .omega
 .split<;>omega
theorem Zu0 (c:Zh):Zjh c=some (Zir c):=by
 unfold Zjh;rw[Xb,ZZa,Xb,ZZa];unfold Zns Zir;by_cases h1:0<=c.maxRetry/\c.maxRetry<=3
 .by_cases h2:0<=c.maxWait/\c.maxWait<=3
  .have:=Z6b c
   unfold Zir at this;rw[ZZj ⟨h1,h2⟩] at this;simp only[h1,h2,decide_true,Va7,ZZf,if_false,and_self,if_true];rw[Ys (by omega) (by omega),Ys (by omega) (by omega),Zfp (by omega) (by omega)]
  .simp[h1,h2]
 .simp[h1]
theorem Yr7 (c:Zh):Ztb c=some (Zir c):=by
 rw[<-Zu0];unfold Ztb Zjh;simp only[Xb,Xs];rfl
theorem Ycr (c:Zh):Zgm c=some (Kt c):=by
 have:=Z6b c;unfold Zgm Kt;rw[Zu0,ZZa,Xb,ZZa,ZZa];by_cases h0:Zir c=0
 .simp[h0]
 .by_cases h1:1<=c.lockMost/\c.lockMost<=40
  .simp only[h0,h1,decide_true,decide_false,Va7,ZZf,if_false,and_self,if_true]
   rw[Zfp (by omega) (by omega),Ys (by omega) (by omega)]
  .simp[h0,h1]
theorem Ycl (c:Zh):Zsc c=some (Kt c):=by
 rw[<-Ycr];unfold Zsc Zgm;simp only[Xb,Xs,Zu0,Yr7]
theorem Yml (c:Zh):Zr7 c=some (decide (1<=c.quantum/\c.quantum<=4)&&decide (1<=c.maxSplit/\c.maxSplit<=12)&&decide (Kt c≠0)):=by
 have:=Z6b c;unfold Zr7 Kt;simp only[Xb,Zu0,ZZa];by_cases h1:1<=c.quantum/\c.quantum<=4
 .by_cases h2:Zir c=0
  .simp[h2]
  .have h3:Zir c > 0:=by omega
   by_cases h4:1<=c.maxSplit/\c.maxSplit<=12
   .by_cases h5:1<=c.lockMost/\c.lockMost<=40
    .have:¬(2*Zir c+c.lockMost=0):=by omega
     simp[h1,h2,h3,h4,h5,this]
    .simp[h1,h2,h3,h4,h5]
   .simp[h1,h2,h3,h4]
 .simp[h1]
theorem Ygd (xs:List Zc):∀(n:Int),0<=n->n+xs.length < 4611686018427387904->∀{ρ:Type} (fin:Int->Option ρ),Z3m (λ(a:Zc) n=>some (.inl (if a.prio=true then Zs n 1 else n))) fin xs n=fin (n+(xs.countP (·.prio):Nat)):=by
 induction xs with
 | nil=>intro n _ _ ρ fin;simp[Z3m]
 | cons a l ih=>
  intro n h0 hl ρ fin;simp only[Vaa] at hl;simp only[Z3m,ZZa,List.countP_cons];by_cases h:a.prio=true
  .rw[ZZj h,Ys (by omega) (by omega),ih _ (by omega) (by omega),ZZj h]
   congr 1;omega
  .rw[ZZi h,ih _ (by omega) (by omega),ZZi h]
   congr 1
theorem Yyg (c:Zh) (hl:c.masters.length < 1048577):Z1j c=some (Qg c:Int):=by
 unfold Z1j;rw[Yeu c.masters (by omega) (λ(a:Zc) n=>some (.inl (if a.prio=true then Zs n 1 else n))) some (Zqd c) (λm s i=>?_) 0,Ygd _ _ (by omega) (by omega)]
 .simp[Qg]
 .show Zus c _ s i=_
  unfold Zus
  congr 1;congr 1;funext a
  by_cases h:a.prio=true<;>simp[h,goL]
theorem Ylb (c:Zh):Qg c<=c.masters.length:=List.countP_le_length
theorem Yqp (c:Zh) (hl:c.masters.length < 1048577):0<=Kt c*(Qg c:Int)/\Kt c*(Qg c:Int)<=136314880:=by
 have h1:=Zz1 c;have h2:=Ylb c;constructor
 .exact Veh h1.1 (by omega)
 .have h3:Kt c*(Qg c:Int)<=130*(Qg c:Int):=Int.mul_le_mul_of_nonneg_right h1.2 (by omega)
  omega
theorem Yhp (c:Zh) (hl:c.masters.length < 1048577):Zoj c=some (2*Kt c*Qg c):=by
 have h1:=Zz1 c;have h2:=Yqp c hl;unfold Zoj;rw[Ycl,ZZa,Yyg c hl,ZZa];rw[Zfp (a:=2) (by omega) (by omega),Zfp (by rw[Int.mul_assoc];omega) (by rw[Int.mul_assoc];omega)]
theorem Ymo (c:Zh) (m:Zc) (hl:c.masters.length < 1048577):Zrr m c=some (!Qs c m):=by
 unfold Zrr Qs;simp only[Xs,ZZa,Yhp c hl];by_cases h1:1<=m.weight/\m.weight<=4
 .by_cases h2:m.prio=true
  .by_cases h3:2*Kt c*Qg c<=m.every/\m.every<=1000
   .simp[h1,h2,h3]
   .simp[h1,h2,h3]
  .by_cases h3:m.every=0
   .simp[h1,h2,h3]
   .simp[h1,h2,h3]
 .simp[h1]
theorem Yt6 (c:Zh) (xs:List Zc) (hl:c.masters.length < 1048577) (hx:xs.length < 4611686018427387904):X8 xs c=some (!xs.all (Qs c)):=by
 unfold X8 Qz;have key:∀(m k:Nat),k<=xs.length->xs.length - k < m->∃r,Y2 xs c m k=some r/\decide (r≥0)=!(xs.drop k).all (Qs c):=by
  intro m
  induction m with
  | zero=>intro k _ h;omega
  | succ m ih=>
   intro k hk hm;have e:Y2 xs c (m+1) k=W7 xs c (Y2 xs c m) k:=rfl;rw[e];unfold W7;by_cases hc:k < xs.length
   .have h1:decide ((k:Int) < (xs.length:Int))=true:=by simpa using hc
    rw[ZZj h1,Xc hc,ZZa,Ymo c _ hl,ZZa,Va5 hc,Va6];by_cases hq:Qs c xs[k]=true
    .have h2:¬(!Qs c xs[k])=true:=by simp[hq]
     rw[ZZi h2,Wi (by omega),hq,Vbz];exact ih (k+1) (by omega) (by omega)
    .have h2:(!Qs c xs[k])=true:=by simpa using hq
     rw[ZZj h2];refine⟨_,rfl,?_⟩;simp[hq]
   .have h1:¬decide ((k:Int) < (xs.length:Int))=true:=by simpa using hc
    rw[ZZi h1,Vbb (by omega)];exact⟨_,rfl,by simp⟩
 obtain⟨r,hr,hq⟩:=key FU 0 (Vbk _) (by have:=Kb;omega);rw[show ((0:Nat):Int)=0 from rfl] at hr;rw[hr,ZZa,hq,List.drop_zero]
theorem Zpp (c:Zh) (hl:c.masters.length < 1048577):Zf7 c=some (Xh c):=by
 unfold Zf7 Xh;simp only[Xs,ZZa,Ycl,Yt6 c c.masters hl (by omega),Vej];by_cases h1:1<=(c.masters.length:Int)/\(c.masters.length:Int)<=4
 .by_cases h2:1<=c.quantum/\c.quantum<=4
  .by_cases h3:1<=c.maxSplit/\c.maxSplit<=12
   .by_cases h4:Kt c=0<;>simp[h1,h2,h3,h4]
   .simp[h1,h2,h3]
  .simp[h1,h2]
 .simp[h1]
theorem Y2y (c:Zh) (m:Zc) (hl:c.masters.length < 1048577) (k:Option Bool):
  ((Z4 m.weight 1 4).bind λr1102=>
  if (!r1102)=true then some false
  else if (!m.prio)=true then
    if decide (m.every≠0)=true then some false
    else if decide (m.cap≠0)=true then some false
     else if m.prio=true then
       (Zgm c).bind λr1128=>
       (Z4 m.every (Jt (Jt 2 (Qg c:Int)) r1128) 1000).bind λr1130=>
       if (!r1130)=true then some false
       else (Z4 m.cap 1 8).bind λr1135=>if (!r1135)=true then some false else k
      else k
   else if m.prio=true then
     (Zgm c).bind λr1128=>
     (Z4 m.every (Jt (Jt 2 (Qg c:Int)) r1128) 1000).bind λr1130=>
     if (!r1130)=true then some false
     else (Z4 m.cap 1 8).bind λr1135=>if (!r1135)=true then some false else k
    else k)=if Qs c m=true then k else some false:=by
 have h1:=Zz1 c;have h2:=Yqp c hl;have h3:=Ylb c;have e:Jt (Jt 2 (Qg c:Int)) (Kt c)=2*Kt c*Qg c:=by
  have e2:2*(Qg c:Int)*Kt c=2*(Kt c*(Qg c:Int)):=by rw[Int.mul_assoc,Vc5 (Qg c:Int)]
  rw[Zfp (a:=2) (by omega) (by omega),Zfp (by rw[e2];omega) (by rw[e2];omega),e2,Int.mul_assoc]
 unfold Qs;simp only[Xb,ZZa,Ycr,e];by_cases h1:1<=m.weight/\m.weight<=4
 .by_cases h2:m.prio=true
  .by_cases h3:2*Kt c*Qg c<=m.every/\m.every<=1000
   .by_cases h4:1<=m.cap/\m.cap<=8<;>simp[h1,h2,h3,h4]
   .simp[h1,h2,h3]
  .by_cases h3:m.every=0
   .by_cases h4:m.cap=0<;>simp[h1,h2,h3,h4]
   .simp[h1,h2,h3]
 .simp[h1]
theorem Yfn (c:Zh) (hl:c.masters.length < 1048577):Zav c FU (Qg c:Int) 0=some (Xh c):=by
 have key:∀(m k:Nat),k<=c.masters.length->c.masters.length - k < m->Zav c m (Qg c:Int) k=some (decide (1<=(c.masters.length:Int)/\(c.masters.length:Int)<=4)&&decide (1<=c.quantum/\c.quantum<=4)&&decide (1<=c.maxSplit/\c.maxSplit<=12)&&decide (Kt c≠0)&&(c.masters.drop k).all (Qs c)):=by
  intro m
  induction m with
  | zero=>intro k _ h;omega
  | succ m ih=>
   intro k hk hm;have e:Zav c (m+1) (Qg c:Int) k=Zth c (Zav c m) (Qg c:Int) k:=rfl;rw[e];unfold Zth;by_cases hc:k < c.masters.length
   .have h1:decide ((k:Int) < (c.masters.length:Int))=true:=by simpa using hc
    rw[ZZj h1,Xc hc,ZZa,Y2y c _ hl,Va5 hc,Va6,Wi (by omega),ih (k+1) (by omega) (by omega)];by_cases hq:Qs c c.masters[k]=true
    .simp[hq]
    .simp[hq]
   .have h1:¬decide ((k:Int) < (c.masters.length:Int))=true:=by simpa using hc
    rw[ZZi h1,Vbb (by omega),Xb,ZZa,Yml];by_cases h2:1<=(c.masters.length:Int)/\(c.masters.length:Int)<=4
    .simp[h2]
    .simp[h2]
 have:=key FU 0 (Vbk _) (by have:=Kb;omega);simpa [Xh] using this
theorem Zgw (c:Zh) (hl:c.masters.length < 1048577):Zd2 c=some (Xh c):=by
 unfold Zd2;rw[Yeu c.masters (by omega) (λ(a:Zc) n=>some (.inl (if a.prio=true then Zs n 1 else n))) (λn=>Zav c FU n 0) (Zoe c) (λm s i=>?_) 0,Ygd _ _ (by omega) (by omega)]
 .rw[show (0:Int)+(c.masters.countP (·.prio):Nat)=(Qg c:Int) by simp[Qg]]
  exact Yfn c hl
 .show Ztq c _ s i=_
  unfold Ztq
  congr 1;congr 1;funext a
  by_cases h:a.prio=true<;>simp[h,goL]
def Z3v (c:Zh) (i:Int):Int:=((c.masters[i.toNat]?).map (·.weight)).getD 0
def Zu (c:Zh) (i:Int):Bool:=decide (0<=i/\i < (c.masters.length:Int))
def Zhm (c:Zh) (i:Int):Int:=if Xh c=true/\Zu c i=true then Z3v c i*c.quantum else 0
theorem Yfv {c:Zh} {i:Int} (h:Zu c i=true):∃m,idx c.masters i=some m/\m∈c.masters/\m.weight=Z3v c i:=by
 simp only[Zu,ZZl] at h;obtain⟨k,rfl⟩:∃k:Nat,i=k:=⟨i.toNat,by omega⟩;have hk:k < c.masters.length:=by omega
 refine⟨c.masters[k],Xc hk,Vaq hk,?_⟩;simp[Z3v,hk]
theorem Ycq {c:Zh} {m:Zc} (h:Xh c=true) (hm:m∈c.masters):1<=m.weight/\m.weight<=4:=by
 simp only[Xh,ZZg,ZZk] at h;have:=h.2 m hm;simp only[Qs,ZZg,ZZl] at this;exact this.1
theorem Z74 {c:Zh} (h:Xh c=true):1<=c.quantum/\c.quantum<=4:=by
 simp only[Xh,ZZg,ZZl] at h;exact h.1.1.1.2
theorem Ynm {c:Zh} {i:Int} (h:Xh c=true) (hm:Zu c i=true):1<=Z3v c i/\Z3v c i<=4:=by
 obtain⟨m,_,h1,h2⟩:=Yfv hm;rw[<-h2];exact Ycq h h1
theorem Yp1 {a b:Int} (h1:1<=a) (h2:a<=4) (h3:1<=b) (h4:b<=4):1<=a*b/\a*b<=16:=by
 have:a=1\/a=2\/a=3\/a=4:=by omega
 rcases this with rfl|rfl|rfl|rfl<;>omega
theorem Z2d {c:Zh} {i:Int} (h:Xh c=true) (hm:Zu c i=true):1<=Zhm c i/\Zhm c i<=16:=by
 unfold Zhm;rw[ZZj ⟨h,hm⟩];have h1:=Ynm h hm;have h2:=Z74 h;exact Yp1 h1.1 h1.2 h2.1 h2.2
theorem Yxv {c:Zh} {i:Int}:Zhm c i=0↔¬(Xh c=true/\Zu c i=true):=by
 constructor
 .intro h hc
  have:=Z2d hc.1 hc.2;omega
 .intro h;unfold Zhm;rw[ZZi h]
theorem Zue (c:Zh) (i:Int):0<=Zhm c i/\Zhm c i<=16:=by
 by_cases h:Xh c=true/\Zu c i=true
 .have:=Z2d h.1 h.2;omega
 .rw[Yxv.2 h];omega
theorem Zyo {c:Zh} (i:Int) (hl:c.masters.length < 1048577):decide (0<=i/\i<=Xa (c.masters.length:Int) 1)=Zu c i:=by
 rw[Y9 (by omega) (by omega)];unfold Zu
 congr 1
 apply propext;omega
theorem Zu9 (c:Zh) (i:Int) (hl:c.masters.length < 1048577):Zjd c i=some (Zhm c i):=by
 unfold Zjd;rw[Zgw c hl,ZZa,Xb,ZZa,Zyo i hl];unfold Znw;by_cases h1:Xh c=true
 .by_cases h2:Zu c i=true
  .obtain⟨m,hm1,hm2,hm3⟩:=Yfv h2
   have hw:=Ycq h1 hm2;have hq:=Z74 h1;have:=Yp1 hw.1 hw.2 hq.1 hq.2;simp only[h1,h2,hm1,Va7,ZZf,if_false,ZZa];rw[Zfp (by omega) (by omega)];simp[Zhm,h1,h2,hm3]
  .simp[Zhm,h1,h2]
 .simp[Zhm,h1]
theorem Kr (c:Zh) (i:Int) (hl:c.masters.length < 1048577):Q1 c i=some (Zu c i):=by
 unfold Q1;rw[Xs,ZZa,Zyo i hl]
theorem Z3o (c:Zh) (i:Int) (hl:c.masters.length < 1048577):Zn4 c i=some (Zhm c i):=by
 rw[<-Zu9 c i hl];unfold Zn4 Zjd;rw[Zgw c hl,Zpp c hl,Kr c i hl,Xb,Zyo i hl];rfl
theorem Zcl (a b:Int):Zji a b=min a b:=by unfold Zji;omega
theorem Znp (a b:Int):Z0u a b=max a b:=by unfold Z0u;omega
theorem Jw {c:Zh} (h:Xh c=true):1<=(c.masters.length:Int)/\(c.masters.length:Int)<=4:=by
 simp only[Xh,ZZg,ZZl] at h;exact h.1.1.1.1
theorem Zcb {c:Zh} (h:Xh c=true):c.masters.length < 1048577:=by have:=Jw h;omega
instance:Inhabited Zc:=⟨Zc.z0⟩
instance:Inhabited Zf:=⟨Zf.z0⟩
theorem Zhw {c:Zh} {i:Int} (h:Xh c=true) (hm:Zu c i=true):Qs c (atI c.masters i)=true:=by
 simp only[Zu,ZZl] at hm;have:=Zj0 hm.1 hm.2;simp only[Xh,ZZg,ZZk] at h;exact h.2 _ this
theorem Zea {c:Zh} {m:Zc} (h:Qs c m=true):-1<=m.every/\m.every<=1000/\0<=m.cap/\m.cap<=8:=by
 have h1:=Zz1 c;have h2:0<=2*Kt c*(Qg c:Int):=Veh (by omega) (by omega);simp only[Qs,ZZg,ZZl] at h;obtain⟨h3,h4⟩:=h;split at h4
 .simp only[ZZg,ZZl] at h4;omega
 .simp only[ZZg,ZZl] at h4;omega
def Yw (b:Zf) (m:Zc):Bool:=if m.prio then decide (0<=b.tokens/\b.tokens<=m.cap)&&decide (0<=b.count/\b.count < m.every) else decide (b.tokens=0)&&decide (b.count=0)
def Zsv (b:Zf) (m:Zc):Zf:=if (m.prio&&Yw b m)=true then (if b.count+1=m.every then ⟨min (b.tokens+1) m.cap,0⟩ else ⟨b.tokens,b.count+1⟩) else b
def Zfx (b:Zf) (m:Zc):Zf×Bool:=if (m.prio&&Yw b m&&decide (b.tokens≠0))=true then (⟨b.tokens - 1,b.count⟩,true) else (b,false)
def Zy7 (b:Zf) (m:Zc):Zf:=if (m.prio&&Yw b m)=true then ⟨min (b.tokens+1) m.cap,b.count⟩ else b
def Zvu (m:Zc):Zf:=if m.prio then ⟨max m.cap 0,0⟩ else ⟨0,0⟩
theorem Zqa (b:Zf) {m:Zc} (h:-1<=m.every/\m.every<=1000):Zem b m=some (Yw b m):=by
 unfold Zem Yw;rw[Xb,ZZa,Xb,ZZa,Y9 (by omega) (by omega)];by_cases h1:m.prio=true
 .have e:(0<=b.count/\b.count<=m.every - 1)↔(0<=b.count/\b.count < m.every):=by omega
  by_cases h2:0<=b.tokens/\b.tokens<=m.cap
  .simp[h1,h2,e]
  .simp[h1,h2]
 .simp[h1]
theorem Z7c (b:Zf) (m:Zc):Zm7 b m=some (Yw b m):=by
 unfold Zm7 Yw;rw[Xs,ZZa];by_cases h1:m.prio=true
 .by_cases h2:0<=b.tokens/\b.tokens<=m.cap
  .by_cases h3:0<=b.count<;>simp[h1,h2,h3]
  .simp[h1,h2]
 .simp[h1]
theorem Zju {b:Zf} {c:Zh} {m:Zc} (h:Yw b m=true) (hm:Qs c m=true):0<=b.tokens/\b.tokens<=8/\0<=b.count/\b.count<=1000:=by
 have:=Zea hm;unfold Yw at h;split at h<;>simp only[ZZg,ZZl] at h<;>omega
theorem Ygv (b:Zf) {c:Zh} {m:Zc} (h:Qs c m=true):Zoo b m=some (Zsv b m):=by
 have hm:=Zea h;unfold Zoo Zgc Zsv;rw[Zqa b ⟨hm.1,hm.2.1⟩,ZZa];by_cases h1:m.prio=true
 .by_cases h2:Yw b m=true
  .have:=Zju h2 h
   simp only[h1,h2,Va7,ZZf,if_false,Vce,if_true];rw[Ys (by omega) (by omega),Ys (by omega) (by omega),Zcl,Vdn];by_cases h3:b.count+1=m.every<;>simp[h3]
  .simp[h1,h2]
 .simp[h1]
theorem Z20 (b:Zf) (m:Zc):Zno b m=some (m.prio&&Yw b m):=by
 unfold Zno;rw[Z7c,ZZa];by_cases h1:m.prio=true<;>simp[h1]
theorem Yhy (b:Zf) {c:Zh} {m:Zc} (h:Qs c m=true):Zot b m=some (Zsv b m):=by
 unfold Zot Zsv;rw[Z20,ZZa];by_cases h1:(m.prio&&Yw b m)=true
 .have h2:Yw b m=true:=by simp only[ZZg] at h1;exact h1.2
  have:=Zju h2 h;rw[ZZi (by simp[h1]),ZZj h1,Ys (by omega) (by omega),Ys (by omega) (by omega),Zcl];by_cases h3:b.count+1=m.every<;>simp[h3]
 .rw[ZZj (by cases hq:(m.prio&&Yw b m)<;>simp_all),ZZi h1]
theorem Yfl (b:Zf) {c:Zh} {m:Zc} (h:Qs c m=true):Znn b m=some (Zfx b m):=by
 have hm:=Zea h;unfold Znn Zc6 Zfx;rw[Zqa b ⟨hm.1,hm.2.1⟩,ZZa];by_cases h1:m.prio=true
 .by_cases h2:Yw b m=true
  .have:=Zju h2 h
   rw[Y9 (by omega) (by omega)];by_cases h3:b.tokens=0<;>simp[h1,h2,h3]
  .simp[h1,h2]
 .simp[h1]
theorem Yfb (b:Zf) {c:Zh} {m:Zc} (h:Qs c m=true):Zow b m=some (Zfx b m):=by
 unfold Zow Zf6 Zfx;rw[Z20,ZZa];by_cases h1:(m.prio&&Yw b m)=true
 .have h2:Yw b m=true:=by simp only[ZZg] at h1;exact h1.2
  have:=Zju h2 h;rw[Y9 (by omega) (by omega)];by_cases h3:b.tokens=0<;>simp[h1,h3]
 .simp[h1]
theorem Yfd (b:Zf) {c:Zh} {m:Zc} (h:Qs c m=true):Zos b m=some (Zy7 b m):=by
 have hm:=Zea h;unfold Zos Zfr Zy7;rw[Zqa b ⟨hm.1,hm.2.1⟩,ZZa];by_cases h1:m.prio=true
 .by_cases h2:Yw b m=true
  .have:=Zju h2 h
   simp only[h1,h2,if_true,Vce];rw[Ys (by omega) (by omega),Zcl,Vdn]
  .simp[h1,h2]
 .simp[h1]
theorem Yfq (b:Zf) {c:Zh} {m:Zc} (h:Qs c m=true):Zoi b m=some (Zy7 b m):=by
 unfold Zoi Zy7;rw[Z20,ZZa];by_cases h1:(m.prio&&Yw b m)=true
 .have h2:Yw b m=true:=by simp only[ZZg] at h1;exact h1.2
  have h4:m.prio=true:=by simp only[ZZg] at h1;exact h1.1
  have:=Zju h2 h;have h5:b.tokens<=m.cap:=by
   unfold Yw at h2;rw[ZZj h4] at h2;simp only[ZZg,ZZl] at h2;exact h2.1.2
  rw[ZZj h1,ZZj h1,Ys (by omega) (by omega)];by_cases h3:b.tokens < m.cap
  .rw[ZZj (by simpa using h3),Int.min_eq_left (by omega)]
  .rw[ZZi (by simpa using h3),Int.min_eq_right (by omega)]
   have:b.tokens=m.cap:=by omega
   rw[<-this]
 .rw[ZZi h1,ZZi h1]
theorem Yio (m:Zc):Zqb m=some (Zvu m):=by
 unfold Zqb Zvu;rw[Znp,Int.max_comm];by_cases h1:m.prio=true<;>simp[h1]
theorem Yju (m:Zc):Zpz m=some (Zvu m):=by
 unfold Zpz Zvu;rw[Znp];by_cases h1:m.prio=true<;>simp[h1]
theorem Y6r {c:Zh} {m:Zc} (h:Qs c m=true) (hs:0 < Kt c/\(m.prio=true->0 < Qg c)):Yw (Zvu m) m=true:=by
 have hm:=Zea h;unfold Yw Zvu;by_cases h1:m.prio=true
 .simp only[h1,if_true,ZZg,ZZl]
  simp only[Qs,h1,if_true,ZZg,ZZl] at h;have h2:0 < Kt c*(Qg c:Int):=Int.mul_pos hs.1 (by have:=hs.2 h1;omega);have h3:2*Kt c*(Qg c:Int)=2*(Kt c*(Qg c:Int)):=Int.mul_assoc ..;omega
 .simp[h1]
theorem Y6g {b:Zf} {c:Zh} {m:Zc} (h:Yw b m=true) (hm:Qs c m=true):Yw (Zsv b m) m=true:=by
 have hb:=Zea hm;have hn:=Zju h hm;unfold Zsv;split
 .rename_i h1
  simp only[ZZg] at h1;unfold Yw at h;rw[ZZj h1.1] at h;simp only[ZZg,ZZl] at h;split
  .unfold Yw
   rw[ZZj h1.1];simp only[ZZg,ZZl];omega
  .unfold Yw
   rw[ZZj h1.1];simp only[ZZg,ZZl];omega
 .exact h
theorem Y5d {b:Zf} {c:Zh} {m:Zc} (h:Yw b m=true) (hm:Qs c m=true):Yw (Zfx b m).1 m=true:=by
 unfold Zfx;split
 .rename_i h1
  simp only[ZZg,ZZl] at h1;unfold Yw at h ⊢;rw[ZZj h1.1.1] at h ⊢;simp only[ZZg,ZZl] at h ⊢;omega
 .exact h
theorem Y3b {b:Zf} {c:Zh} {m:Zc} (h:Yw b m=true) (hm:Qs c m=true):Yw (Zy7 b m) m=true:=by
 have hb:=Zea hm;unfold Zy7;split
 .rename_i h1
  simp only[ZZg] at h1;unfold Yw at h ⊢;rw[ZZj h1.1] at h ⊢;simp only[ZZg,ZZl] at h ⊢;omega
 .exact h
def Zab (w:Z5) (c:Zh):Bool:=Xh c&&(Zu c w.at_&&decide (0<=w.credit/\w.credit<=Zhm c w.at_))
theorem Z5g (w:Z5) (c:Zh) (hl:c.masters.length < 1048577):Zrb w c=some (Zab w c):=by
 unfold Zrb Zab;rw[Zgw c hl,ZZa,Xb,ZZa,Zyo _ hl,Zu9 c _ hl,ZZa,Xb,ZZa];by_cases h1:Xh c=true<;>by_cases h2:Zu c w.at_=true<;>simp[h1,h2]
theorem Z6o (w:Z5) (c:Zh) (hl:c.masters.length < 1048577):Zmo w c=some (Zab w c):=by
 unfold Zmo Zab;rw[Zpp c hl,ZZa,Kr c _ hl,ZZa,Z3o c _ hl,ZZa,Xs,ZZa];by_cases h1:Xh c=true<;>by_cases h2:Zu c w.at_=true<;>simp[h1,h2]
def Zl7 (w:Z5) (c:Zh) (wants:List Bool):Nat->Int->Z5×Int
 | 0,_=>(⟨w.at_,0⟩,-1)
 | r+1,k=>if atI wants ((w.at_+k) % (wants.length:Int))=true then (⟨(w.at_+k) % (wants.length:Int),Zhm c ((w.at_+k) % (wants.length:Int)) - 1⟩,(w.at_+k) % (wants.length:Int)) else Zl7 w c wants r (k+1)
def Zc1 (w:Z5) (c:Zh) (wants:List Bool):Z5×Int:=if (decide (0 < w.credit)&&atI wants w.at_)=true then (⟨w.at_,w.credit - 1⟩,w.at_) else Zl7 w c wants wants.length 1
def Zy3 (w:Z5) (c:Zh) (who:Int):Z5:=if w.at_=who then ⟨w.at_,min (w.credit+1) (Zhm c who)⟩ else w
theorem Zij {w:Z5} {c:Zh} (h:Zab w c=true):Xh c=true/\Zu c w.at_=true/\0<=w.credit/\w.credit<=Zhm c w.at_:=by
 simp only[Zab,ZZg,ZZl] at h;exact⟨h.1,h.2.1,h.2.2.1,h.2.2.2⟩
theorem Yvr (w:Z5) (c:Zh) (wants:List Bool) (h:Zab w c=true) (hn:wants.length=c.masters.length):∀(m r:Nat) (k:Int),r < m->k+r=wants.length+1->1<=k->Zkr w c wants m k=some (Zl7 w c wants r k)/\Zkw w c wants m k=some (Zl7 w c wants r k):=by
 obtain⟨hc,hm,h1,h2⟩:=Zij h;have hl:=Jw hc;have hl2:=Zcb hc;simp only[Zu,ZZl] at hm;intro m
 induction m with
 | zero=>intro r k hr;omega
 | succ m ih=>
  intro r k hr hk h1k;show Zqh w c wants _ k=_/\Zqq w c wants _ k=_;unfold Zqh Zqq;rw[<-hn];cases r with
  | zero=>
   rw[ZZi (by simp;omega),ZZi (by simp;omega)];exact⟨rfl,rfl⟩
  | succ r=>
   have h0:0<=(w.at_+k) % (wants.length:Int):=Vc3 _ (by omega);have h0':(w.at_+k) % (wants.length:Int) < (wants.length:Int):=Vco _ (by omega);have hmm:Zu c ((w.at_+k) % (wants.length:Int))=true:=by
    simp only[Zu,ZZl];omega
   have ht:=Z2d hc hmm;rw[ZZj (by simp;omega),ZZj (by simp;omega),Zwt (by omega),ZZa,ZZa,Ys (a:=w.at_) (by omega) (by omega),Zeh (by omega),Xp h0 h0',ZZa,ZZa,Z3o c _ hl2,Zu9 c _ hl2,ZZa,Y9 (by omega) (by omega),Ys (a:=k) (by omega) (by omega)];have:=ih r (k+1) (by omega) (by omega) (by omega);simp only[Zl7];by_cases hq:atI wants ((w.at_+k) % (wants.length:Int))=true
   .simp[hq]
   .simp only[hq,if_false,ZZf]
    exact this
theorem Ynt (w:Z5) (c:Zh) (wants:List Bool) (h:Zab w c=true) (hn:wants.length=c.masters.length):Zvj w c wants=some (Zc1 w c wants):=by
 obtain⟨hc,hm,h1,h2⟩:=Zij h;have hl:=Jw hc;have hl2:=Zcb hc;simp only[Zu,ZZl] at hm;have hs:=(Yvr w c wants h hn FU wants.length 1 (by have:=Kb;omega) (by omega) (by omega)).1;have ht:=Zue c w.at_;unfold Zvj Zlt Zlz Zc1;rw[Z6o w c hl2,ZZa,h,Xp hm.1 (by omega),ZZa,hs,Y9 (by omega) (by omega)];have h3:¬((wants.length:Int)≠(c.masters.length:Int)):=by omega
 by_cases h4:0 < w.credit<;>by_cases h5:atI wants w.at_=true<;>simp[h3,h4,h5]
theorem Yqj (w:Z5) (c:Zh) (wants:List Bool) (h:Zab w c=true) (hn:wants.length=c.masters.length):Zvs w c wants=some (Zc1 w c wants):=by
 obtain⟨hc,hm,h1,h2⟩:=Zij h;have hl:=Jw hc;have hl2:=Zcb hc;simp only[Zu,ZZl] at hm;have hs:=(Yvr w c wants h hn FU wants.length 1 (by have:=Kb;omega) (by omega) (by omega)).2;have ht:=Zue c w.at_;unfold Zvs Zlf Zls Zc1;rw[Z5g w c hl2,ZZa,h,Xp hm.1 (by omega),ZZa,hs,Y9 (by omega) (by omega)];have h3:¬((wants.length:Int)≠(c.masters.length:Int)):=by omega
 by_cases h4:0 < w.credit<;>by_cases h5:atI wants w.at_=true<;>simp[h3,h4,h5]
theorem Yp6 (w:Z5) (c:Zh) (who:Int) (h:Zab w c=true):Zv1 w c who=some (Zy3 w c who):=by
 obtain⟨hc,hm,h1,h2⟩:=Zij h;have hl2:=Zcb hc;have ht:=Zue c w.at_;unfold Zv1 Zks Zy3;rw[Z5g w c hl2,ZZa,h,Zu9 c _ hl2,ZZa,Ys (by omega) (by omega),Zcl,Vdn];by_cases h4:w.at_=who<;>simp[h4]
theorem Yo6 (w:Z5) (c:Zh) (who:Int) (h:Zab w c=true):Zvn w c who=some (Zy3 w c who):=by
 obtain⟨hc,hm,h1,h2⟩:=Zij h;have hl2:=Zcb hc;have ht:=Zue c w.at_;unfold Zvn Zkl Zy3;rw[Z6o w c hl2,ZZa,h,Z3o c _ hl2,ZZa,Ys (by omega) (by omega),Zcl];by_cases h4:w.at_=who
 .simp[h4]
 .have:¬who=w.at_:=λh=>h4 h.symm
  simp[h4,this]
theorem Y2r {w:Z5} {c:Zh} (who:Int) (h:Zab w c=true):Zab (Zy3 w c who) c=true:=by
 obtain⟨hc,hm,h1,h2⟩:=Zij h;unfold Zy3;split
 .rename_i h4
  subst h4;have ht:=Zue c w.at_;simp only[Zab,ZZg,ZZl];exact⟨hc,hm,by omega,by omega⟩
 .exact h
theorem Y3s {w:Z5} {c:Zh} {wants:List Bool} (h:Zab w c=true) (hn:wants.length=c.masters.length):∀(r:Nat) (k:Int),1<=k->Zab (Zl7 w c wants r k).1 c=true/\((Zl7 w c wants r k).2=-1\/(Zu c (Zl7 w c wants r k).2=true/\atI wants (Zl7 w c wants r k).2=true)):=by
 obtain⟨hc,hm,h1,h2⟩:=Zij h;have hl:=Jw hc;intro r
 induction r with
 | zero=>
  intro k _;refine⟨?_,.inl rfl⟩;simp only[Zl7];simp only[Zab,ZZg,ZZl];exact⟨hc,hm,by omega,by omega⟩
 | succ r ih=>
  intro k hk;simp only[Zl7];split
  .rename_i hq
   have h0:0<=(w.at_+k) % (wants.length:Int):=Vc3 _ (by omega);have h0':(w.at_+k) % (wants.length:Int) < (wants.length:Int):=Vco _ (by omega);have hmm:Zu c ((w.at_+k) % (wants.length:Int))=true:=by
    simp only[Zu,ZZl];omega
   have ht:=Z2d hc hmm;refine⟨?_,.inr ⟨hmm,hq⟩⟩;simp only[Zab,ZZg,ZZl];exact⟨hc,hmm,by omega,by omega⟩
  .exact ih (k+1) (by omega)
theorem Y17 {w:Z5} {c:Zh} {wants:List Bool} (h:Zab w c=true) (hn:wants.length=c.masters.length):Zab (Zc1 w c wants).1 c=true/\((Zc1 w c wants).2=-1\/(Zu c (Zc1 w c wants).2=true/\atI wants (Zc1 w c wants).2=true)):=by
 obtain⟨hc,hm,h1,h2⟩:=Zij h;unfold Zc1;split
 .rename_i h3
  simp only[ZZg,ZZl] at h3;refine⟨?_,.inr ⟨hm,h3.2⟩⟩;simp only[Zab,ZZg,ZZl];exact⟨hc,hm,by omega,by omega⟩
 .exact Y3s h hn _ _ (by omega)
def Yz (s:Int):Int:=if s=0 then 1 else if s=1 then 2 else if s=2 then 4 else 0
def Zfw (s:Int):Int:=if s=0 then 256 else if s=1 then 65536 else if s=2 then 4294967296 else 0
def X0 (b:Int):Int:=if b=0 then 1 else if b=1 then 4 else if b=2 then 4 else if b=3 then 8 else 0
theorem Zil (s:Int):0<=Yz s/\Yz s<=4:=by unfold Yz;repeat' split<;>omega
theorem Z1x (s:Int):0<=Zfw s/\Zfw s<=4294967296:=by unfold Zfw;repeat' split<;>omega
theorem Zmj (b:Int):0<=X0 b/\X0 b<=8:=by unfold X0;repeat' split<;>omega
theorem Za7 (s:Int):Jn s=some (Yz s):=by
 unfold Jn;rw[Xb,ZZa];by_cases h:0<=s/\s<=2
 .have:s=0\/s=1\/s=2:=by omega
  rcases this with rfl|rfl|rfl<;>rfl
 .have:Yz s=0:=by unfold Yz;repeat' split<;>omega
  simp[h,this]
theorem Zhr (s:Int):J7 s=some (Yz s):=by
 rw[<-Za7];unfold J7 Jn;rw[Xs,Xb]
theorem Zhx (b:Int):Za4 b=some (X0 b):=by
 unfold Za4;rw[Xb,ZZa];by_cases h:0<=b/\b<=3
 .have:b=0\/b=1\/b=2\/b=3:=by omega
  rcases this with rfl|rfl|rfl|rfl<;>rfl
 .have:X0 b=0:=by unfold X0;repeat' split<;>omega
  simp[h,this]
theorem Zte (b:Int):Zgt b=some (X0 b):=by
 rw[<-Zhx];unfold Zgt Za4;rw[Xs,Xb]
theorem Zbb (s:Int):Ql s=some (Zfw s):=by
 unfold Ql;rw[Za7,ZZa,ZZa];by_cases h:s=0\/s=1\/s=2
 .rcases h with rfl|rfl|rfl<;>rfl
 .have h1:Yz s=0:=by unfold Yz;repeat' split<;>omega
  have h2:Zfw s=0:=by unfold Zfw;repeat' split<;>omega
  simp[h1,h2]
theorem Z8p (s:Int):Zpu s=some (Zfw s):=by
 rw[<-Zbb];unfold Zpu Ql;simp only[Zhr,Za7]
def Xt (v s:Int):Bool:=decide (0<=v/\v < Zfw s)
theorem Zjq (v s:Int):Zd8 v s=some (Xt v s):=by
 have:=Z1x s;unfold Zd8 Xt;rw[Z8p,ZZa,Xs,ZZa,Y9 (by omega) (by omega)]
 congr 2
 apply propext;omega
theorem Zqr (v s:Int):Z4 v 0 (Xa (Zfw s) 1)=some (Xt v s):=by
 have:=Z1x s;unfold Xt;rw[Xb,Y9 (by omega) (by omega)]
 congr 2
 apply propext;omega
def Wb (a s:Int):Bool:=decide (0 < Yz s)&&(decide (0<=a)&&decide (a % Yz s=0))
theorem Zsp (a s:Int):Za3 a s=some (Wb a s):=by
 unfold Za3 Wb;rw[Za7,ZZa,ZZa];by_cases h1:0 < Yz s
 .by_cases h2:0<=a
  .rw[Zwt (by omega),Zeh h2];simp[h1,h2]
  .simp[h1,h2]
 .simp[h1]
theorem Zrd (s:Int):0 < Yz s↔(0<=s/\s<=2):=by
 unfold Yz
 repeat' split<;>omega
theorem Zs2 (a s:Int):Zgp a s=some (Wb a s):=by
 unfold Zgp Wb;rw[Xs,ZZa,Zhr,ZZa];by_cases h1:0 < Yz s
 .have h3:=(Zrd s).1 h1
  by_cases h2:0<=a
  .rw[Zwt (by omega),Zeh h2];simp[h1,h2,h3]
  .simp[h1,h2,h3]
 .have h3:¬(0<=s/\s<=2):=λh=>h1 ((Zrd s).2 h)
  simp[h1,h3]
def Zlb (a s b:Int):Int:=if (Wb a s=true/\a < 512)/\X0 b≠0 then (if b=2/\(a+Yz s) % (4*Yz s)=0 then a+Yz s - 4*Yz s else a+Yz s) else -1
theorem Zbx {a s:Int} (h:Wb a s=true):0 < Yz s/\0<=a/\a % Yz s=0:=by
 simpa [Wb,ZZg,ZZl] using h
theorem Ymk (a s b:Int):Zmt a s b=some (Zlb a s b):=by
 have hb:=Zil s;unfold Zmt Zev Zjk Zlb;rw[Za7,ZZa,Zsp,ZZa,Xb,ZZa,Zhx,ZZa];by_cases h1:Wb a s=true
 .obtain⟨h2,h3,h4⟩:=Zbx h1
  by_cases h5:a < 512
  .have h6:0<=a/\a<=511:=by omega
   rw[Zfp (by omega) (by omega),Ys (by omega) (by omega),Y9 (by omega) (by omega),Zwt (by omega),Zeh (by omega)];by_cases h7:X0 b=0
   .simp[h1,h5,h6,h7]
   .by_cases h8:b=2
    .subst h8
     by_cases h9:(a+Yz s) % (4*Yz s)=0<;>simp[h1,h5,h6,h7,h9]
    .simp[h1,h5,h6,h7,h8]
  .have h6:¬(0<=a/\a<=511):=by omega
   simp[h1,h5,h6]
 .simp[h1]
theorem Yly (a s b:Int):Zse a s b=some (Zlb a s b):=by
 have hb:=Zil s;unfold Zse Zez Zlb;rw[Zs2,ZZa,Zhr,ZZa,ZZa,Zte,ZZa];by_cases h1:Wb a s=true
 .obtain⟨h2,h3,h4⟩:=Zbx h1
  by_cases h5:a < 512
  .have h6:¬a≥512:=by omega
   rw[Zfp (by omega) (by omega),Ys (by omega) (by omega),Y9 (by omega) (by omega),Zwt (by omega),Zeh (by omega)];by_cases h7:X0 b=0
   .simp[h1,h5,h6,h7]
   .by_cases h8:b=2
    .subst h8
     by_cases h9:(a+Yz s) % (4*Yz s)=0<;>simp[h1,h5,h6,h7,h9]
    .simp[h1,h5,h6,h7,h8]
  .have h6:a≥512:=by omega
   simp[h1,h5,h6]
 .simp[h1]
theorem Yun {a s b:Int} (h:0<=Zlb a s b):Wb a s=true/\a < 512:=by
 unfold Zlb at h;split at h
 .rename_i h1;exact h1.1
 .omega
def Zc0 (s b:Int):Nat->Int->Option (List Int)
 | 0,_=>some []
 | n+1,a=>if Zlb a s b < 0 then none else (Zc0 s b n (Zlb a s b)).map (a::·)
def Zac (a s b:Int):List Int:=(Zc0 s b (X0 b).toNat a).getD []
theorem Z1b (a s b:Int):Zh3 a s b=some (Zac a s b):=by
 have hb:=Zmj b;unfold Zh3;rw[Zte,ZZa];have key:∀(n m:Nat) (x:Int) (out:List Int) (k:Nat),n < m->(k:Int)+n=X0 b->out.length=k->Zga a s b m x out (X0 b) k=some (match Zc0 s b n x with|some l=>out++l|none=>[]):=by
  intro n
  induction n with
  | zero=>
   intro m x out k hm hk ho;obtain⟨m,rfl⟩:∃m',m=m'+1:=⟨m - 1,by omega⟩;show Zb5 a s b _ x out (X0 b) k=_;unfold Zb5;rw[ZZi (by simp;omega)];simp[Zc0]
  | succ n ih=>
   intro m x out k hm hk ho;obtain⟨m,rfl⟩:∃m',m=m'+1:=⟨m - 1,by omega⟩;show Zb5 a s b _ x out (X0 b) k=_;unfold Zb5;rw[ZZj (by simp;omega),Yly,ZZa];simp only[Zc0];by_cases h1:Zlb x s b < 0
   .rw[ZZj (by simpa using h1),ZZj h1]
   .rw[ZZi (by simpa using h1),ZZi h1,Wg (by simp;omega) (by simp;omega),ZZa,Wi (by omega),ih m _ _ (k+1) (by omega) (by omega) (by simp[ho])]
    cases Zc0 s b n (Zlb x s b)<;>simp
 have:=key (X0 b).toNat FU a [] 0 (by have:=Kb;omega) (by omega) rfl;rw[show ((0:Nat):Int)=0 from rfl] at this;rw[this];unfold Zac;cases Zc0 s b (X0 b).toNat a<;>simp
theorem Z07 (a s b:Int):Zh2 a s b=some (Zac a s b):=by
 have hb:=Zmj b;unfold Zh2;have key:∀(n m:Nat) (x:Int) (out:List Int),n < m->(out.length:Int)+n=X0 b->Zf5 a s b m x out=some (match Zc0 s b n x with|some l=>out++l|none=>[]):=by
  intro n
  induction n with
  | zero=>
   intro m x out hm hk;obtain⟨m,rfl⟩:∃m',m=m'+1:=⟨m - 1,by omega⟩;show Zb7 a s b _ x out=_;unfold Zb7 Zc7;have h1:¬((out.length:Int) < X0 b):=by omega
   simp[Zhx,h1,Zc0]
  | succ n ih=>
   intro m x out hm hk;obtain⟨m,rfl⟩:∃m',m=m'+1:=⟨m - 1,by omega⟩;show Zb7 a s b _ x out=_;unfold Zb7 Zc7;have h1:(out.length:Int) < X0 b:=by omega
   simp only[Zhx,Ymk,ZZa,h1,decide_true,if_true,Zc0,ZZl];by_cases h2:Zlb x s b < 0
   .have h3:¬(Zlb x s b≥0):=by omega
    rw[ZZi h3,ZZj h2]
   .have h3:Zlb x s b≥0:=by omega
    rw[ZZj h3,ZZi h2,Wg (by simp;omega) (by simp;omega),ZZa,ih m _ _ (by omega) (by simp;omega)];cases Zc0 s b n (Zlb x s b)<;>simp
 have:=key (X0 b).toNat FU a [] (by have:=Kb;omega) (by simp;omega);rw[this];unfold Zac;cases Zc0 s b (X0 b).toNat a<;>simp
theorem Yky {s b:Int}:∀{n:Nat} {a:Int} {l:List Int},Zc0 s b n a=some l->l.length=n/\(∀x∈l,Wb x s=true/\x < 512)/\(0 < n->l.head?=some a):=by
 intro n
 induction n with
 | zero=>intro a l h;simp only[Zc0,ZZd] at h;subst h;simp
 | succ n ih=>
  intro a l h;simp only[Zc0] at h;split at h
  .cases h
  .rename_i h1
   obtain⟨l',h2,rfl⟩:=ZZc.1 h;obtain⟨h3,h4,_⟩:=ih h2;refine⟨by simp[h3],λx hx=>?_,λ_=>rfl⟩;rcases Vav.1 hx with rfl|hx
   .exact Yun (s:=s) (b:=b) (by omega)
   .exact h4 x hx
theorem Yfg (a s b:Int):Zac a s b=[]\/((Zac a s b).length:Int)=X0 b:=by
 unfold Zac;have hb:=Zmj b;cases h:Zc0 s b (X0 b).toNat a with
 | none=>exact .inl rfl
 | some l=>
  have:=(Yky h).1;exact .inr (by simp only[Va0];omega)
theorem Z6c {a s b x:Int} (h:x∈Zac a s b):Wb x s=true/\0<=x/\x < 512:=by
 unfold Zac at h;cases h2:Zc0 s b (X0 b).toNat a with
 | none=>rw[h2] at h;simp at h
 | some l=>
  rw[h2] at h;have:=(Yky h2).2.1 x h;exact⟨this.1,(Zbx this.1).2.1,this.2⟩
theorem Yk7 (a s b:Int):(Zac a s b).length<=8:=by
 have:=Zmj b;rcases Yfg a s b with h|h
 .rw[h];simp
 .omega
def Zpl (a s b:Int):Bool:=(Zac a s b).all (λx=>decide (x / 64=atI (Zac a s b) 0 / 64))&&decide (Zac a s b≠[])
theorem Yav {x:Int} (h0:0<=x) (h1:x < 512):Zrx x 64=x / 64:=Yaz h0 (by omega) (by omega)
theorem Ypv (a s b:Int):Zu7 a s b=some (Zpl a s b):=by
 unfold Zu7 Zpl;rw[Z1b,ZZa];generalize hA:Zac a s b=l;have hm:∀x∈l,0<=x/\x < 512:=λx hx=>by rw[<-hA] at hx;exact (Z6c hx).2
 have hl:l.length<=8:=by rw[<-hA];exact Yk7 a s b
 have key:∀(m k:Nat),k<=l.length->l.length - k < m->Zlj a s b m l (l.length:Int) k=some ((l.drop k).all (λx=>decide (x / 64=atI l 0 / 64))&&decide (l≠[])):=by
  intro m
  induction m with
  | zero=>intro k _ h;omega
  | succ m ih=>
   intro k hk hm2;show Zql a s b _ l (l.length:Int) k=_;unfold Zql;by_cases hc:k < l.length
   .have h0:=hm _ (Vaq hc)
    have h1:=hm _ (Vaq (by omega:0 < l.length));rw[ZZj (by simpa using hc),Xc hc,ZZa,show (0:Int)=((0:Nat):Int) from rfl,Xc (by omega:0 < l.length),ZZa,Yav h0.1 h0.2,Yav h1.1 h1.2,X5 (by omega:0 < l.length),Va5 hc,Va6];by_cases hq:(l[k]:Int) / (64:Int)=(l[0]:Int) / (64:Int)
    .rw[ZZi (by simpa using hq),Wi (by omega),ih (k+1) (by omega) (by omega),show (0:Int)=((0:Nat):Int) from rfl,X5 (by omega:0 < l.length),decide_eq_true hq,Vbz]
    .rw[ZZj (by simpa using hq),decide_eq_false hq,Vbr,Vbr]
   .rw[ZZi (by simpa using hc),Vbb (by omega)]
    simp[Vao]
 have:=key FU 0 (Vbk _) (by have:=Kb;omega);simpa using this
theorem Ypx (a s b:Int):Zvm a s b=some (Zpl a s b):=by
 unfold Zvm Zpl;rw[Z07,ZZa];generalize hA:Zac a s b=l;have hm:∀x∈l,0<=x/\x < 512:=λx hx=>by rw[<-hA] at hx;exact (Z6c hx).2
 have hl:l.length<=8:=by rw[<-hA];exact Yk7 a s b
 have key:∀(m k:Nat),k<=l.length->l.length - k < m->Zlr a s b m l k=some ((l.drop k).all (λx=>decide (x / 64=atI l 0 / 64))&&decide (l≠[])):=by
  intro m
  induction m with
  | zero=>intro k _ h;omega
  | succ m ih=>
   intro k hk hm2;show Zqp a s b _ l k=_;unfold Zqp;by_cases hc:k < l.length
   .have h0:=hm _ (Vaq hc)
    have h1:=hm _ (Vaq (by omega:0 < l.length));rw[ZZj (by simpa using hc),Xc hc,ZZa,show (0:Int)=((0:Nat):Int) from rfl,Xc (by omega:0 < l.length),ZZa,Yav h0.1 h0.2,Yav h1.1 h1.2,X5 (by omega:0 < l.length),Va5 hc,Va6];by_cases hq:(l[k]:Int) / (64:Int)=(l[0]:Int) / (64:Int)
    .rw[ZZi (by simpa using hq),Wi (by omega),ih (k+1) (by omega) (by omega),show (0:Int)=((0:Nat):Int) from rfl,X5 (by omega:0 < l.length),decide_eq_true hq,Vbz]
    .rw[ZZj (by simpa using hq),decide_eq_false hq,Vbr,Vbr]
   .rw[ZZi (by simpa using hc),Vbb (by omega)]
    simp[Vao]
 have:=key FU 0 (Vbk _) (by have:=Kb;omega);simpa using this
instance:Inhabited Zi:=⟨Zi.z0⟩
def Zb1 (r:Zi):Bool:=Zpl r.addr r.size r.burst&&(decide ((r.data_.length:Int)=if r.write then X0 r.burst else 0)&&r.data_.all λv=>Xt v r.size)
def Zi.sm (r:Zi):Prop:=r.data_.length < 1048577
theorem Z6n (r:Zi) (hs:r.sm):Znj r=some (Zb1 r):=by
 unfold Zi.sm at hs;have hf:Wr r.data_ r=some (!r.data_.all λv=>Xt v r.size):=by
  unfold Wr K7;refine Z1o r.data_ (by omega) (λv=>Zu5 v r) (λv=>Xt v r.size) (λv _=>?_) _ (λm i=>rfl);unfold Zu5;rw[Zjq];rfl
 unfold Znj Zqg Zb1;rw[Zte,ZZa,Ypv,ZZa,hf,ZZa,Vej];by_cases h1:Zpl r.addr r.size r.burst=true
 .by_cases h2:r.write=true
  .by_cases h3:(r.data_.length:Int)=X0 r.burst<;>simp[h1,h2,h3]
  .by_cases h3:r.data_=[]<;>simp[h1,h2,h3]
 .by_cases h2:r.write=true<;>simp[h1,h2]
theorem Z6s (r:Zi) (hs:r.sm):Zra r=some (Zb1 r):=by
 unfold Zi.sm at hs;unfold Zra;rw[Ypx,ZZa];have hb:=Zmj r.burst;have key:∀(m k:Nat),k<=r.data_.length->r.data_.length - k < m->Zp6 r m k=some (decide ((r.data_.length:Int)=if r.write then X0 r.burst else 0)&&(r.data_.drop k).all λv=>Xt v r.size):=by
  intro m
  induction m with
  | zero=>intro k _ h;omega
  | succ m ih=>
   intro k hk hm;show Zuj r _ k=_;unfold Zuj;by_cases hc:k < r.data_.length
   .rw[ZZj (by simpa using hc),Xc hc,ZZa,Zbb,ZZa,Zqr,ZZa,Va5 hc,Va6]
    by_cases hq:Xt r.data_[k] r.size=true
    .rw[ZZi (by simp[hq]),Wi (by omega),ih (k+1) (by omega) (by omega)]
     simp[hq]
    .rw[ZZj (by simp[hq])]
     simp[hq]
   .rw[ZZi (by simpa using hc),Vbb (by omega),Zhx]
    cases h2:r.write<;>simp only[if_true,if_false,ZZf,ZZa,Vdl,Vci]<;>generalize decide ((r.data_.length:Int)=0)=x<;>generalize decide ((r.data_.length:Int)=X0 r.burst)=y<;>cases x<;>cases y<;>rfl
 have:=key FU 0 (Vbk _) (by have:=Kb;omega);unfold Zb1;by_cases h1:Zpl r.addr r.size r.burst=true
 .rw[ZZi (by simp[h1]),show (0:Int)=((0:Nat):Int) from rfl,this]
  simp[h1]
 .rw[ZZj (by simp[h1])]
  simp[h1]
theorem Zik {r:Zi} (h:Zb1 r=true):Zpl r.addr r.size r.burst=true/\(r.data_.length:Int)=(if r.write then X0 r.burst else 0)/\∀v∈r.data_,Xt v r.size=true:=by
 simp only[Zb1,ZZg,ZZl,ZZk] at h;exact⟨h.1,h.2.1,h.2.2⟩
theorem Zrc {a s b:Int} (h:Zpl a s b=true):((Zac a s b).length:Int)=X0 b/\1<=X0 b:=by
 simp only[Zpl,ZZg,ZZl] at h;rcases Yfg a s b with h1|h1
 .exact absurd h1 h.2
 .have:0 < (Zac a s b).length:=Vao.2 h.2
  omega
theorem Yzq {r:Zi} (h:Zb1 r=true):r.sm:=by
 have:=(Zik h).2.1;have hb:=Zmj r.burst;unfold Zi.sm;split at this<;>omega
theorem Z88 (r:Zi) (hs:r.sm):Ziv r=some r:=by
 unfold Zi.sm at hs;unfold Ziv Xd;rw[Wg (by simp;omega) (by simp;omega)];rfl
theorem Z8y (r:Zi) (hs:r.sm):Zi2 r=some r:=by
 unfold Zi.sm at hs;unfold Zi2;rw[Wg (by simp;omega) (by simp;omega)];rfl
instance:Inhabited Zb:=⟨Zb.z0⟩
def Zz (m:Zb):Int:=if m.queue=[] then 0 else X0 (atI m.queue 0).burst
theorem Zti (m:Zb):0<=Zz m/\Zz m<=8:=by
 unfold Zz;have:=Zmj (atI m.queue 0).burst;split<;>omega
def Zv8 (m:Zb):Bool:=decide (m.queue.length<=4)&&(decide (0<=m.tries)&&(m.queue.all Zb1&&
 (if m.queue=[] then decide (m.beat=0)&&(decide (m.done=0)&&(decide (m.tries=0)&&(!m.parted&&!m.broken))) else decide (0<=m.done/\m.done<=Zz m - 1)&&decide (m.done<=m.beat/\m.beat<=min (m.done+2) (Zz m)))))
def Zb.sm (m:Zb):Prop:=m.queue.length < 1048577/\∀r∈m.queue,r.sm
structure Yv (m:Zb):Prop where
 len:m.queue.length<=4
 tries:0<=m.tries
 reqs:∀r∈m.queue,Zb1 r=true
 none:m.queue=[]->m.beat=0/\m.done=0/\m.tries=0/\m.parted=false/\m.broken=false
 some:m.queue≠[]->0<=m.done/\m.done < Zz m/\m.done<=m.beat/\m.beat<=m.done+2/\m.beat<=Zz m
theorem Ja {m:Zb}:Zv8 m=true↔Yv m:=by
 unfold Zv8;by_cases h:m.queue=[]
 .constructor
  .intro h1
   simp only[h,if_true,ZZg,ZZl,Vb2] at h1;exact⟨by simp[h],h1.2.1,by simp[h],λ_=>⟨h1.2.2.2.1,h1.2.2.2.2.1,h1.2.2.2.2.2.1,h1.2.2.2.2.2.2.1,h1.2.2.2.2.2.2.2⟩,λh2=>absurd h h2⟩
  .intro h1
   obtain⟨h2,h3,h4,h5,h6⟩:=h1.none h;simp[h,h2,h3,h4,h5,h6]
 .constructor
  .intro h1
   rw[ZZi h] at h1;simp only[ZZg,ZZl,ZZk] at h1;exact⟨h1.1,h1.2.1,h1.2.2.1,λh2=>absurd h2 h,λ_=>by omega⟩
  .intro h1
   have h2:=h1.some h;rw[ZZi h];simp only[ZZg,ZZl,ZZk];exact⟨h1.len,h1.tries,h1.reqs,by omega,by omega⟩
theorem Yv.sm {m:Zb} (h:Yv m):m.sm:=⟨by have:=h.len;omega,λr hr=>Yzq (h.reqs r hr)⟩
theorem Zyf (m:Zb):Zbw m=some (Zz m):=by
 unfold Zbw Zz;by_cases h:m.queue=[]
 .simp[h]
 .have h1:0 < m.queue.length:=Vao.2 h
  rw[ZZi (by simpa using h),ZZi h,Xp (by omega) (by omega),ZZa,Zte];rfl
theorem Zyk (m:Zb):Zc3 m=some (Zz m):=by
 unfold Zc3 Zz;by_cases h:m.queue=[]
 .simp[h]
 .have h1:0 < m.queue.length:=Vao.2 h
  rw[ZZi (by simpa using h),ZZi h,Xp (by omega) (by omega),ZZa,Zhx];rfl
theorem Zbt (m:Zb) (hs:m.sm):Kp m=some (Zv8 m):=by
 have hf:X2 m.queue=some (!m.queue.all Zb1):=by
  unfold X2 Qm;refine Z1o m.queue (by have:=hs.1;omega) Zf9 Zb1 (λr hr=>?_) _ (λm i=>rfl);unfold Zf9;rw[Z6n r (hs.2 r hr)];rfl
 have hb:=Zti m;have hJ:Wt m false=some (if m.queue=[] then decide (m.beat=0)&&(decide (m.done=0)&&(decide (m.tries=0)&&(!m.parted&&!m.broken))) else decide (0<=m.done/\m.done<=Zz m - 1)&&decide (m.done<=m.beat/\m.beat<=min (m.done+2) (Zz m))):=by
  unfold Wt;rw[Zyf,ZZa,ZZa,Xs,ZZa,Xs,ZZa,Y9 (by omega) (by omega)];by_cases h:m.queue=[]
  .rw[ZZi (by simp),ZZj (by simpa using h),ZZj h]
   by_cases h1:m.beat=0<;>by_cases h2:m.done=0<;>by_cases h3:m.tries=0<;>by_cases h4:m.parted=true<;>simp[h1,h2,h3,h4]
  .rw[ZZi (by simp),ZZi (by simpa using h),ZZi h]
   by_cases h1:0<=m.done/\m.done<=Zz m - 1
   .rw[Ys (by omega) (by omega),Zcl]
    simp[h1]
   .simp[h1]
 unfold Kp Zv8;rw[hf,ZZa];by_cases h1:(m.queue.length:Int) > 4
 .have h2:¬m.queue.length<=4:=by omega
  simp[h1,h2,Wt]
 .have h2:m.queue.length<=4:=by omega
  by_cases h3:m.tries < 0
  .have h4:¬0<=m.tries:=by omega
   simp[h1,h2,h3,h4,Wt]
  .have h4:0<=m.tries:=by omega
   rw[ZZi (by simpa using h1),ZZi (by simpa using h3)];by_cases h5:m.queue.all Zb1=true
   .rw[h5,Va7,hJ]
    simp only[h2,h4,decide_true,Vbz]
   .have h6:m.queue.all Zb1=false:=by simpa using h5
    rw[h6,Vbi];simp[Wt]
theorem Zfn (m:Zb) (hs:m.sm):Zbo m=some (Zv8 m):=by
 have hb:=Zti m;have hJ:Zal m false=some (if m.queue=[] then decide (m.beat=0)&&(decide (m.done=0)&&(decide (m.tries=0)&&(!m.parted&&!m.broken))) else decide (0<=m.done/\m.done<=Zz m - 1)&&decide (m.done<=m.beat/\m.beat<=min (m.done+2) (Zz m))):=by
  unfold Zal;rw[Zyk,ZZa,ZZa,Xb,ZZa,Xb,ZZa,Y9 (by omega) (by omega)];by_cases h:m.queue=[]
  .rw[ZZi (by simp),ZZj (by simpa using h),ZZj h]
   by_cases h1:m.beat=0<;>by_cases h2:m.done=0<;>by_cases h3:m.tries=0<;>by_cases h4:m.parted=true<;>simp[h1,h2,h3,h4]
  .rw[ZZi (by simp),ZZi (by simpa using h),ZZi h]
   by_cases h1:0<=m.done/\m.done<=Zz m - 1
   .rw[Ys (by omega) (by omega),Zcl]
    simp[h1]
   .simp[h1]
 unfold Zbo;have hl:=hs.1;have key:∀(n k:Nat),k<=m.queue.length->m.queue.length - k < n->Zi4 m n k=some (decide (m.queue.length<=4)&&(decide (0<=m.tries)&&((m.queue.drop k).all Zb1&&
 (if m.queue=[] then decide (m.beat=0)&&(decide (m.done=0)&&(decide (m.tries=0)&&(!m.parted&&!m.broken))) else decide (0<=m.done/\m.done<=Zz m - 1)&&decide (m.done<=m.beat/\m.beat<=min (m.done+2) (Zz m)))))):=by
  intro n
  induction n with
  | zero=>intro k _ h;omega
  | succ n ih=>
   intro k hk hm;show Zo4 m _ k=_;unfold Zo4;by_cases hc:k < m.queue.length
   .rw[ZZj (by simpa using hc),Xc hc,ZZa,Z6s _ (hs.2 _ (Vaq hc)),ZZa,Va5 hc,Va6]
    by_cases hq:Zb1 m.queue[k]=true
    .rw[ZZi (by simp[hq]),Wi (by omega),ih (k+1) (by omega) (by omega)]
     simp[hq]
    .rw[ZZj (by simp[hq])]
     simp[hq]
   .rw[ZZi (by simpa using hc),Vbb (by omega)]
    by_cases h1:(m.queue.length:Int) > 4
    .have h2:¬m.queue.length<=4:=by omega
     simp[h1,h2,Zal]
    .have h2:m.queue.length<=4:=by omega
     by_cases h3:m.tries < 0
     .have h4:¬0<=m.tries:=by omega
      simp[h1,h2,h3,h4,Zal]
     .have h4:0<=m.tries:=by omega
      rw[ZZi (by simpa using h1),decide_eq_false h3,hJ];simp only[h2,h4,decide_true,Vbz,Vdl]
 have:=key FU 0 (Vbk _) (by have:=Kb;omega);simpa [Zv8] using this
theorem Zo7 (m:Zb) (hs:m.sm):Zf3 m=some m:=by
 unfold Zf3;refine (Ykn 64 (by decide) m.queue hs.1 Ziv (λr hr=>Z88 r (hs.2 r hr)) (λv=>some {m with queue:=v}) (Zoc m) (λn v i=>rfl)).trans ?_;rfl
theorem Zmu (m:Zb) (hs:m.sm):Zd6 m=some m:=by
 unfold Zd6;refine (Ykn 64 (by decide) m.queue hs.1 Zi2 (λr hr=>Z8y r (hs.2 r hr)) (λv=>some {m with queue:=v}) (Zlq m) (λn v i=>rfl)).trans ?_;rfl
def Jz (m:Zb) (r:Zi):Zb:=if Zb1 r=true/\m.queue.length≠4 then {m with queue:=m.queue++[r]} else m
def Zpd (m:Zb):Bool:=decide (m.beat < Zz m)
def X6 (m:Zb) (b:Int):Int:=if 0<=b/\b<=Zz m - 1 then atI (Zac (atI m.queue 0).addr (atI m.queue 0).size (atI m.queue 0).burst) b else -1
def X4 (m:Zb):Zb:=if m.beat < Zz m/\m.beat≠m.done+2 then {m with beat:=m.beat+1} else m
def Zbl (m:Zb):Zb:=if m.beat=m.done then m else {m with beat:=m.beat - 1}
def Jd (m:Zb):Zb:=if m.beat=m.done then m else if m.done+1=Zz m then Zb.mk m.queue.tail 0 0 0 false false else Zb.mk m.queue m.beat (m.done+1) 0 false m.broken
theorem K9 {m:Zb} (h:Yv m):0<=m.done/\m.done<=8/\0<=m.beat/\m.beat<=8:=by
 have hb:=Zti m;by_cases hq:m.queue=[]
 .have:=h.none hq;omega
 .have:=h.some hq;omega
theorem Zu1 {m:Zb} (h:Yv m) (hq:m.queue≠[]):Zb1 (atI m.queue 0)=true/\Zz m=X0 (atI m.queue 0).burst/\1<=Zz m:=by
 have h1:0 < m.queue.length:=Vao.2 hq;have h2:Zb1 (atI m.queue 0)=true:=h.reqs _ (Zj0 (by omega) (by omega));have h3:Zz m=X0 (atI m.queue 0).burst:=by unfold Zz;rw[ZZi hq]
 exact⟨h2,h3,by rw[h3];exact (Zrc (Zik h2).1).2⟩
theorem Yo1 {m:Zb} {b:Int} (h:Yv m) (h0:0<=b) (h1:b < Zz m):X6 m b∈Zac (atI m.queue 0).addr (atI m.queue 0).size (atI m.queue 0).burst/\Wb (X6 m b) (atI m.queue 0).size=true/\0<=X6 m b/\X6 m b < 512:=by
 have hq:m.queue≠[]:=by
  intro hq;unfold Zz at h1;rw[ZZj hq] at h1;omega
 obtain⟨h2,h3,h4⟩:=Zu1 h hq;have h5:=(Zrc (Zik h2).1).1;have h6:X6 m b=atI (Zac (atI m.queue 0).addr (atI m.queue 0).size (atI m.queue 0).burst) b:=by
  unfold X6;rw[ZZj (by omega)]
 have h7:=Zj0 (xs:=Zac (atI m.queue 0).addr (atI m.queue 0).size (atI m.queue 0).burst) h0 (by omega);rw[h6];have h8:=Z6c h7;exact⟨h7,h8.1,h8.2.1,h8.2.2⟩
theorem Zeq {m:Zb} (b:Int) (h:Yv m):Zd5 m b=some (X6 m b):=by
 have hb:=Zti m;unfold Zd5 Zly;rw[Zbt m h.sm,ZZa,Ja.2 h,Zyf,ZZa,Xs,ZZa,Y9 (by omega) (by omega)];by_cases h1:0<=b/\b<=Zz m - 1
 .have hq:m.queue≠[]:=by
   intro hq;unfold Zz at h1;rw[ZZj hq] at h1;omega
  obtain⟨h2,h3,h4⟩:=Zu1 h hq;have h5:=(Zrc (Zik h2).1).1;have h6:0 < m.queue.length:=Vao.2 hq;rw[Xp (by omega) (by omega),ZZa,Z1b,ZZa,Xp h1.1 (by omega)];simp[h1,X6]
 .simp[h1,X6]
theorem Zhv {m:Zb} (b:Int) (h:Yv m):Zg1 m b=some (X6 m b):=by
 have hb:=Zti m;unfold Zg1 Zlx;rw[Zfn m h.sm,ZZa,Ja.2 h,Zyk,ZZa,Xb,ZZa,Y9 (by omega) (by omega)];by_cases h1:0<=b/\b<=Zz m - 1
 .have hq:m.queue≠[]:=by
   intro hq;unfold Zz at h1;rw[ZZj hq] at h1;omega
  obtain⟨h2,h3,h4⟩:=Zu1 h hq;have h5:=(Zrc (Zik h2).1).1;have h6:0 < m.queue.length:=Vao.2 hq;rw[Xp (by omega) (by omega),ZZa,Z07,ZZa,Xp h1.1 (by omega)];simp[h1,X6]
 .simp[h1,X6]
theorem Z65 {m:Zb} (h:Yv m):Zl8 m=some (Zpd m):=by
 unfold Zl8 Zpd;rw[Zbt m h.sm,ZZa,Ja.2 h,Zyf];rfl
theorem Z67 {m:Zb} (h:Yv m):Zm1 m=some (Zpd m):=by
 unfold Zm1 Zpd;rw[Zfn m h.sm,ZZa,Ja.2 h,Zyk];rfl
theorem Yp9 {m:Zb} {r:Zi} (h:Yv m) (hr:r.sm):∃b,Zu3 m r=some (Jz m r,b):=by
 have hl:=h.len;unfold Zu3 Zfs Jz;rw[Zo7 m h.sm,ZZa,Zbt m h.sm,ZZa,Ja.2 h,Z6n r hr,ZZa,Z88 r hr,ZZa,Wg (by simp;omega) (by simp;omega),ZZa];by_cases h1:Zb1 r=true
 .by_cases h2:m.queue.length=4
  .simp[h1,h2]
  .have h3:¬((m.queue.length:Int)=4):=by omega
   simp[h1,h2,h3]
 .simp[h1]
theorem Yqu {m:Zb} {r:Zi} (h:Yv m) (hr:r.sm):∃b,Zuw m r=some (Jz m r,b):=by
 have hl:=h.len;unfold Zuw Zgf Jz;rw[Zmu m h.sm,ZZa,Zfn m h.sm,ZZa,Ja.2 h,Z6s r hr,ZZa,Z8y r hr,ZZa,Wg (by simp;omega) (by simp;omega),ZZa];by_cases h1:Zb1 r=true
 .by_cases h2:m.queue.length=4
  .simp[h1,h2]
  .have h3:¬((m.queue.length:Int)=4):=by omega
   simp[h1,h2,h3]
 .simp[h1]
theorem Yl7 {m:Zb} (h:Yv m):∃b,Ztn m=some (X4 m,b):=by
 have hb:=K9 h;unfold Ztn Zi5 X4;rw[Zo7 m h.sm,ZZa,Z65 h,ZZa,Ys (a:=m.done) (by omega) (by omega),Ys (by omega) (by omega)];unfold Zpd;by_cases h1:m.beat < Zz m
 .by_cases h2:m.beat=m.done+2<;>simp[h1,h2]
 .simp[h1]
theorem Yl1 {m:Zb} (h:Yv m):∃b,Ztm m=some (X4 m,b):=by
 have hb:=K9 h;unfold Ztm Zis X4;rw[Zmu m h.sm,ZZa,Z67 h,ZZa,Ys (a:=m.done) (by omega) (by omega),Ys (by omega) (by omega)];unfold Zpd;by_cases h1:m.beat < Zz m
 .by_cases h2:m.beat=m.done+2<;>simp[h1,h2]
 .simp[h1]
theorem Yql {m:Zb} (h:Yv m):∃b,Zve m=some (Zbl m,b):=by
 have hb:=K9 h;unfold Zve Zl1 Zbl;rw[Zo7 m h.sm,ZZa,Zbt m h.sm,ZZa,Ja.2 h,Y9 (by omega) (by omega)];by_cases h1:m.beat=m.done<;>simp[h1]
theorem Ypk {m:Zb} (h:Yv m):∃b,Zvi m=some (Zbl m,b):=by
 have hb:=K9 h;unfold Zvi Zko Zbl;rw[Zmu m h.sm,ZZa,Zfn m h.sm,ZZa,Ja.2 h,Y9 (by omega) (by omega)];by_cases h1:m.beat=m.done<;>simp[h1]
theorem Zx2 {α:Type} (xs:List α) (h:xs≠[]) (hl:xs.length < 1048577):J6 xs 1 (xs.length:Int)=some xs.tail:=by
 have h1:0 < xs.length:=Vao.2 h;unfold J6;rw[ZZj ⟨by omega,by omega,by omega⟩]
 congr 1
 rw[Vbh (by simp),<-List.drop_one];rfl
theorem Zg2 {m:Zb} (h:Yv m) (hb:m.beat≠m.done):m.queue≠[]:=by
 intro hq;have:=h.none hq;omega
theorem Yui {m:Zb} (h:Yv m):∃b,Zx3 m=some (Jd m,b):=by
 have hb:=K9 h;have hl:=h.len;unfold Zx3 Znv Jd;rw[Zo7 m h.sm,ZZa,Zbt m h.sm,ZZa,Ja.2 h,Ys (by omega) (by omega),Zyf,ZZa];have e:Zz {m with done:=m.done+1}=Zz m:=rfl;rw[e];by_cases h1:m.beat=m.done
 .simp[h1]
 .rw[Zx2 _ (Zg2 h h1) (by omega),ZZa]
  by_cases h2:m.done+1=Zz m<;>simp[h1,h2]
theorem Ytd {m:Zb} (h:Yv m):∃b,Zyd m=some (Jd m,b):=by
 have hb:=K9 h;have hl:=h.len;unfold Zyd Zoh Jd;rw[Zmu m h.sm,ZZa,Zfn m h.sm,ZZa,Ja.2 h,Ys (by omega) (by omega),Zyk,ZZa];by_cases h1:m.beat=m.done
 .simp[h1]
 .rw[Zx2 _ (Zg2 h h1) (by omega),ZZa]
  by_cases h2:m.done+1=Zz m<;>simp[h1,h2]
theorem Ybl {m:Zb} {r:Zi} (h:m.queue≠[]):atI (m.queue++[r]) 0=atI m.queue 0:=by
 cases hq:m.queue with
 | nil=>exact absurd hq h
 | cons a l=>rfl
theorem Yw6 {m:Zb} {r:Zi} (h:Yv m):Yv (Jz m r):=by
 unfold Jz;split
 .rename_i h1
  have hl:=h.len;have Yh:m.queue++[r]≠[]:=by simp
  refine⟨by simp;omega,h.tries,λx hx=>?_,λhx=>absurd hx Yh,λ_=>?_⟩
  .rcases Vat.1 hx with hx|hx
   .exact h.reqs x hx
   .rw[List.mem_singleton.1 hx];exact h1.1
  .by_cases hq:m.queue=[]
   .obtain⟨h2,h3,h4,h5,h6⟩:=h.none hq
    have hm:Zz {m with queue:=m.queue++[r]}=X0 r.burst:=by
     unfold Zz;rw[ZZi Yh];simp[hq,atI]
    have:=(Zrc (Zik h1.1).1).2;rw[hm];simp only[h2,h3];omega
   .have h2:=h.some hq
    have hm:Zz {m with queue:=m.queue++[r]}=Zz m:=by
     unfold Zz;rw[ZZi Yh,ZZi hq];simp only[Ybl hq]
    rw[hm];exact h2
 .exact h
theorem Yue {m:Zb} (h:Yv m):Yv (X4 m):=by
 unfold X4;split
 .rename_i h1
  have hq:m.queue≠[]:=by
   intro hq;unfold Zz at h1;rw[ZZj hq] at h1;have:=K9 h;omega
  have h2:=h.some hq;refine⟨h.len,h.tries,h.reqs,λhx=>absurd hx hq,λ_=>?_⟩;have hm:Zz {m with beat:=m.beat+1}=Zz m:=rfl;rw[hm];simp only;omega
 .exact h
theorem Ygh {m:Zb} (h:Yv m):Yv (Zbl m):=by
 unfold Zbl;split
 .exact h
 .rename_i h1
  have hq:=Zg2 h h1;have h2:=h.some hq;refine⟨h.len,h.tries,h.reqs,λhx=>absurd hx hq,λ_=>?_⟩;have hm:Zz {m with beat:=m.beat - 1}=Zz m:=rfl;rw[hm];simp only;omega
theorem Y0s {m:Zb} (h:Yv m):Yv (Jd m):=by
 unfold Jd;split
 .exact h
 .rename_i h1
  have hq:=Zg2 h h1;have h2:=h.some hq;split
  .have hr:∀r∈m.queue.tail,Zb1 r=true:=λr hr=>h.reqs r (List.mem_of_mem_tail hr)
   refine⟨by have:=h.len;simp;omega,by simp,hr,λ_=>by simp,λhx=>?_⟩;have h3:Yv (Zb.mk m.queue.tail 0 0 0 false false)->True:=λ_=>trivial;have h4:0 < m.queue.tail.length:=Vao.2 hx;have h5:Zb1 (atI m.queue.tail 0)=true:=hr _ (Zj0 (by omega) (by omega));have h6:=(Zrc (Zik h5).1).2;have hm:Zz (Zb.mk m.queue.tail 0 0 0 false false)=X0 (atI m.queue.tail 0).burst:=by
    unfold Zz;rw[ZZi hx]
   rw[hm];simp only;omega
  .rename_i h3
   refine⟨h.len,by simp,h.reqs,λhx=>absurd hx hq,λ_=>?_⟩;have hm:Zz (Zb.mk m.queue m.beat (m.done+1) 0 false m.broken)=Zz m:=rfl;rw[hm];simp only;omega
theorem Y5h {a b:Int} {k:Nat} (h0:0<=a) (h1:a < 2^k) (hb:0<=b) (hk:b*2^k+a < 9223372036854775808):orW a (b*2^k)=a+b*2^k:=by
 obtain⟨a,rfl⟩:=Vda h0;obtain⟨b,rfl⟩:=Vda hb;have e1:(b:Int)*2^k=((b*2^k:Nat):Int):=by simp
 rw[e1] at hk ⊢;have h1':a < 2^k:=by
  have:((a:Nat):Int) < ((2^k:Nat):Int):=by simpa using h1
  exact Int.ofNat_lt.1 this
 have h2:a+b*2^k < 18446744073709551616:=by omega
 unfold orW;show IntKind.i64.wrap (((BitVec.ofInt 64 ((a:Nat):Int) ||| BitVec.ofInt 64 ((b*2^k:Nat):Int)).toNat:Nat):Int)=_;rw[Vcy,Vcy,BitVec.toNat_or,Vc6,Vc6,Vdh (by omega),Vdh (by omega)];have h3:a ||| b*2^k=a+b*2^k:=by
  rw[Nat.or_comm,<-Nat.shiftLeft_eq,<-Nat.shiftLeft_add_eq_or_of_lt h1',Vdi]
 rw[h3,Z0f (by omega) (by omega)];simp
theorem Y2p {a:Int} (h0:0<=a) (h1:a < 9223372036854775808):andW a 255=a % 256:=by
 obtain⟨a,rfl⟩:=Vda h0;unfold andW;show IntKind.i64.wrap (((BitVec.ofInt 64 ((a:Nat):Int) &&& BitVec.ofInt 64 ((255:Nat):Int)).toNat:Nat):Int)=_;rw[Vcy,Vcy,BitVec.toNat_and,Vc6,Vc6,Vdh (by omega),Vdh (by omega)];have h3:a &&& 255=a % 256:=Nat.and_two_pow_sub_one_eq_mod a 8;rw[h3,Z0f (by omega) (by omega)];omega
theorem Y4u {a:Int} {k:Nat} (hk:k<=64) (h0:0<=a) (h1:a*2^k < 9223372036854775808):Yez a (k:Int)=a*2^k:=by
 unfold Yez;have:min ((k:Int).toNat) IntKind.i64.bits=k:=by
  show min ((k:Int).toNat) 64=k;omega
 rw[this];have:0<=a*2^k:=Veh h0 (Int.pow_nonneg (by omega));exact Z0f (by omega) h1
theorem Y4v {a:Int} {k:Nat} (hk:k<=64) (h0:0<=a):shrW a (k:Int)=a / 2^k:=by
 unfold shrW;have:min ((k:Int).toNat) IntKind.i64.bits=k:=by
  show min ((k:Int).toNat) 64=k;omega
 rw[this,Int.fdiv_eq_ediv_of_nonneg _ (Int.pow_nonneg (by omega))]
def Zb2 (n:Int):Bool:=decide (0<=n/\n<=255)
def Z3k (mem:List Int):Bool:=decide (mem.length<=512)&&mem.all Zb2
def Zk7 (mem:List Int) (a s:Int):Bool:=Z3k mem&&(Wb a s&&decide (a<=(mem.length:Int) - Yz s))
theorem Z9i (mem:List Int) (a s:Int) (hl:mem.length < 1048577):Zum mem a s=some (Zk7 mem a s):=by
 have hb:=Zil s;have hf:Wy mem=some (!mem.all Zb2):=by
  unfold Wy Jf;refine Z1o mem (by omega) Zyb Zb2 (λr hr=>?_) _ (λm i=>rfl);unfold Zyb;rw[Xs];rfl
 unfold Zum Zk7 Z3k;rw[hf,ZZa,Zs2,ZZa,Zhr,ZZa,Y9 (by omega) (by omega)];by_cases h1:mem.length<=512
 .have h2:(mem.length:Int)<=512:=by omega
  by_cases h3:mem.all Zb2=true
  .by_cases h4:Wb a s=true<;>simp only[h1,h2,h3,h4,decide_true,if_true,Va7,Vbi,Vbz,Vce,Vbr,ZZf,if_false]
  .simp[h1,h2,h3]
 .have h2:¬(mem.length:Int)<=512:=by omega
  simp[h1,h2]
theorem Z76 (mem:List Int) (hl:mem.length < 1048577):Zph mem=some (Z3k mem):=by
 unfold Zph Z3k;have key:∀(n k:Nat),k<=mem.length->mem.length - k < n->Zk6 mem n k=some (decide (mem.length<=512)&&(mem.drop k).all Zb2):=by
  intro n
  induction n with
  | zero=>intro k _ h;omega
  | succ n ih=>
   intro k hk hm;show Zqy mem _ k=_;unfold Zqy;by_cases hc:k < mem.length
   .rw[ZZj (by simpa using hc),Xc hc,ZZa,Xb,ZZa,Va5 hc,Va6]
    by_cases hq:0<=mem[k]/\mem[k]<=255
    .rw[ZZi (by simp[hq]),Wi (by omega),ih (k+1) (by omega) (by omega)]
     simp[hq,Zb2]
    .rw[ZZj (by simp[hq])]
     simp[hq,Zb2]
   .rw[ZZi (by simpa using hc),Vbb (by omega)]
    by_cases h1:mem.length<=512
    .have h2:(mem.length:Int)<=512:=by omega
     simp[h1,h2]
    .have h2:¬(mem.length:Int)<=512:=by omega
     simp[h1,h2]
 have:=key FU 0 (Vbk _) (by have:=Kb;omega);simpa using this
theorem Yby (mem:List Int) (a s:Int) (hl:mem.length < 1048577):Zta mem a s=some (Zk7 mem a s):=by
 have hb:=Zil s;unfold Zta Zk7;rw[Z76 mem hl,ZZa,Zsp,ZZa,Za7,ZZa,Y9 (by omega) (by omega)];by_cases h3:Z3k mem=true
 .by_cases h4:Wb a s=true<;>simp only[h3,h4,if_true,Vbz,Vbr,ZZf,if_false]
 .simp[h3]
def Zhu (mem:List Int):Nat->Int->Int
 | 0,_=>0
 | n+1,a=>atI mem a+256*Zhu mem n (a+1)
def Z5t:Nat->List Int->Int->Int->List Int
 | 0,l,_,_=>l
 | n+1,l,a,v=>Z5t n (l.set a.toNat (v % 256)) (a+1) (v / 256)
theorem Y2z:∀(n:Nat) (l:List Int) (a v:Int),(Z5t n l a v).length=l.length:=by
 intro n
 induction n with
 | zero=>intro l a v;rfl
 | succ n ih=>intro l a v;simp only[Z5t,ih,Vbg]
theorem Yw2:∀(n:Nat) (l:List Int) (a v:Int),l.all Zb2=true->(Z5t n l a v).all Zb2=true:=by
 intro n
 induction n with
 | zero=>intro l a v h;exact h
 | succ n ih=>
  intro l a v h;refine ih _ _ _ ?_;rw[ZZk] at h ⊢;intro x hx;rcases Vcb hx with hx|rfl
  .exact h x hx
  .have h1:0<=v % 256:=Vc3 _ (by omega)
   have h2:v % 256 < 256:=Vco _ (by omega);simp[Zb2];omega
theorem Yk5 (mem:List Int):∀(n:Nat) (a:Int),Zhu mem (n+1) a=Zhu mem n a+256^n*atI mem (a+n):=by
 intro n
 induction n with
 | zero=>intro a;simp[Zhu]
 | succ n ih=>
  intro a;rw[Zhu,ih (a+1),Zhu];rw[Int.mul_add,<-Int.mul_assoc,show (256:Int)*256^n=256^(n+1) by rw[Int.pow_succ,Vc5],show a+1+(n:Int)=a+((n+1:Nat):Int) by omega];omega
theorem Yva {mem:List Int} (h:mem.all Zb2=true):∀(n:Nat) (a:Int),0<=a->a+n<=(mem.length:Int)->0<=Zhu mem n a/\Zhu mem n a < 256^n:=by
 intro n
 induction n with
 | zero=>intro a _ _;simp[Zhu]
 | succ n ih=>
  intro a h0 h1;have h2:=ih (a+1) (by omega) (by omega);have h3:=ZZk.1 h _ (Zj0 h0 (by omega:a < (mem.length:Int)));simp only[Zb2,ZZl] at h3;simp only[Zhu];have e:(256:Int)^(n+1)=256*256^n:=by rw[Int.pow_succ,Vc5]
  rw[e];omega
def Z9m (mem:List Int) (a s:Int):Int:=Zhu mem (Yz s).toNat a
def Z73 (mem:List Int) (a s v:Int):List Int:=Z5t (Yz s).toNat mem a v
theorem Zri {mem:List Int} {a s:Int} (h:Zk7 mem a s=true):mem.length<=512/\mem.all Zb2=true/\0 < Yz s/\0<=a/\a+Yz s<=(mem.length:Int):=by
 simp only[Zk7,Z3k,ZZg,ZZl] at h;have:=Zbx h.2.1;exact⟨h.1.1,h.1.2,this.1,this.2.1,by omega⟩
theorem Yno (k:Nat) (h:k<=4):(256:Int)^k=2^(8*k)/\(256:Int)^k<=4294967296:=by
 have:k=0\/k=1\/k=2\/k=3\/k=4:=by omega
 rcases this with rfl|rfl|rfl|rfl|rfl<;>decide
theorem Yub {mem:List Int} {a s:Int} (h:Zk7 mem a s=true):Zxq mem a s=some (Z9m mem a s,true):=by
 obtain⟨h1,h2,h3,h4,h5⟩:=Zri h;have hb:=Zil s;unfold Zxq Z9m;rw[Z9i mem a s (by omega),ZZa,h,ZZi (by simp),Zhr,ZZa];have key:∀(r n k:Nat),r < n->(k:Int)+r=Yz s->Zol mem a s n (Zhu mem k a) (Yz s) k=some (Zhu mem (k+r) a,true):=by
  intro r
  induction r with
  | zero=>
   intro n k hn hk;obtain⟨n,rfl⟩:∃m',n=m'+1:=⟨n - 1,by omega⟩;show Zgd mem a s _ (Zhu mem k a) (Yz s) k=_;unfold Zgd;rw[ZZi (by simp;omega)];rfl
  | succ r ih=>
   intro n k hn hk;obtain⟨n,rfl⟩:∃m',n=m'+1:=⟨n - 1,by omega⟩;show Zgd mem a s _ (Zhu mem k a) (Yz s) k=_;unfold Zgd;have h6:0<=a+(k:Int):=by omega
   have h7:a+(k:Int) < (mem.length:Int):=by omega
   have h8:=ZZk.1 h2 _ (Zj0 h6 h7);simp only[Zb2,ZZl] at h8;have h9:=Yva h2 k a h4 (by omega);have hp:=Yno k (by omega);have hp1:(0:Int) < 2^(8*k):=Int.pow_pos (by omega);have h10:atI mem (a+k)*2^(8*k)<=255*4294967296:=by
    rw[<-hp.1];exact Int.mul_le_mul h8.2 hp.2 (by rw[hp.1];omega) (by omega)
   rw[ZZj (by simp;omega),Ys (by omega) (by omega),Xp h6 h7,ZZa,Zfp (by omega) (by omega),Y1x (by omega),ZZa,show (8:Int)*(k:Int)=((8*k:Nat):Int) by omega,Y4u (by omega) h8.1 (by omega),Y5h h9.1 (by rw[<-hp.1];exact h9.2) h8.1 (by have:=h9.2;rw[hp.1] at this;have:=hp.2;rw[hp.1] at this;omega),Wi (by omega)];have e:Zhu mem k a+atI mem (a+k)*2^(8*k)=Zhu mem (k+1) a:=by
    rw[Yk5,hp.1,Vc5]
   rw[e,ih n (k+1) (by omega) (by omega),show k+1+r=k+(r+1) by omega]
 have:=key (Yz s).toNat FU 0 (by have:=Kb;omega) (by omega);simpa [Zhu] using this
theorem Ytl {mem:List Int} {a s:Int} (h:Zk7 mem a s=true):Zxm mem a s=some (Z9m mem a s,true):=by
 obtain⟨h1,h2,h3,h4,h5⟩:=Zri h;have hb:=Zil s;unfold Zxm Z9m;rw[Yby mem a s (by omega),ZZa,h,ZZi (by simp),Za7,ZZa,Y9 (by omega) (by omega)];have key:∀(r n j:Nat) (v:Int),r < n->(r:Int)<=Yz s->j+r<=4->0<=v->v < 256^j->Znr mem a s n v ((r:Int) - 1)=some (v*256^r+Zhu mem r a,true):=by
  intro r
  induction r with
  | zero=>
   intro n j v hn hk _ _ _;obtain⟨n,rfl⟩:∃m',n=m'+1:=⟨n - 1,by omega⟩;show Zf2 mem a s _ v _=_;unfold Zf2;rw[ZZi (by simp)];simp[Zhu]
  | succ r ih=>
   intro n j v hn hk hj hv hv2;obtain⟨n,rfl⟩:∃m',n=m'+1:=⟨n - 1,by omega⟩;show Zf2 mem a s _ v _=_;unfold Zf2;have h6:0<=a+(r:Int):=by omega
   have h7:a+(r:Int) < (mem.length:Int):=by omega
   have h8:=ZZk.1 h2 _ (Zj0 h6 h7);simp only[Zb2,ZZl] at h8;have hp:=(Yno j (by omega)).2;have e1:(256:Int)^(r+1)=256^r*256:=Int.pow_succ ..;have e3:(256:Int)^(j+1)=256^j*256:=Int.pow_succ ..;have e2:(((r+1:Nat):Int) - 1)=(r:Int):=by omega
   rw[e2,ZZj (by simp),Ys (by omega) (by omega),Xp h6 h7,ZZa,Zfp (by omega) (by omega),Ys (by omega) (by omega),Y9 (by omega) (by omega),ih n (j+1) _ (by omega) (by omega) (by omega) (by omega) (by rw[e3];omega)];rw[Yk5,Int.add_mul,e1,Vc5 (256^r) 256,<-Int.mul_assoc,Vc5 (256^r) (atI mem (a+r))]
   congr 2
   omega
 have:=key (Yz s).toNat FU 0 0 (by have:=Kb;omega) (by omega) (by omega) (by omega) (by simp);rw[show ((Yz s).toNat:Int)=Yz s by omega] at this;simpa using this
theorem Zuo (xs:List Int) (h:xs.length < 1048577):Xd xs=some xs:=by
 unfold Xd;rw[Wg (by simp;omega) (by simp;omega)];rfl
theorem Z34 (xs:List Int) (h:xs.length < 1048577):X1 8 [] xs=some xs:=by
 rw[Wg (by simp;omega) (by simp;omega)];rfl
theorem Yt0 {mem:List Int} {a s v:Int} (h:Zk7 mem a s=true) (hv:Xt v s=true):Zyi mem a s v=some (Z73 mem a s v,true):=by
 obtain⟨h1,h2,h3,h4,h5⟩:=Zri h;have hb:=Zil s;have hl:=Z1x s;simp only[Xt,ZZl] at hv;unfold Zyi Zor Z73;rw[Zuo mem (by omega),ZZa,Z9i mem a s (by omega),ZZa,h,ZZi (by simp),Zjq,ZZa,Zhr,ZZa];have hn:Xt v s=true:=by simp[Xt,hv]
 rw[hn,ZZi (by simp)];have key:∀(r n k:Nat) (l:List Int),r < n->(k:Int)+r=Yz s->l.length=mem.length->Zn1 mem a s v n l (Yz s) k=some (Z5t r l (a+k) (v / 256^k),true):=by
  intro r
  induction r with
  | zero=>
   intro n k l hn hk _;obtain⟨n,rfl⟩:∃m',n=m'+1:=⟨n - 1,by omega⟩;show Zfy mem a s v _ l (Yz s) k=_;unfold Zfy;rw[ZZi (by simp;omega)];rfl
  | succ r ih=>
   intro n k l hn hk hl2;obtain⟨n,rfl⟩:∃m',n=m'+1:=⟨n - 1,by omega⟩;show Zfy mem a s v _ l (Yz s) k=_;unfold Zfy;have h6:0<=a+(k:Int):=by omega
   have h7:a+(k:Int) < (l.length:Int):=by omega
   have hp:=Yno k (by omega);have hp1:(0:Int) < 256^k:=Int.pow_pos (by omega);have h8:0<=v / 256^k:=Int.ediv_nonneg hv.1 (by omega);have h9:v / 256^k<=v:=Int.ediv_le_self _ hv.1;rw[ZZj (by simp;omega),Zfp (by omega) (by omega),Y1x (by omega),ZZa,Ys (a:=a) (by omega) (by omega),Xp h6 h7,ZZa,Wx,ZZa,show (8:Int)*(k:Int)=((8*k:Nat):Int) by omega,Y4v (by omega) hv.1,<-hp.1,Y2p h8 (by omega),Wi (by omega),ih n (k+1) _ (by omega) (by omega) (by simp[hl2])];simp only[Z5t];rw[Int.ediv_ediv_of_nonneg (by omega),<-Int.pow_succ,show a+((k+1:Nat):Int)=a+k+1 by omega]
 have:=key (Yz s).toNat FU 0 mem (by have:=Kb;omega) (by omega) rfl;simpa using this
theorem Yti {mem:List Int} {a s v:Int} (h:Zk7 mem a s=true) (hv:Xt v s=true):Zx0 mem a s v=some (Z73 mem a s v,true):=by
 obtain⟨h1,h2,h3,h4,h5⟩:=Zri h;have hb:=Zil s;have hl:=Z1x s;unfold Zx0 Znq Z73;rw[Z34 mem (by omega),ZZa,Yby mem a s (by omega),ZZa,h,ZZi (by simp),Zbb,ZZa,Zqr,ZZa,hv,ZZi (by simp)];simp only[Xt,ZZl] at hv;have key:∀(r n k:Nat) (l:List Int) (x:Int),r < n->(k:Int)+r=Yz s->l.length=mem.length->0<=x->x < 9223372036854775808->Zoq mem a s v n x l k=some (Z5t r l (a+k) x,true):=by
  intro r
  induction r with
  | zero=>
   intro n k l x hn hk _ _ _;obtain⟨n,rfl⟩:∃m',n=m'+1:=⟨n - 1,by omega⟩;show Zfq mem a s v _ x l k=_;unfold Zfq;rw[Za7,ZZa,ZZi (by simp;omega)];rfl
  | succ r ih=>
   intro n k l x hn hk hl2 hx hx2;obtain⟨n,rfl⟩:∃m',n=m'+1:=⟨n - 1,by omega⟩;show Zfq mem a s v _ x l k=_;unfold Zfq;have h6:0<=a+(k:Int):=by omega
   have h7:a+(k:Int) < (l.length:Int):=by omega
   rw[Za7,ZZa,ZZj (by simp;omega),Ys (a:=a) (by omega) (by omega),Xp h6 h7,ZZa,Wx,ZZa,Zeh hx,Yaz hx hx2 (by omega),Wi (by omega),ih n (k+1) _ _ (by omega) (by omega) (by simp[hl2]) (by omega) (by omega)];simp only[Z5t];rw[show a+((k+1:Nat):Int)=a+k+1 by omega]
 have:=key (Yz s).toNat FU 0 mem v (by have:=Kb;omega) (by omega) rfl hv.1 (by omega);simpa using this
def Zn.sm (d:Zn):Prop:=d.regs.length < 1048577/\d.fifo.length < 1048577
def Yek (d:Zn):Bool:=decide (d.regs.length=4)&&(d.regs.all (λv=>Xt v 2)&&(Xt d.timer 2&&(decide (d.fifo.length<=4)&&d.fifo.all λv=>Xt v 2)))
theorem Ygt (d:Zn) (hs:d.sm):Zwq d=some (Yek d):=by
 have hf:∀xs:List Int,xs.length < 1048577->Xy xs=some (!xs.all λv=>Xt v 2):=by
  intro xs hl;unfold Xy K6;refine Z1o xs (by omega) Zvq (λv=>Xt v 2) (λr hr=>?_) _ (λm i=>rfl);unfold Zvq;rw[Zjq];rfl
 unfold Zwq Yek;rw[hf _ hs.1,ZZa,hf _ hs.2,ZZa,Zjq,ZZa];by_cases h1:d.regs.length=4
 .have h2:(d.regs.length:Int)=4:=by omega
  by_cases h3:d.fifo.length<=4
  .have h4:(d.fifo.length:Int)<=4:=by omega
   cases h5:(d.regs.all λv=>Xt v 2)<;>cases h6:(d.fifo.all λv=>Xt v 2)<;>cases h7:Xt d.timer 2<;>simp[h1,h2,h3,h4]
  .have h4:¬(d.fifo.length:Int)<=4:=by omega
   simp[h1,h2,h3,h4]
 .have h2:¬(d.regs.length:Int)=4:=by omega
  simp[h1,h2]
theorem Z8o (xs:List Int) (hl:xs.length < 1048577):Zpq xs=some (xs.all λv=>Xt v 2):=by
 unfold Zpq;have key:∀(n k:Nat),k<=xs.length->xs.length - k < n->Zk3 xs n k=some ((xs.drop k).all λv=>Xt v 2):=by
  intro n
  induction n with
  | zero=>intro k _ h;omega
  | succ n ih=>
   intro k hk hm;show Zqs xs _ k=_;unfold Zqs;by_cases hc:k < xs.length
   .rw[ZZj (by simpa using hc),Xc hc,ZZa,Zbb,ZZa,Zqr,ZZa,Va5 hc,Va6]
    by_cases hq:Xt xs[k] 2=true
    .rw[ZZi (by simp[hq]),Wi (by omega),ih (k+1) (by omega) (by omega)]
     simp[hq]
    .rw[ZZj (by simp[hq])]
     simp[hq]
   .rw[ZZi (by simpa using hc),Vbb (by omega)]
    rfl
 have:=key FU 0 (Vbk _) (by have:=Kb;omega);simpa using this
theorem Yfr (d:Zn) (hs:d.sm):Zv4 d=some (Yek d):=by
 unfold Zv4 Yek;rw[Z8o _ hs.1,ZZa,Z8o _ hs.2,ZZa,Zbb,ZZa,Zqr,ZZa];by_cases h1:d.regs.length=4
 .have h2:(d.regs.length:Int)=4:=by omega
  by_cases h3:d.fifo.length<=4
  .have h4:(d.fifo.length:Int)<=4:=by omega
   cases h5:(d.regs.all λv=>Xt v 2)<;>cases h6:(d.fifo.all λv=>Xt v 2)<;>cases h7:Xt d.timer 2<;>simp[h1,h2,h3,h4]
  .have h4:¬(d.fifo.length:Int)<=4:=by omega
   cases h5:(d.regs.all λv=>Xt v 2)<;>cases h7:Xt d.timer 2<;>simp[h1,h2,h3,h4]
 .have h2:¬(d.regs.length:Int)=4:=by omega
  simp[h1,h2]
structure Z87 (d:Zn):Prop where
 regs:d.regs.length=4
 nums:∀v∈d.regs,Xt v 2=true
 timer:Xt d.timer 2=true
 len:d.fifo.length<=4
 fifo:∀v∈d.fifo,Xt v 2=true
theorem Yil {d:Zn}:Yek d=true↔Z87 d:=by
 simp only[Yek,ZZg,ZZl,ZZk];constructor
 .intro h;exact⟨h.1,h.2.1,h.2.2.1,h.2.2.2.1,h.2.2.2.2⟩
 .intro h;exact⟨h.regs,h.nums,h.timer,h.len,h.fifo⟩
theorem Z87.sm {d:Zn} (h:Z87 d):d.sm:=⟨by have:=h.regs;omega,by have:=h.len;omega⟩
theorem Yc8 (d:Zn) (hs:d.sm):Zst d=some d:=by
 unfold Zst;rw[Zuo _ hs.1,ZZa,Zuo _ hs.2];rfl
theorem Ycw (d:Zn) (hs:d.sm):Zro d=some d:=by
 unfold Zro;rw[Z34 _ hs.1,ZZa,Z34 _ hs.2];rfl
def Zba (d:Zn) (w:Bool) (a v:Int):Zn×Int×Bool:=
 if (w&&!Xt v 2)=true then (d,0,false) else
 if a=16 then (if w then ({d with timer:=v},v,true) else ({d with timer:=(d.timer+1) % 4294967296},d.timer,true)) else
 if a=20 then (if w then (if d.fifo.length < 4 then ({d with fifo:=d.fifo++[v]},v,true) else (d,0,false)) else (if d.fifo=[] then (d,0,false) else ({d with fifo:=d.fifo.tail},atI d.fifo 0,true))) else
 if (0<=a/\a < 16)/\a % 4=0 then (if w then ({d with regs:=d.regs.set (a / 4).toNat v},v,true) else (d,atI d.regs (a / 4),true)) else (d,0,false)
theorem num2 {v:Int} (h:Xt v 2=true):0<=v/\v < 4294967296:=by
 simpa [Xt,Zfw] using h
theorem Yyl {d:Zn} (w:Bool) (a v:Int) (h:Z87 d):Z1y d w a v=some (Zba d w a v):=by
 have ht:=num2 h.timer;have hl:=h.len;have hr:=h.regs;unfold Z1y;rw[Yc8 d h.sm,ZZa,Ygt d h.sm,ZZa,Yil.2 h,Zjq,ZZa];have hJ:Zdl d w a v d false=some (if a=16 then (if w then ({d with timer:=v},v,true) else ({d with timer:=(d.timer+1) % 4294967296},d.timer,true)) else
 if a=20 then (if w then (if d.fifo.length < 4 then ({d with fifo:=d.fifo++[v]},v,true) else (d,0,false)) else (if d.fifo=[] then (d,0,false) else ({d with fifo:=d.fifo.tail},atI d.fifo 0,true))) else
 if (0<=a/\a < 16)/\a % 4=0 then (if w then ({d with regs:=d.regs.set (a / 4).toNat v},v,true) else (d,atI d.regs (a / 4),true)) else (d,0,false)):=by
  unfold Zdl Zp3 Zj2 Zj6 Zj1;by_cases h16:a=16
  .subst h16
   rw[Z8p,ZZa,show Zfw 2=4294967296 from rfl,Zwt (by omega),Ys (by omega) (by omega),Zeh (by omega)];cases w<;>simp
  .by_cases h20:a=20
   .subst h20
    cases w with
    | true=>
     by_cases h3:d.fifo.length < 4
     .have h4:(d.fifo.length:Int) < 4:=by omega
      rw[Wg (by simp;omega) (by simp;omega)];simp[h3,h4]
     .have h4:¬(d.fifo.length:Int) < 4:=by omega
      simp[h3,h4]
    | false=>
     by_cases h3:d.fifo=[]
     .simp[h3]
     .have h4:0 < d.fifo.length:=Vao.2 h3
      have h5:(d.fifo.length:Int) > 0:=by omega
      rw[Xp (by omega) (by omega),ZZa,Zx2 _ h3 (by omega),ZZa,Zuo _ (by simp;omega)];simp[h3,h5]
   .by_cases h3:(0<=a/\a < 16)/\a % 4=0
    .obtain⟨⟨h4,h5⟩,h6⟩:=h3
     have h7:¬a≥16:=by omega
     have h8:¬a < 0:=by omega
     rw[Yaz h4 (by omega) (by omega),Xp (xs:=d.regs) (by omega) (by omega),ZZa,ZZa,Wx,Zeh h4];cases w<;>simp[h16,h20,h4,h5,h6,h7,h8]
    .by_cases h4:a≥16
     .have h5:¬a < 16:=by omega
      cases w<;>simp[h16,h20,h4,h5]
     .by_cases h5:a < 0
      .have h6:¬0<=a:=by omega
       cases w<;>simp[h16,h20,h4,h5,h6]
      .have h6:a % 4≠0:=λh=>h3 ⟨by omega,h⟩
       rw[Zeh (by omega)];cases w<;>simp[h16,h20,h4,h5,h6]
 unfold Zba;cases w with
 | false=>simp only[Va7,ZZf,if_false,Vbr];exact hJ
 | true=>
  by_cases hv:Xt v 2=true
  .simp only[hv,Va7,ZZf,if_false,if_true,Vc8]
   exact hJ
  .simp[hv,Zdl]
theorem Ywp {d:Zn} (w:Bool) (a v:Int) (h:Z87 d):Z16 d w a v=some (Zba d w a v):=by
 have ht:=num2 h.timer;have hl:=h.len;have hr:=h.regs;unfold Z16;rw[Ycw d h.sm,ZZa,Yfr d h.sm,ZZa,Yil.2 h,Zbb,ZZa,Zqr,ZZa];have hJ:∀_:Zay a 4=0,Zag d w a v d false=some (if a=16 then (if w then ({d with timer:=v},v,true) else ({d with timer:=(d.timer+1) % 4294967296},d.timer,true)) else
 if a=20 then (if w then (if d.fifo.length < 4 then ({d with fifo:=d.fifo++[v]},v,true) else (d,0,false)) else (if d.fifo=[] then (d,0,false) else ({d with fifo:=d.fifo.tail},atI d.fifo 0,true))) else
 if (0<=a/\a < 16)/\a % 4=0 then (if w then ({d with regs:=d.regs.set (a / 4).toNat v},v,true) else (d,atI d.regs (a / 4),true)) else (d,0,false)):=by
  intro Z3p;unfold Zag Zp4 Zp2 Zjz Zj5;rw[Xb,ZZa,ZZa];by_cases h16:a=16
  .subst h16
   rw[Zbb,ZZa,show Zfw 2=4294967296 from rfl,Zwt (by omega),Ys (by omega) (by omega),Zeh (by omega)];cases w<;>simp
  .by_cases h20:a=20
   .subst h20
    cases w with
    | true=>
     by_cases h3:d.fifo.length < 4
     .have h4:(d.fifo.length:Int) < 4:=by omega
      rw[Wg (by simp;omega) (by simp;omega)];simp[h3,h4]
     .have h4:¬(d.fifo.length:Int) < 4:=by omega
      simp[h3,h4]
    | false=>
     by_cases h3:d.fifo=[]
     .simp[h3]
     .have h4:0 < d.fifo.length:=Vao.2 h3
      have h5:(d.fifo.length:Int) > 0:=by omega
      rw[Xp (xs:=d.fifo) (by omega) (by omega),ZZa,Zx2 _ h3 (by omega),ZZa];simp[h3,h5]
   .by_cases h3:0<=a/\a < 16
    .rw[Zeh h3.1] at Z3p
     have h4:0<=a/\a<=12:=by omega
     rw[Yaz h3.1 (by omega) (by omega),Xp (xs:=d.regs) (by omega) (by omega),ZZa,ZZa,Wx];cases w<;>simp[h16,h20,h3,h4,Z3p]
    .have h4:¬(0<=a/\a<=12):=by omega
     cases w<;>simp[h16,h20,h3,h4]
 unfold Zba;by_cases Z3p:Zay a 4=0
 .rw[ZZi (by simp),ZZi (by simp[Z3p])]
  cases w with
  | false=>simp only[ZZf,if_false,Vbr];exact hJ Z3p
  | true=>
   by_cases hv:Xt v 2=true
   .simp only[hv,Va7,ZZf,if_false,if_true,Vc8]
    exact hJ Z3p
   .simp[hv,Zag]
 .have h16:a≠16:=λh=>Z3p (by subst h;rfl)
  have h20:a≠20:=λh=>Z3p (by subst h;rfl);have h3:¬((0<=a/\a < 16)/\a % 4=0):=λh=>Z3p (by rw[Zeh h.1.1];exact h.2);rw[ZZi (by simp),ZZj (by simp[Z3p])];simp only[h16,h20,h3,if_false,Zag,if_true];split<;>rfl
theorem Y6f {xs:List Int} {p:Int->Prop} (h:∀x∈xs,p x) {k:Nat} {v:Int} (hv:p v):∀x∈xs.set k v,p x:=by
 intro x hx;rcases Vcb hx with hx|rfl
 .exact h x hx
 .exact hv
theorem Y3n {d:Zn} {w:Bool} {a v:Int} (h:Z87 d):Z87 (Zba d w a v).1/\((Zba d w a v).2.2=true->Xt (Zba d w a v).2.1 2=true):=by
 have ht:=num2 h.timer;have hl:=h.len;unfold Zba;split
 .exact⟨h,by simp⟩
 .rename_i hw
  have hv:w=true->Xt v 2=true:=by
   intro h1;rw[h1] at hw;simpa using hw
  split
  .split
   .rename_i h1
    exact⟨⟨h.regs,h.nums,hv h1,h.len,h.fifo⟩,λ_=>hv h1⟩
   .refine⟨⟨h.regs,h.nums,?_,h.len,h.fifo⟩,λ_=>h.timer⟩
    have:Zfw 2=4294967296:=rfl;simp only[Xt,this,ZZl];omega
  .split
   .split
    .rename_i h1
     split
     .rename_i h2
      refine⟨⟨h.regs,h.nums,h.timer,by simp;omega,λx hx=>?_⟩,λ_=>hv h1⟩;rcases Vat.1 hx with hx|hx
      .exact h.fifo x hx
      .rw[List.mem_singleton.1 hx];exact hv h1
     .exact⟨h,by simp⟩
    .split
     .exact⟨h,by simp⟩
     .rename_i h2
      have h4:0 < d.fifo.length:=Vao.2 h2;refine⟨⟨h.regs,h.nums,h.timer,by simp;omega,λx hx=>h.fifo x (List.mem_of_mem_tail hx)⟩,λ_=>h.fifo _ (Zj0 (by omega) (by omega))⟩
   .split
    .rename_i h3
     split
     .rename_i h1
      exact⟨⟨by simp[h.regs],Y6f h.nums (hv h1),h.timer,h.len,h.fifo⟩,λ_=>hv h1⟩
     .refine⟨h,λ_=>h.nums _ (Zj0 (by omega) (by have:=h.regs;omega))⟩
    .exact⟨h,by simp⟩
def Yy (a:Int):Int:=if a < 0\/224<=a then 0 else if a < 128 then 1 else if a < 192 then 2 else 3
theorem Zzr (a:Int):Zpi a=some (Yy a):=by
 unfold Zpi Zl0 Yy;by_cases h1:a < 0
 .simp[h1]
 .by_cases h2:a≥224
  .simp[h1,h2]
  .by_cases h3:a < 128
   .simp[h1,h2,h3]
   .by_cases h4:a < 192<;>simp[h1,h2,h3,h4]
theorem Z8b (a:Int):Zvb a=some (Yy a):=by
 rw[<-Zzr];rfl
def Zj.sm (m:Zj):Prop:=m.mem.length < 1048577/\m.dev.sm
def Z0m (m:Zj):Bool:=decide (m.mem.length=192)&&(m.mem.all Zb2&&Yek m.dev)
structure Zdn (m:Zj):Prop where
 len:m.mem.length=192
 bytes:m.mem.all Zb2=true
 dev:Z87 m.dev
theorem Zwp {m:Zj}:Z0m m=true↔Zdn m:=by
 simp only[Z0m,ZZg,ZZl,Yil];constructor
 .intro h;exact⟨h.1,h.2.1,h.2.2⟩
 .intro h;exact⟨h.len,h.bytes,h.dev⟩
theorem Zdn.sm {m:Zj} (h:Zdn m):m.sm:=⟨by have:=h.len;omega,h.dev.sm⟩
theorem Z9w (m:Zj) (hs:m.sm):Zgy m=some (Z0m m):=by
 unfold Zgy Z0m;rw[Z9i m.mem 0 0 hs.1,ZZa,Ygt m.dev hs.2,ZZa];by_cases h1:m.mem.length=192
 .have h2:(m.mem.length:Int)=192:=by omega
  have h3:Zk7 m.mem 0 0=m.mem.all Zb2:=by
   simp[Zk7,Z3k,h1,Wb,Yz]
  rw[h3];cases h4:m.mem.all Zb2<;>simp[h1,h2]
 .have h2:¬(m.mem.length:Int)=192:=by omega
  simp[h1,h2]
theorem Z8u (m:Zj) (hs:m.sm):Zpf m=some (Z0m m):=by
 unfold Zpf Z0m;rw[Z76 m.mem hs.1,ZZa,Yfr m.dev hs.2,ZZa];by_cases h1:m.mem.length=192
 .have h2:(m.mem.length:Int)=192:=by omega
  have h3:Z3k m.mem=m.mem.all Zb2:=by
   simp[Z3k,h1]
  rw[h3];cases h4:m.mem.all Zb2<;>simp[h1,h2]
 .have h2:¬(m.mem.length:Int)=192:=by omega
  simp[h1,h2]
theorem Zw3 (m:Zj) (hs:m.sm):Zhz m=some m:=by
 unfold Zhz;rw[Zuo _ hs.1,ZZa,Yc8 _ hs.2];rfl
theorem Yca (m:Zj) (hs:m.sm):Ztr m=some m:=by
 unfold Ztr;rw[Z34 _ hs.1,ZZa,Ycw _ hs.2];rfl
def Ze2 (m:Zj) (w:Bool) (a s v:Int):Zj×Int×Int:=
 if (Wb a s&&!(w&&!Xt v s))=true then
  (if Yy a=1\/Yy a=2 then (if w then ({m with mem:=Z73 m.mem a s v},v,0) else (m,Z9m m.mem a s,0))
  else if Yy a=3/\s=2 then (if (Zba m.dev w (a - 192) v).2.2=true then ({m with dev:=(Zba m.dev w (a - 192) v).1},(Zba m.dev w (a - 192) v).2.1,0) else (m,0,1))
  else (m,0,1))
 else (m,0,1)
theorem Yzs {a:Int} (h:Yy a=1\/Yy a=2):0<=a/\a < 192:=by
 unfold Yy at h
 repeat' split at h
 all_goals omega
theorem Ykl {a:Int} (h:Yy a=3):192<=a/\a < 224:=by
 unfold Yy at h
 repeat' split at h
 all_goals omega
theorem Yd9 {m:Zj} {a s:Int} (h:Zdn m) (ha:Wb a s=true) (hs:Yy a=1\/Yy a=2):Zk7 m.mem a s=true:=by
 have h1:=Yzs hs;have h2:=h.len;have h3:=Zbx ha;have h4:a+Yz s<=192:=by
  have h5:=(Zrd s).1 h3.1;have h6:s=0\/s=1\/s=2:=by omega
  have h7:=h3.2.2;rcases h6 with rfl|rfl|rfl<;>simp[Yz] at h7 ⊢<;>omega
 simp only[Zk7,Z3k,ZZg,ZZl];exact⟨⟨by omega,h.bytes⟩,ha,by omega⟩
theorem Yoj {m:Zj} (w:Bool) (a s v:Int) (h:Zdn m):Zvh m w a s v=some (Ze2 m w a s v):=by
 unfold Zvh Ze2;rw[Zw3 m h.sm,ZZa,Z9w m h.sm,ZZa,Zwp.2 h,Zs2,ZZa,Zjq,ZZa,ZZi (by simp)];by_cases ha:Wb a s=true
 .rw[ha,ZZi (by simp)]
  have hJ:(w=true->Xt v s=true)->K1 m w a s v m false=some (if Yy a=1\/Yy a=2 then (if w then ({m with mem:=Z73 m.mem a s v},v,0) else (m,Z9m m.mem a s,0))
  else if Yy a=3/\s=2 then (if (Zba m.dev w (a - 192) v).2.2=true then ({m with dev:=(Zba m.dev w (a - 192) v).1},(Zba m.dev w (a - 192) v).2.1,0) else (m,0,1))
  else (m,0,1)):=by
   intro hw;unfold K1;rw[ZZi (by simp),Zzr,ZZa];unfold Zku Zk0 Zdg;rw[Zw3 m h.sm,ZZa];by_cases h1:Yy a=1\/Yy a=2
   .have h3:¬Yy a=3:=by omega
    have hf:=Yd9 h ha h1;cases w with
    | true=>
     rw[Yt0 hf (hw rfl),ZZa];rcases h1 with h1|h1<;>simp[h1,h3]
    | false=>
     rw[Yub hf,ZZa];rcases h1 with h1|h1<;>simp[h1,h3]
   .have h2:¬Yy a=1:=λh=>h1 (.inl h)
    have h4:¬Yy a=2:=λh=>h1 (.inr h);by_cases h3:Yy a=3
    .have h5:=Ykl h3
     rw[Y9 (by omega) (by omega),Yyl w _ v h.dev,ZZa];by_cases h6:s=2
     .by_cases h7:(Zba m.dev w (a - 192) v).2.2=true<;>simp[h3,h6,h7]
     .simp[h3,h6]
    .simp[h2,h3,h4]
  cases w with
  | false=>
   simp only[ZZf,if_false,Vbr,Vbi,Vci,if_true];exact hJ (by simp)
  | true=>
   by_cases hv:Xt v s=true
   .simp only[hv,Va7,if_true,Vc8,Vbi,Vci]
    exact hJ (λ_=>hv)
   .simp[hv,K1]
 .simp[ha,K1]
theorem Z9p {m:Zj} (w:Bool) (a s v:Int) (h:Zdn m):Zpe m w a s v=some (Ze2 m w a s v):=by
 unfold Zpe Ze2;rw[Yca m h.sm,ZZa,Z8u m h.sm,ZZa,Zwp.2 h,Zsp,ZZa,Zbb,ZZa,Zqr,ZZa,ZZi (by simp)];by_cases ha:Wb a s=true
 .rw[ha,ZZi (by simp)]
  have hJ:(w=true->Xt v s=true)->K2 m w a s v m false=some (if Yy a=1\/Yy a=2 then (if w then ({m with mem:=Z73 m.mem a s v},v,0) else (m,Z9m m.mem a s,0))
  else if Yy a=3/\s=2 then (if (Zba m.dev w (a - 192) v).2.2=true then ({m with dev:=(Zba m.dev w (a - 192) v).1},(Zba m.dev w (a - 192) v).2.1,0) else (m,0,1))
  else (m,0,1)):=by
   intro hw;unfold K2;rw[ZZi (by simp),Z8b,ZZa];unfold Zla Zlu;by_cases h1:Yy a=1\/Yy a=2
   .have h3:¬Yy a=3:=by omega
    have hf:=Yd9 h ha h1;cases w with
    | true=>
     rw[Yti hf (hw rfl),ZZa];rcases h1 with h1|h1<;>simp[h1,h3]
    | false=>
     rw[Ytl hf,ZZa];rcases h1 with h1|h1<;>simp[h1,h3]
   .have h2:¬Yy a=1:=λh=>h1 (.inl h)
    have h4:¬Yy a=2:=λh=>h1 (.inr h);by_cases h3:Yy a=3
    .have h5:=Ykl h3
     rw[Y9 (by omega) (by omega),Ywp w _ v h.dev,ZZa];by_cases h6:s=2
     .by_cases h7:(Zba m.dev w (a - 192) v).2.2=true<;>simp[h3,h6,h7]
     .simp[h3,h6]
    .simp[h2,h3,h4]
  cases w with
  | false=>
   simp only[ZZf,if_false,Vbr,Vbi,Vci,if_true];exact hJ (by simp)
  | true=>
   by_cases hv:Xt v s=true
   .simp only[hv,Va7,if_true,Vc8,Vbi,Vci]
    exact hJ (λ_=>hv)
   .simp[hv,K2]
 .simp[ha,K2]
theorem Y0v (s:Int) (h:0 < Yz s):(256:Int)^(Yz s).toNat=Zfw s:=by
 have h1:=(Zrd s).1 h;have:s=0\/s=1\/s=2:=by omega
 rcases this with rfl|rfl|rfl<;>decide
theorem Yhi {m:Zj} {w:Bool} {a s v:Int} (h:Zdn m) (hs:Wb a s=true):Zdn (Ze2 m w a s v).1/\Xt (Ze2 m w a s v).2.1 s=true/\((Ze2 m w a s v).2.2=0\/(Ze2 m w a s v).2.2=1):=by
 have hp:=Zbx hs;have hz:Xt 0 s=true:=by
  have h1:=(Zrd s).1 hp.1;have:s=0\/s=1\/s=2:=by omega
  rcases this with rfl|rfl|rfl<;>decide
 unfold Ze2;split
 .rename_i h1
  split
  .rename_i h2
   have hf:=Yd9 h hs h2;split
   .rename_i hw
    have hv:Xt v s=true:=by
     rw[hw] at h1;simpa [hs] using h1
    exact⟨⟨by simp only[Z73,Y2z,h.len],Yw2 _ _ _ _ h.bytes,h.dev⟩,hv,.inl rfl⟩
   .obtain⟨h3,h4,h5,h6,h7⟩:=Zri hf
    have h8:=Yva h4 (Yz s).toNat a h6 (by omega);rw[Y0v s h5] at h8;exact⟨h,by simp only[Xt,Z9m];exact decide_eq_true h8,.inl rfl⟩
  .split
   .rename_i h3
    split
    .rename_i h4
     have h5:=Y3n (w:=w) (a:=a - 192) (v:=v) h.dev;have h6:=h5.2 h4;rw[h3.2];exact⟨⟨h.len,h.bytes,h5.1⟩,h6,.inl rfl⟩
    .exact⟨h,hz,.inr rfl⟩
   .exact⟨h,hz,.inr rfl⟩
 .exact⟨h,hz,.inr rfl⟩
def Y4 (p:Option Bool) (P:Prop):Prop:=∃r,p=some r/\(r=true↔P)
theorem Y4.of {b:Bool} {P:Prop} (h:b=true↔P):Y4 (some b) P:=⟨b,rfl,h⟩
theorem Y4.iff {p:Option Bool} {P Q:Prop} (h:Y4 p P) (e:P↔Q):Y4 p Q:=by
 obtain⟨r,h1,h2⟩:=h;exact⟨r,h1,h2.trans e⟩
theorem Y4.yes {P:Prop} (h:P):Y4 (some true) P:=⟨true,rfl,by simp[h]⟩
theorem Y4.no {P:Prop} (h:¬P):Y4 (some false) P:=⟨false,rfl,by simp[h]⟩
theorem Y4.eq {p q:Option Bool} {P:Prop} (h:Y4 p P) (h':Y4 q P):∃r,p=some r/\q=some r/\(r=true↔P):=by
 obtain⟨r,h1,h2⟩:=h;obtain⟨r',h3,h4⟩:=h';have:r=r':=by
  cases r<;>cases r'<;>simp_all
 subst this;exact⟨r,h1,h3,h2⟩
theorem Y4.bnd {x:Option Bool} {P Q:Prop} {f:Bool->Option Bool} (h:Y4 x P) (h1:P->Y4 (f true) Q) (h2:¬P->Y4 (f false) Q):Y4 (x.bind f) Q:=by
 obtain⟨r,rfl,hr⟩:=h;rw[ZZa];cases r with
 | true=>exact h1 (hr.1 rfl)
 | false=>exact h2 (λhp=>by simpa using hr.2 hp)
theorem Y4.and {x y:Option Bool} {P Q:Prop} (h:Y4 x P) (h1:P->Y4 y Q):Y4 (x.bind λr=>if r=true then y else some false) (P/\Q):=by
 refine h.bnd (λhp=>?_) (λhp=>?_)
 .rw[ZZj rfl];exact (h1 hp).iff ⟨λq=>⟨hp,q⟩,λq=>q.2⟩
 .rw[ZZi (by simp)];exact .no λq=>hp q.1
section
variable {σ:Type}
theorem Zxo {n:Nat} (hn:n < 4611686018427387904) {P:Nat->Prop} {Q:Prop} (st:Nat->σ) {B:(σ->Int->Option Bool)->σ->Int->Option Bool} {L:Nat->σ->Int->Option Bool} (hL:∀m s i,L (m+1) s i=B (L m) s i)
  (hs:∀k,k < n->(P k/\∀κ,B κ (st k) (k:Int)=κ (st (k+1)) (Zs (k:Int) 1))\/(¬P k/\∀κ,B κ (st k) (k:Int)=some false))
  (hf:(∀k,k < n->P k)->∃r,(∀κ,B κ (st n) (n:Int)=some r)/\(r=true↔Q)):Y4 (L FU (st 0) 0) ((∀k,k < n->P k)/\Q):=by
 have key:∀(m k:Nat),k<=n->n - k < m->(∀j,j < k->P j)->Y4 (L m (st k) (k:Int)) ((∀j,j < n->P j)/\Q):=by
  intro m
  induction m with
  | zero=>intro k _ h;omega
  | succ m ih=>
   intro k hk hm hp;rw[hL];by_cases hc:k < n
   .rcases hs k hc with⟨h1,h2⟩|⟨h1,h2⟩
    .rw[h2,Wi (by omega)]
     refine ih (k+1) (by omega) (by omega) λj hj=>?_;by_cases hjk:j=k
     .subst hjk;exact h1
     .exact hp j (by omega)
    .rw[h2];exact .no λq=>h1 (q.1 k hc)
   .have:k=n:=by omega
    subst this;obtain⟨r,hr,hq⟩:=hf hp;rw[hr];exact .of ⟨λh=>⟨hp,hq.1 h⟩,λh=>hq.2 h.2⟩
 have:=key FU 0 (Vbk _) (by have:=Kb;omega) (λj hj=>by omega);simpa using this
theorem Zpk {n:Nat} (hn:n < 4611686018427387904) {P:Nat->Prop} {Q:Prop} {B:(Int->Option Bool)->Int->Option Bool} {L:Nat->Int->Option Bool} (hL:∀m i,L (m+1) i=B (L m) i)
  (hs:∀k,k < n->(P k/\∀κ,B κ (k:Int)=κ (Zs (k:Int) 1))\/(¬P k/\∀κ,B κ (k:Int)=some false))
  (hf:(∀k,k < n->P k)->∃r,(∀κ,B κ (n:Int)=some r)/\(r=true↔Q)):Y4 (L FU 0) ((∀k,k < n->P k)/\Q):=
 Zxo (σ:=Unit) hn (λ_=>()) (B:=λκ _ i=>B (κ ()) i) (L:=λm _ i=>L m i) (λm _ i=>hL m i) (λk hk=>(hs k hk).imp (λh=>⟨h.1,λκ=>h.2 _⟩) λh=>⟨h.1,λκ=>h.2 _⟩)
  (λh=>by obtain⟨r,h1,h2⟩:=hf h;exact⟨r,λκ=>h1 _,h2⟩)
end
instance:Inhabited Zr:=⟨Zr.z0⟩
instance:Inhabited Zg:=⟨Zg.z0⟩
def Yk (m:Zb):Bool:=decide (m.queue≠[])&&((atI m.queue 0).lock&&!m.broken)
def K0 (b:Za) (i:Int):Int:=(if b.addr.live=true/\b.addr.who=i then 1 else 0)+(if b.data_.live=true/\b.data_.who=i then 1 else 0)
structure Zw7 (c:Zh) (b:Za) (i:Int):Prop where
 right:Yv (atI b.m i)
 tries:(atI b.m i).tries<=c.maxRetry
 bucket:Yw (atI b.buckets i) (atI c.masters i)=true
 split:0<=atI b.splits i/\atI b.splits i<=c.maxSplit
def Zae (b:Za) (x:Zg):Prop:=Zu b.conf x.who=true/\(1<=x.by_/\x.by_<=3)/\atI b.splits x.who=0
def Ku (b:Za):Prop:=if b.addr.live=true then b.addr.beat=(atI b.m b.addr.who).beat - 1/\b.addr.left=0/\b.addr.resp=0/\b.addr.second=false else b.addr=Zg.z0
def Q4 (b:Za):Prop:=if b.data_.live=true then
  (b.data_.beat=(atI b.m b.data_.who).done/\(0<=b.data_.left/\b.data_.left<=b.conf.maxWait+2)/\(0<=b.data_.resp/\b.data_.resp<=3))/\
  (b.data_.resp=2->(atI b.m b.data_.who).tries < b.conf.maxRetry)/\(b.data_.resp=3->(atI b.m b.data_.who).parted=false/\b.data_.who≠b.holder)/\
  (b.data_.second=true->b.data_.left=0/\b.data_.resp≠0/\b.addr.live=false)
 else b.data_=Zg.z0
def Ziq (b:Za):Prop:=(∀i,Zu b.conf i=true->(atI b.m i).beat > 0->Yk (atI b.m i)=true->b.holder=i)/\
 (if b.holder=-1 then b.held=0 else Zu b.conf b.holder=true/\Yk (atI b.m b.holder)=true/\atI b.splits b.holder=0/\(0<=b.held/\b.held<=b.conf.lockMost))
def Z58 (c:Zh) (now:Int) (d:Zr):Prop:=(0<=d.cycle/\d.cycle < now)/\Zu c d.who=true/\Wb d.addr d.size=true/\d.addr < 512/\Xt d.value d.size=true/\(d.resp=0\/d.resp=1)
def Z5u (b:Za):Prop:=(∀d∈b.log,Z58 b.conf b.now d)/\b.log.Pairwise λx y=>x.cycle < y.cycle
structure Zkj (b:Za):Prop where
 conf:Xh b.conf=true
 now:0<=b.now/\b.now<=4000
 ml:b.m.length=b.conf.masters.length
 bl:b.buckets.length=b.conf.masters.length
 sl:b.splits.length=b.conf.masters.length
 mst:∀i,Zu b.conf i=true->Zw7 b.conf b i
 arb:Zab b.arb b.conf=true
 last:b.last=-1\/Zu b.conf b.last=true
 model:Zdn b.model
 picks:0<=b.picks/\b.picks<=b.now
 alive:b.addr.live=true->Zae b b.addr
 dlive:b.data_.live=true->Zae b b.data_
 fly:∀i,Zu b.conf i=true->(atI b.m i).beat - (atI b.m i).done=K0 b i
 addr:Ku b
 data:Q4 b
 held:Ziq b
 log:Z5u b
structure Za.sm (b:Za):Prop where
 conf:b.conf.masters.length < 1048577
 ml:b.m.length < 1048577
 mst:∀x∈b.m,x.sm
 bl:b.buckets.length < 1048577
 sl:b.splits.length < 1048577
 model:b.model.sm
 log:b.log.length < 1048577
theorem mas {c:Zh} {k:Nat} (h:k < c.masters.length):Zu c (k:Int)=true:=by simp[Zu,h]
theorem Z3u {c:Zh} {i:Int} (h:Zu c i=true):∃k:Nat,i=(k:Int)/\k < c.masters.length:=by
 simp only[Zu,ZZl] at h;exact⟨i.toNat,by omega,by omega⟩
theorem Zyt {c:Zh} {P:Int->Prop}:(∀i,Zu c i=true->P i)↔∀k:Nat,k < c.masters.length->P (k:Int):=by
 constructor
 .intro h k hk;exact h _ (mas hk)
 .intro h i hi
  obtain⟨k,rfl,hk⟩:=Z3u hi;exact h k hk
theorem Wc {b:Za} (hl:b.m.length=b.conf.masters.length) {i:Int} (h:Zu b.conf i=true):idx b.m i=some (atI b.m i):=by
 simp only[Zu,ZZl] at h;exact Xp h.1 (by omega)
theorem Ya4 {b:Za} (hl:b.buckets.length=b.conf.masters.length) {i:Int} (h:Zu b.conf i=true):idx b.buckets i=some (atI b.buckets i):=by
 simp only[Zu,ZZl] at h;exact Xp h.1 (by omega)
theorem Zp9 {b:Za} (hl:b.splits.length=b.conf.masters.length) {i:Int} (h:Zu b.conf i=true):idx b.splits i=some (atI b.splits i):=by
 simp only[Zu,ZZl] at h;exact Xp h.1 (by omega)
theorem Z1m {c:Zh} {i:Int} (h:Zu c i=true):idx c.masters i=some (atI c.masters i):=by
 simp only[Zu,ZZl] at h;exact Xp h.1 h.2
theorem mem_m {b:Za} (hl:b.m.length=b.conf.masters.length) {i:Int} (h:Zu b.conf i=true):atI b.m i∈b.m:=by
 simp only[Zu,ZZl] at h;exact Zj0 h.1 (by omega)
theorem Yg3 (x:Zg):((x.live == false)&&(decide (x.who=0)&&(decide (x.beat=0)&&((x.first == false)&&(decide (x.by_=0)&&(decide (x.left=0)&&(decide (x.resp=0)&&((x.second == false)&&true))))))))=true↔x=Zg.z0:=by
 obtain⟨a1,a2,a3,a4,a5,a6,a7,a8⟩:=x;simp only[ZZg,beq_iff_eq,ZZl,Zg.mk.injEq,and_true]
theorem Z45 (m:Zb):Zq6 m=some (Yk m):=by
 unfold Zq6 Yk;by_cases h:m.queue=[]
 .simp[h]
 .have h1:0 < m.queue.length:=Vao.2 h
  rw[Xp (by omega) (by omega),ZZa,ZZj (by simp;omega)];cases h2:(atI m.queue 0).lock<;>simp[h]
theorem Zv7 (b:Za) (hs:b.sm) (hc:Xh b.conf=true):Y4 (Zf4 b) (b.m.length=b.conf.masters.length/\b.buckets.length=b.conf.masters.length/\b.splits.length=b.conf.masters.length/\∀i,Zu b.conf i=true->Zw7 b.conf b i):=by
 unfold Zf4;by_cases h1:b.m.length=b.conf.masters.length
 .rw[ZZi (by simp;omega)]
  by_cases h2:b.buckets.length=b.conf.masters.length
  .rw[ZZi (by simp;omega)]
   unfold Qn;by_cases h3:b.splits.length=b.conf.masters.length
   .rw[ZZi (by simp;omega)]
    have:=Jw hc;refine (Zpk (n:=b.m.length) (P:=λk=>Zw7 b.conf b (k:Int)) (Q:=True) (by omega) (B:=Zb3 b) (λm i=>rfl) (λk hk=>?_) λ_=>⟨true,λκ=>?_,by simp⟩).iff ?_
    .have hm:=mas (c:=b.conf) (k:=k) (by omega)
     have hms:=hs.mst _ (mem_m h1 hm);unfold Zb3;simp only[ZZj (show decide ((k:Int) < (b.m.length:Int))=true by simpa using hk),Wc h1 hm,Ya4 h2 hm,Zp9 h3 hm,Z1m hm,ZZa,Zbt _ hms,Z7c,Xs];by_cases e1:Zv8 (atI b.m (k:Int))=true
     .by_cases e2:(atI b.m (k:Int)).tries<=b.conf.maxRetry
      .by_cases e3:Yw (atI b.buckets (k:Int)) (atI b.conf.masters (k:Int))=true
       .by_cases e4:0<=atI b.splits (k:Int)/\atI b.splits (k:Int)<=b.conf.maxSplit
        .refine .inl ⟨⟨Ja.1 e1,e2,e3,e4⟩,λκ=>?_⟩
         have e5:¬(atI b.m (k:Int)).tries > b.conf.maxRetry:=by omega
         simp[e1,e3,e4,e5]
        .refine .inr ⟨λh=>e4 h.split,λκ=>?_⟩
         simp[e1,e3,e4]
       .refine .inr ⟨λh=>e3 h.bucket,λκ=>?_⟩
        simp[e1,e3]
      .refine .inr ⟨λh=>e2 h.tries,λκ=>?_⟩
       have e5:(atI b.m (k:Int)).tries > b.conf.maxRetry:=by omega
       simp[e1,e5]
     .refine .inr ⟨λh=>e1 (Ja.2 h.right),λκ=>?_⟩
      simp[e1]
    .unfold Zb3
     rw[ZZi (by simp)]
    .rw[and_true,h1,<-Zyt]
     exact⟨λh=>⟨rfl,h2,h3,h⟩,λh=>h.2.2.2⟩
   .rw[ZZj (by simp;omega)]
    exact .no λh=>h3 h.2.2.1
  .rw[ZZj (by simp;omega)]
   unfold Qn;rw[ZZj rfl];exact .no λh=>h2 h.2.1
 .rw[ZZj (by simp;omega)]
  unfold Qn;rw[ZZj rfl];exact .no λh=>h1 h.1
theorem Y03 (b:Za):Zr6 b=some ([b.addr,b.data_].filter (·.live)):=by
 unfold Zr6;have:Wk [b.addr,b.data_]=some ([b.addr,b.data_].filter (·.live)):=by
  unfold Wk Q0;exact Yrw [b.addr,b.data_] Zg.z0 (by simp) Znz (·.live) (λa _=>rfl) _ (λm i=>rfl) _ (λm v i j=>rfl)
 rw[this];rfl
def Zfk:List Zg->List Int->List Int
 | [],l=>l
 | x::xs,l=>Zfk xs (l.set x.who.toNat (atI l x.who+1))
theorem Y0h:∀(xs:List Zg) (x:Zg) (l:List Int),Zfk (xs++[x]) l=(Zfk xs l).set x.who.toNat (atI (Zfk xs l) x.who+1):=by
 intro xs
 induction xs with
 | nil=>intro x l;rfl
 | cons y xs ih=>intro x l;exact ih x _
theorem Yqe:∀(xs:List Zg) (l:List Int),(Zfk xs l).length=l.length:=by
 intro xs
 induction xs with
 | nil=>intro l;rfl
 | cons y xs ih=>intro l;rw[Zfk,ih,Vbg]
theorem Y57:∀(xs:List Zg) (l:List Int) (i:Int),0<=i->i < (l.length:Int)->(∀x∈xs,0<=x.who/\x.who < (l.length:Int))->atI (Zfk xs l) i=atI l i+(xs.countP λx=>decide (x.who=i):Nat):=by
 intro xs
 induction xs with
 | nil=>intro l i _ _ _;simp[Zfk]
 | cons y xs ih=>
  intro l i h0 h1 hx;have hy:=hx y (Vab ..);rw[Zfk,ih _ i h0 (by simpa using h1) (λx hxm=>by simpa using hx x (Vad _ hxm)),List.countP_cons];by_cases h:y.who=i
  .subst h
   rw[Zps _ hy.1 hy.2];simp;omega
  .rw[Ykg _ hy.1 h0 h]
   simp[h]
theorem Yzm (b:Za) (i:Int):(([b.addr,b.data_].filter (·.live)).countP λx=>decide (x.who=i):Nat)=K0 b i:=by
 unfold K0;by_cases h1:b.addr.live=true<;>by_cases h2:b.data_.live=true<;>by_cases h3:b.addr.who=i<;>by_cases h4:b.data_.who=i<;>simp[h1,h2,h3,h4]
theorem Y16 {b:Za} {P:Zg->Prop}:(∀k (h:k < ([b.addr,b.data_].filter (·.live)).length),P (([b.addr,b.data_].filter (·.live))[k]))↔(b.addr.live=true->P b.addr)/\(b.data_.live=true->P b.data_):=by
 have:(∀k (h:k < ([b.addr,b.data_].filter (·.live)).length),P (([b.addr,b.data_].filter (·.live))[k]))↔∀x∈[b.addr,b.data_].filter (·.live),P x:=by
  constructor
  .intro h x hx
   obtain⟨k,hk,rfl⟩:=Vbt hx;exact h k hk
  .intro h k hk;exact h _ (Vaq hk)
 rw[this];constructor
 .intro h;exact⟨λh1=>h _ (by simp[h1]),λh1=>h _ (by simp[h1])⟩
 .intro h x hx
  simp only[Vb5,Vav,List.not_mem_nil,or_false] at hx;rcases hx with⟨rfl|rfl,hx⟩
  .exact h.1 hx
  .exact h.2 hx
theorem Yfj (b:Za):Y4 (Qj b false) (b.data_.second=true->b.data_.left=0/\b.data_.resp≠0/\b.addr.live=false):=by
 unfold Qj;rw[ZZi (by simp)];by_cases h1:b.data_.second=true
 .rw[ZZi (by simp[h1])]
  by_cases h2:b.data_.left=0
  .rw[ZZj (by simpa using h2)]
   by_cases h3:b.data_.resp=0
   .rw[ZZi (by simpa using h3)];exact .no λh=>(h h1).2.1 h3
   .rw[ZZj (by simpa using h3)]
    exact .of (by simp[h1,h2,h3])
  .rw[ZZi (by simpa using h2)];exact .no λh=>h2 (h h1).1
 .rw[ZZj (by simpa using h1)];exact .yes λh=>absurd h h1
theorem W5 {c:Zh} (hc:Xh c=true):(0<=c.maxRetry/\c.maxRetry<=3)/\(0<=c.maxWait/\c.maxWait<=3)/\(1<=c.lockMost/\c.lockMost<=40)/\(1<=c.maxSplit/\c.maxSplit<=12):=by
 simp only[Xh,ZZg,ZZl] at hc;have h3:=hc.1.2;have h4:Zir c≠0:=λh=>h3 (by unfold Kt;rw[ZZj h]);have h5:1<=c.lockMost/\c.lockMost<=40:=by
  unfold Kt at h3;rw[ZZi h4] at h3;by_cases h6:1<=c.lockMost/\c.lockMost<=40
  .exact h6
  .rw[ZZi h6] at h3;exact absurd rfl h3
 have h6:(0<=c.maxRetry/\c.maxRetry<=3)/\(0<=c.maxWait/\c.maxWait<=3):=by
  unfold Zir at h4;by_cases h7:(0<=c.maxRetry/\c.maxRetry<=3)/\(0<=c.maxWait/\c.maxWait<=3)
  .exact h7
  .rw[ZZi h7] at h4;exact absurd rfl h4
 exact⟨h6.1,h6.2,h5,hc.1.1.2⟩
theorem Yxx (b:Za) (hc:Xh b.conf=true) (h1:b.m.length=b.conf.masters.length) (hl:b.data_.live=true->Zae b b.data_):Y4 (Xg b false) (Q4 b):=by
 have hw:=(W5 hc).2.1;unfold Xg Q4;rw[ZZi (by simp)];by_cases hd:b.data_.live=true
 .obtain⟨hm,hby,hsp⟩:=hl hd
  rw[ZZi (by simp[hd]),Wc h1 hm,ZZa,ZZj hd,Xs,ZZa,Xs,ZZa,Ys (by omega) (by omega)];have hJ6:∀v,Y4 (Zbk b (atI b.m b.data_.who) v) (v=false/\(b.data_.resp=3->(atI b.m b.data_.who).parted=false/\b.data_.who≠b.holder)/\(b.data_.second=true->b.data_.left=0/\b.data_.resp≠0/\b.addr.live=false)):=by
   intro v;unfold Zbk;cases v with
   | true=>rw[ZZj rfl];exact .no λh=>by simp at h
   | false=>
    rw[ZZi (by simp)];by_cases h3:b.data_.resp=3
    .rw[ZZj (by simpa using h3)]
     by_cases h4:(atI b.m b.data_.who).parted=true
     .rw[ZZj h4]
      unfold Qj;rw[ZZj rfl];exact .no λh=>by have:=(h.2.1 h3).1;rw[h4] at this;cases this
     .rw[ZZi h4]
      by_cases h5:b.data_.who=b.holder
      .rw[decide_eq_true h5]
       unfold Qj;rw[ZZj rfl];exact .no λh=>(h.2.1 h3).2 h5
      .rw[decide_eq_false h5]
       exact (Yfj b).iff ⟨λh=>⟨rfl,λ_=>⟨by simpa using h4,h5⟩,h⟩,λh=>h.2.2⟩
    .rw[ZZi (by simpa using h3)]
     exact (Yfj b).iff ⟨λh=>⟨rfl,λh6=>absurd h6 h3,h⟩,λh=>h.2.2⟩
  have hJ5:∀v,Y4 (Ju b (atI b.m b.data_.who) v) (v=false/\(b.data_.resp=2->(atI b.m b.data_.who).tries < b.conf.maxRetry)/\(b.data_.resp=3->(atI b.m b.data_.who).parted=false/\b.data_.who≠b.holder)/\(b.data_.second=true->b.data_.left=0/\b.data_.resp≠0/\b.addr.live=false)):=by
   intro v;unfold Ju;cases v with
   | true=>rw[ZZj rfl];exact .no λh=>by simp at h
   | false=>
    rw[ZZi (by simp)];by_cases h3:b.data_.resp=2
    .rw[ZZj (by simpa using h3)]
     refine (hJ6 _).iff ?_;simp[h3]
    .rw[ZZi (by simpa using h3)]
     refine (hJ6 _).iff ?_;simp[h3]
  by_cases h3:b.data_.beat=(atI b.m b.data_.who).done
  .rw[ZZi (by simpa using h3)]
   by_cases h4:0<=b.data_.left/\b.data_.left<=b.conf.maxWait+2
   .rw[ZZi (by simpa using h4)]
    refine (hJ5 _).iff ?_;simp[h3,h4]
   .rw[ZZj (by rw[decide_eq_false h4];rfl)]
    exact (hJ5 _).iff ⟨λh=>by simp at h,λh=>absurd h.1.2.1 h4⟩
  .rw[ZZj (by simpa using h3)]
   exact (hJ5 _).iff ⟨λh=>by simp at h,λh=>absurd h.1.1 h3⟩
 .rw[ZZj (by simpa using hd),ZZi hd]
  exact .of (Yg3 _)
theorem Y0t {l:List Int} {N:Int} (hN:0<=N) (h:∀v∈l,0<=v/\v<=N) (i:Int):0<=atI l i/\atI l i<=N:=by
 unfold atI;rw[Vax];cases hg:l[i.toNat]? with
 | none=>exact⟨Vdq _,hN⟩
 | some v=>exact h v (Vag hg)
theorem Y2m:∀(xs:List Zg) (l:List Int) (N:Int),0<=N->(∀v∈l,0<=v/\v<=N)->∀v∈Zfk xs l,0<=v/\v<=N+xs.length:=by
 intro xs
 induction xs with
 | nil=>intro l N _ h v hv;have:=h v hv;simpa using this
 | cons x xs ih=>
  intro l N hN h v hv;have h2:=Y0t hN h x.who;have:=ih (l.set x.who.toNat (atI l x.who+1)) (N+1) (by omega) (λy hy=>by
   rcases Vcb hy with hy|rfl
   .have:=h y hy;omega
   .omega) v hv
  simp only[Vaa];omega
theorem Yeo (b:Za) (hc:Xh b.conf=true) (h1:b.m.length=b.conf.masters.length) (h3:b.splits.length=b.conf.masters.length) (hr:∀i,Zu b.conf i=true->Yv (atI b.m i)):
  Y4 (Zcg b) (((b.addr.live=true->Zae b b.addr)/\(b.data_.live=true->Zae b b.data_))/\(∀i,Zu b.conf i=true->(atI b.m i).beat - (atI b.m i).done=K0 b i)/\Ku b/\Q4 b):=by
 have Yn:=Jw hc;have Ya:=Zcb hc;unfold Zcg;rw[Z39 (by omega) (by omega),ZZa,Y03,ZZa];generalize hLs:[b.addr,b.data_].filter (·.live)=ls;have hls:ls.length<=2:=by
  rw[<-hLs];exact Vb6 (Vbu ..) (by simp)
 have Y4d:∀x:Zg,Zu b.conf x.who=true->0<=x.who/\x.who < (b.m.length:Int):=λx h=>by
  simp only[Zu,ZZl] at h;omega
 have hL2:(∀x∈ls,Zu b.conf x.who=true)->((b.addr.live=true->Zae b b.addr)/\(b.data_.live=true->Zae b b.data_))->Y4 (Zbm b FU (Zfk ls (List.replicate b.m.length 0)) 0) ((∀i,Zu b.conf i=true->(atI b.m i).beat - (atI b.m i).done=K0 b i)/\Ku b/\Q4 b):=by
  intro hml Y4e;have hfa:∀i,Zu b.conf i=true->atI (Zfk ls (List.replicate b.m.length 0)) i=K0 b i:=by
   intro i hi;simp only[Zu,ZZl] at hi;rw[Y57 _ _ i hi.1 (by simp;omega) (λx hx=>by have:=Y4d x (hml x hx);simpa using this),<-Yzm,hLs];have:atI (List.replicate b.m.length (0:Int)) i=0:=by
    unfold atI;rw[Vax,Vd6];split<;>rfl
   rw[this];simp
  have hQ:∃r,(∀κ,Wp b κ (Zfk ls (List.replicate b.m.length 0)) (b.m.length:Int)=some r)/\(r=true↔Ku b/\Q4 b):=by
   obtain⟨r,h4,h5⟩:=Yxx b hc h1 Y4e.2;have Yrf:Xg b true=some false:=by unfold Xg;rw[ZZj rfl]
   by_cases ha:b.addr.live=true
   .obtain⟨hm,hby,hsp⟩:=Y4e.1 ha
    have hrb:=K9 (hr _ hm);by_cases e1:b.addr.beat=(atI b.m b.addr.who).beat - 1/\b.addr.left=0/\b.addr.resp=0/\b.addr.second=false
    .refine⟨r,λκ=>?_,?_⟩
     .unfold Wp
      obtain⟨f1,f2,f3,f4⟩:=e1;rw[ZZi (by simp),ZZj ha,Wc h1 hm,ZZa,Y9 (by omega) (by omega)];simp only[f1,f2,f3,f4,ha,ne_eq,not_true_eq_false,decide_false,ZZf,if_false,Va7,h4]
     .rw[h5];unfold Ku;rw[ZZj ha];exact⟨λh=>⟨e1,h⟩,λh=>h.2⟩
    .refine⟨false,λκ=>?_,?_⟩
     .unfold Wp
      rw[ZZi (by simp),ZZj ha,Wc h1 hm,ZZa,Y9 (by omega) (by omega)];by_cases f1:b.addr.beat=(atI b.m b.addr.who).beat - 1
      .by_cases f2:b.addr.left=0
       .by_cases f3:b.addr.resp=0
        .have f4:b.addr.second=true:=by
          cases hs:b.addr.second with
          | true=>rfl
          | false=>exact absurd ⟨f1,f2,f3,hs⟩ e1
         rw[ZZi (by simpa using f1),ZZi (by simpa using f2),ZZi (by simpa using f3),ZZj f4,Yrf]
        .rw[ZZi (by simpa using f1),ZZi (by simpa using f2),ZZj (by simpa using f3),Yrf]
       .rw[ZZi (by simpa using f1),ZZj (by simpa using f2),Yrf]
      .rw[ZZj (by simpa using f1),Yrf]
     .unfold Ku;rw[ZZj ha];simp[e1]
   .by_cases e1:b.addr=Zg.z0
    .refine⟨r,λκ=>?_,?_⟩
     .unfold Wp
      rw[ZZi (by simp),ZZi ha,ZZj (by simpa using ha),(Yg3 b.addr).2 e1];exact h4
     .rw[h5];unfold Ku;rw[ZZi ha];exact⟨λh=>⟨e1,h⟩,λh=>h.2⟩
    .refine⟨false,λκ=>?_,?_⟩
     .unfold Wp
      rw[ZZi (by simp),ZZi ha,ZZj (by simpa using ha)];have:((b.addr.live == false)&&(decide (b.addr.who=0)&&(decide (b.addr.beat=0)&&((b.addr.first == false)&&(decide (b.addr.by_=0)&&(decide (b.addr.left=0)&&(decide (b.addr.resp=0)&&((b.addr.second == false)&&true))))))))=false:=by
       rw[<-Bool.not_eq_true,Yg3];exact e1
      rw[this,Vbi,Yrf]
     .unfold Ku;rw[ZZi ha];simp[e1]
  obtain⟨r,Zw,Z6⟩:=hQ;refine (Zxo (σ:=List Int) (n:=b.m.length) (by omega) (P:=λk=>(atI b.m (k:Int)).beat - (atI b.m (k:Int)).done=K0 b (k:Int)) (Q:=Ku b/\Q4 b) (λ_=>Zfk ls (List.replicate b.m.length 0)) (B:=Wp b) (L:=Zbm b) (λm s i=>rfl) (λk hk=>?_) λ_=>⟨r,Zw,Z6⟩).iff ?_
  .have hm:=mas (c:=b.conf) (k:=k) (by omega)
   have hrb:=K9 (hr _ hm);have Kf:=Yqe ls (List.replicate b.m.length 0);rw[Vcu] at Kf;have hi:idx (Zfk ls (List.replicate b.m.length 0)) (k:Int)=some (K0 b (k:Int)):=by
    rw[Xp (by omega) (by omega),hfa _ hm]
   by_cases e1:(atI b.m (k:Int)).beat - (atI b.m (k:Int)).done=K0 b (k:Int)
   .refine .inl ⟨e1,λκ=>?_⟩
    unfold Wp;rw[ZZj (by simpa using hk),Wc h1 hm,ZZa,hi,ZZa,Y9 (by omega) (by omega),ZZi (by simpa using e1)]
   .refine .inr ⟨e1,λκ=>?_⟩
    unfold Wp;rw[ZZj (by simpa using hk),Wc h1 hm,ZZa,hi,ZZa,Y9 (by omega) (by omega),ZZj (by simpa using e1)]
  .rw[h1,<-Zyt (P:=λi=>(atI b.m i).beat - (atI b.m i).done=K0 b i)]
 have hlv:(∀k,k < ls.length->Zae b (atI ls (k:Int)))↔((b.addr.live=true->Zae b b.addr)/\(b.data_.live=true->Zae b b.data_)):=by
  rw[<-Y16 (P:=Zae b),hLs];constructor
  .intro h k hk;have:=h k hk;rwa [X5 hk] at this
  .intro h k hk;rw[X5 hk];exact h k hk
 have hstep:∀k,k < ls.length->(Zae b (atI ls (k:Int))/\∀κ,Wn b κ (Zfk (ls.take k) (List.replicate b.m.length 0)) ls (ls.length:Int) (k:Int)=κ (Zfk (ls.take (k+1)) (List.replicate b.m.length 0)) ls (ls.length:Int) (Zs (k:Int) 1))\/(¬Zae b (atI ls (k:Int))/\∀κ,Wn b κ (Zfk (ls.take k) (List.replicate b.m.length 0)) ls (ls.length:Int) (k:Int)=some false):=by
  intro k hk;have Kf:=Yqe (ls.take k) (List.replicate b.m.length 0);rw[Vcu] at Kf;have hJ3:∀κ x,Kn b κ x (Zfk (ls.take k) (List.replicate b.m.length 0)) ls (ls.length:Int) (k:Int) true=some false:=λκ x=>by unfold Kn;rw[ZZj rfl]
  by_cases e1:Zu b.conf (atI ls (k:Int)).who=true
  .by_cases e2:1<=(atI ls (k:Int)).by_/\(atI ls (k:Int)).by_<=3
   .by_cases e3:atI b.splits (atI ls (k:Int)).who=0
    .refine .inl ⟨⟨e1,e2,e3⟩,λκ=>?_⟩
     unfold Wn;have hw:=Y4d _ e1;rw[ZZj (by simpa using hk),Xp (by omega) (by omega),ZZa,Kr _ _ Ya,ZZa,e1,ZZi (by simp),Xs,ZZa,ZZi (by simpa using e2),Zp9 h3 e1,ZZa,e3];unfold Kn;have hb:=Y0t (by omega) (Y2m (ls.take k) (List.replicate b.m.length 0) 0 (by omega) (λv hv=>by rw[List.eq_of_mem_replicate hv];omega)) (atI ls (k:Int)).who;have hk2:(ls.take k).length<=2:=by rw[Vbw];omega
     rw[ZZi (by simp),Xp hw.1 (by omega),ZZa,Ys (a:=atI (Zfk (ls.take k) (List.replicate b.m.length 0)) (atI ls (k:Int)).who) (by omega) (by omega),Wx,ZZa,List.take_succ_eq_append_getElem hk,Y0h,X5 hk]
    .refine .inr ⟨λh=>e3 h.2.2,λκ=>?_⟩
     unfold Wn;rw[ZZj (by simpa using hk),Xp (by omega) (by omega),ZZa,Kr _ _ Ya,ZZa,e1,ZZi (by simp),Xs,ZZa,ZZi (by simpa using e2),Zp9 h3 e1,ZZa,decide_eq_true e3,hJ3]
   .refine .inr ⟨λh=>e2 h.2.1,λκ=>?_⟩
    unfold Wn;rw[ZZj (by simpa using hk),Xp (by omega) (by omega),ZZa,Kr _ _ Ya,ZZa,e1,ZZi (by simp),Xs,ZZa,ZZj (by rw[decide_eq_false e2];rfl),hJ3]
  .refine .inr ⟨λh=>e1 h.1,λκ=>?_⟩
   unfold Wn;rw[ZZj (by simpa using hk),Xp (by omega) (by omega),ZZa,Kr _ _ Ya,ZZa,ZZj (by simpa using e1),hJ3]
 have hl1:=Zxo (σ:=List Int×List Zg×Int) (n:=ls.length) (by omega) (P:=λk=>Zae b (atI ls (k:Int)))
  (Q:=(∀i,Zu b.conf i=true->(atI b.m i).beat - (atI b.m i).done=K0 b i)/\Ku b/\Q4 b)
  (λk=>(Zfk (ls.take k) (List.replicate b.m.length 0),ls,(ls.length:Int))) (B:=λκ s i=>Wn b (λv l n i=>κ (v,l,n) i) s.1 s.2.1 s.2.2 i) (L:=λm s i=>Zdv b m s.1 s.2.1 s.2.2 i) (λm s i=>rfl)
  (λk hk=>(hstep k hk).imp (λh=>⟨h.1,λκ=>h.2 _⟩) λh=>⟨h.1,λκ=>h.2 _⟩)
 have hml:(∀k,k < ls.length->Zae b (atI ls (k:Int)))->∀x∈ls,Zu b.conf x.who=true:=by
  intro h x hx;obtain⟨k,hk,rfl⟩:=Vbt hx;have:=(h k hk).1
  rwa [X5 hk] at this
 have hl2:=hl1 λQ2=>by
  obtain⟨r,Zw,Z6⟩:=hL2 (hml Q2) (hlv.1 Q2);refine⟨r,λκ=>?_,Z6⟩;unfold Wn;rw[ZZi (by simp),Vbq];exact Zw
 simp only[List.take_zero,Zfk] at hl2;exact hl2.iff (by rw[hlv])
theorem Yjk (b:Za) (hc:Xh b.conf=true) (h1:b.m.length=b.conf.masters.length) (h3:b.splits.length=b.conf.masters.length):Y4 (Zef b) (Ziq b):=by
 have Yn:=Jw hc;have Ya:=Zcb hc;unfold Zef Ziq;refine (Zpk (n:=b.m.length) (by omega) (P:=λk=>(atI b.m (k:Int)).beat > 0->Yk (atI b.m (k:Int))=true->b.holder=(k:Int))
  (Q:=if b.holder=-1 then b.held=0 else Zu b.conf b.holder=true/\Yk (atI b.m b.holder)=true/\atI b.splits b.holder=0/\(0<=b.held/\b.held<=b.conf.lockMost))
  (B:=Ze9 b) (λm i=>rfl) (λk hk=>?_) λ_=>?_).iff ?_
 .have hm:=mas (c:=b.conf) (k:=k) (by omega)
  unfold Ze9;simp only[ZZj (show decide ((k:Int) < (b.m.length:Int))=true by simpa using hk),Wc h1 hm,ZZa,Z45];by_cases e1:(atI b.m (k:Int)).beat > 0
  .by_cases e2:Yk (atI b.m (k:Int))=true
   .by_cases e3:b.holder=(k:Int)
    .exact .inl ⟨λ_ _=>e3,λκ=>by simp[e1,e2,e3]⟩
    .exact .inr ⟨λh=>e3 (h e1 e2),λκ=>by simp[e1,e2,e3]⟩
   .exact .inl ⟨λ_ h=>absurd h e2,λκ=>by simp[e1,e2]⟩
  .exact .inl ⟨λh=>absurd h e1,λκ=>by simp[e1]⟩
 .unfold Ze9
  simp only[Int.lt_irrefl,decide_false,ZZf,if_false];by_cases e1:b.holder=-1
  .exact⟨decide (b.held=0),λκ=>by simp[e1],by simp[e1]⟩
  .simp only[e1,decide_false,ZZf,if_false,Kr _ _ Ya,ZZa]
   by_cases e2:Zu b.conf b.holder=true
   .simp only[e2,if_true,Wc h1 e2,Zp9 h3 e2,ZZa,Z45,Xs]
    by_cases e3:Yk (atI b.m b.holder)=true
    .by_cases e4:atI b.splits b.holder=0
     .exact⟨decide (0<=b.held/\b.held<=b.conf.lockMost),λκ=>by simp only[e3,e4,decide_true,if_true],by simp[e3,e4]⟩
     .exact⟨false,λκ=>by simp[e3,e4],by simp[e4]⟩
    .exact⟨false,λκ=>by simp[e3],by simp[e3]⟩
   .exact⟨false,λκ=>by simp[e2],by simp[e2]⟩
 .rw[h1,<-Zyt (P:=λi=>(atI b.m i).beat > 0->Yk (atI b.m i)=true->b.holder=i)]
def Zdf (l:List Zr):Nat->Int
 | 0=>-1
 | k+1=>(atI l (k:Int)).cycle
theorem Yn1 {l:List Zr}:(l.Pairwise λx y=>x.cycle < y.cycle)↔∀k,k+1 < l.length->(atI l (k:Int)).cycle < (atI l ((k+1:Nat):Int)).cycle:=by
 constructor
 .intro h k hk
  rw[X5 (by omega),X5 hk];exact Vdz.1 h k (k+1) (by omega) hk (by omega)
 .intro h
  rw[Vdz];have key:∀(d i:Nat) (hj:i+d+1 < l.length),(l[i]'(by omega)).cycle < (l[i+d+1]'hj).cycle:=by
   intro d
   induction d with
   | zero=>
    intro i hj;have:=h i hj;rw[X5 (by omega),X5 hj] at this;exact this
   | succ d ih=>
    intro i hj;have h4:=ih i (by omega);have h5:=h (i+d+1) (by omega);rw[X5 (by omega),X5 (by omega)] at h5;exact Int.lt_trans h4 h5
  intro i j hi hj hij;have:=key (j - i - 1) i (by omega);have e:i+(j - i - 1)+1=j:=by omega
  simp only[e] at this;exact this
theorem Yvo {b:Za}:Z5u b↔∀k,k < b.log.length->Z58 b.conf b.now (atI b.log (k:Int))/\Zdf b.log k < (atI b.log (k:Int)).cycle:=by
 unfold Z5u;constructor
 .intro h k hk
  have h1:=h.1 _ (Zj0 (xs:=b.log) (i:=(k:Int)) (by omega) (by omega));refine⟨h1,?_⟩;cases k with
  | zero=>have:=h1.1.1;simp only[Zdf];omega
  | succ k=>exact Yn1.1 h.2 k hk
 .intro h
  refine⟨λd hd=>?_,Yn1.2 λk hk=>?_⟩
  .obtain⟨k,hk,rfl⟩:=Vbt hd
   have:=(h k hk).1
   rwa [X5 hk] at this
  .exact (h (k+1) hk).2
def doneQ (c:Zh) (now:Int) (d:Zr):Prop:=d.cycle < now/\Zu c d.who=true/\Wb d.addr d.size=true/\d.addr < 512/\Xt d.value d.size=true/\(d.resp=0\/d.resp=1)
theorem Y2l {b:Za}:Z5u b↔∀k,k < b.log.length->doneQ b.conf b.now (atI b.log (k:Int))/\Zdf b.log k < (atI b.log (k:Int)).cycle:=by
 rw[Yvo];constructor
 .intro h k hk
  have:=h k hk;exact⟨⟨this.1.1.2,this.1.2⟩,this.2⟩
 .intro h
  have h0:∀k,k<=b.log.length->-1<=Zdf b.log k:=by
   intro k
   induction k with
   | zero=>intro _;simp[Zdf]
   | succ k ih=>
    intro hk;have h1:=ih (by omega);have h2:=(h k (by omega)).2;simp only[Zdf];omega
  intro k hk;have h1:=h k hk;have h2:=h0 k (by omega);exact⟨⟨⟨by omega,h1.1.1⟩,h1.1.2⟩,h1.2⟩
theorem Ydo (b:Za) (hc:Xh b.conf=true) (hl:b.log.length < 1048577) (hn:0<=b.now/\b.now<=4000):Y4 (Zcc b) (Z5u b):=by
 have Ya:=Zcb hc;unfold Zcc;have:=Zxo (σ:=Int) (n:=b.log.length) (by omega) (P:=λk=>doneQ b.conf b.now (atI b.log (k:Int))/\Zdf b.log k < (atI b.log (k:Int)).cycle) (Q:=True)
  (Zdf b.log) (B:=Zde b) (L:=Zd0 b) (λm s i=>rfl) (λk hk=>?_) λ_=>⟨true,λκ=>?_,by simp⟩
 .exact this.iff (by rw[and_true,Y2l])
 .have e0:Zdf b.log (k+1)=(atI b.log (k:Int)).cycle:=rfl
  rw[e0];unfold Zde;simp only[ZZj (show decide ((k:Int) < (b.log.length:Int))=true by simpa using hk),Xp (xs:=b.log) (i:=(k:Int)) (by omega) (by omega),ZZa,Kr _ _ Ya,Zs2,Zjq];generalize atI b.log (k:Int)=d;by_cases e1:Zdf b.log k < d.cycle
  .have e1':¬d.cycle<=Zdf b.log k:=by omega
   by_cases e2:d.cycle < b.now
   .have e2':¬d.cycle≥b.now:=by omega
    by_cases e3:Zu b.conf d.who=true
    .by_cases e4:Wb d.addr d.size=true
     .by_cases e5:d.addr < 512
      .have e5':¬d.addr≥512:=by omega
       by_cases e6:Xt d.value d.size=true
       .by_cases e7:d.resp=0
        .exact .inl ⟨⟨⟨e2,e3,e4,e5,e6,.inl e7⟩,e1⟩,λκ=>by simp[e1',e2',e3,e4,e5',e6,e7]⟩
        .by_cases e8:d.resp=1
         .exact .inl ⟨⟨⟨e2,e3,e4,e5,e6,.inr e8⟩,e1⟩,λκ=>by simp[e1',e2',e3,e4,e5',e6,e8]⟩
         .exact .inr ⟨λh=>by have:=h.1.2.2.2.2.2;omega,λκ=>by simp[e1',e2',e3,e4,e5',e6,e7,e8]⟩
       .exact .inr ⟨λh=>e6 h.1.2.2.2.2.1,λκ=>by simp[e1',e2',e3,e4,e5',e6]⟩
      .have e5':d.addr≥512:=by omega
       exact .inr ⟨λh=>e5 h.1.2.2.2.1,λκ=>by simp[e1',e2',e3,e4,e5']⟩
     .exact .inr ⟨λh=>e4 h.1.2.2.1,λκ=>by simp[e1',e2',e3,e4]⟩
    .exact .inr ⟨λh=>e3 h.1.2.1,λκ=>by simp[e1',e2',e3]⟩
   .have e2':d.cycle≥b.now:=by omega
    exact .inr ⟨λh=>e2 h.1.1,λκ=>by simp[e1',e2']⟩
  .have e1':d.cycle<=Zdf b.log k:=by omega
   exact .inr ⟨λh=>e1 h.2,λκ=>by simp[e1']⟩
 .unfold Zde
  rw[ZZi (by simp)]
theorem Yme (b:Za) (hs:b.sm):Y4 (Zq2 b) (Zkj b):=by
 unfold Zq2;rw[Zpp _ hs.conf,ZZa];by_cases hc:Xh b.conf=true
 .rw[ZZj hc,Xs,ZZa]
  by_cases hn:0<=b.now/\b.now<=4000
  .rw[ZZj (decide_eq_true hn)]
   have Y4f:b.m.length=b.conf.masters.length->b.buckets.length=b.conf.masters.length->b.splits.length=b.conf.masters.length->(∀i,Zu b.conf i=true->Zw7 b.conf b i)->
     Y4 ((Zgy b.model).bind λr133=>if r133=true then (Yp b.picks 0 b.now).bind λr140=>if r140=true then (Zcg b).bind λr143=>if r143=true then (Zef b).bind λr146=>if r146=true then (Zcc b).bind λr149=>some r149 else some false else some false else some false else some false)
      (Zdn b.model/\(0<=b.picks/\b.picks<=b.now)/\(((b.addr.live=true->Zae b b.addr)/\(b.data_.live=true->Zae b b.data_))/\(∀i,Zu b.conf i=true->(atI b.m i).beat - (atI b.m i).done=K0 b i)/\Ku b/\Q4 b)/\Ziq b/\Z5u b):=by
    intro h1 h2 h3 hm;rw[Z9w _ hs.model];refine Y4.and (Y4.of Zwp) λ_=>?_;rw[Xs];refine Y4.and (Y4.of (decide_eq_true_iff)) λ_=>?_;refine Y4.and (Yeo b hc h1 h3 λi hi=>(hm i hi).right) λ_=>?_;refine Y4.and (Yjk b hc h1 h3) λ_=>?_;obtain⟨r,h4,h5⟩:=Ydo b hc hs.log hn;rw[h4];exact .of h5
   have hw:Y4 (Zmo b.arb b.conf) (Zab b.arb b.conf=true):=by rw[Z6o _ _ hs.conf];exact .of Iff.rfl
   by_cases hla:b.last=-1
   .simp only[hla,decide_true,if_true]
    refine (Y4.and (Zv7 b hs hc) λhm=>Y4.and hw λ_=>Y4f hm.1 hm.2.1 hm.2.2.1 hm.2.2.2).iff ⟨λh=>?_,λh=>?_⟩
    .obtain⟨⟨h1,h2,h3,h4⟩,h5,h6,h7,⟨⟨h8,h9⟩,h10,h11,h12⟩,h13,h14⟩:=h
     exact⟨hc,hn,h1,h2,h3,h4,h5,.inl hla,h6,h7,h8,h9,h10,h11,h12,h13,h14⟩
    .exact⟨⟨h.ml,h.bl,h.sl,h.mst⟩,h.arb,h.model,h.picks,⟨⟨h.alive,h.dlive⟩,h.fly,h.addr,h.data⟩,h.held,h.log⟩
   .have e:decide (b.last=-1)=false:=decide_eq_false hla
    simp only[e,ZZf,if_false];have hi:Y4 (Q1 b.conf b.last) (Zu b.conf b.last=true):=by rw[Kr _ _ hs.conf];exact .of Iff.rfl
    refine (Y4.and (Zv7 b hs hc) λhm=>Y4.and hw λ_=>Y4.and hi λ_=>Y4f hm.1 hm.2.1 hm.2.2.1 hm.2.2.2).iff ⟨λh=>?_,λh=>?_⟩
    .obtain⟨⟨h1,h2,h3,h4⟩,h5,hx,h6,h7,⟨⟨h8,h9⟩,h10,h11,h12⟩,h13,h14⟩:=h
     exact⟨hc,hn,h1,h2,h3,h4,h5,.inr hx,h6,h7,h8,h9,h10,h11,h12,h13,h14⟩
    .exact⟨⟨h.ml,h.bl,h.sl,h.mst⟩,h.arb,h.last.resolve_left hla,h.model,h.picks,⟨⟨h.alive,h.dlive⟩,h.fly,h.addr,h.data⟩,h.held,h.log⟩
  .rw[ZZi (by simpa using hn)]
   exact .no λh=>hn h.now
 .rw[ZZi hc]
  exact .no λh=>hc h.conf
theorem Yz1 (b:Za) (i:Int):Zvx b i=some (K0 b i):=by
 unfold Zvx Zlp Zlh K0;by_cases h1:b.addr.live=true<;>by_cases h2:b.data_.live=true<;>by_cases h3:b.addr.who=i<;>by_cases h4:b.data_.who=i<;>simp[h1,h2,h3,h4]<;>rfl
theorem Ymj (n:Int):∃w,Zto n=some w/\((!(w.toList == ByteArray.empty.toList))=true↔(0<=n/\n<=3)):=by
 unfold Zto;rw[Xb,ZZa];by_cases h:0<=n/\n<=3
 .have:n=0\/n=1\/n=2\/n=3:=by omega
  rcases this with rfl|rfl|rfl|rfl<;>exact⟨_,rfl,by rw[Ykk,Ykk];decide⟩
 .rw[ZZj (by rw[decide_eq_false h];rfl)]
  exact⟨_,rfl,by simp[h]⟩
theorem Zjw {b:Za} (h1:b.m.length=b.conf.masters.length) (Ya:b.conf.masters.length < 1048577) (i:Int):Z4 i 0 (Xa (b.m.length:Int) 1)=some (Zu b.conf i):=by
 rw[Xb,h1,Zyo i Ya]
theorem Yjo (b:Za) (hs:b.sm) (hc:Xh b.conf=true) (h1:b.m.length=b.conf.masters.length) (h3:b.splits.length=b.conf.masters.length) (hm:∀i,Zu b.conf i=true->Zw7 b.conf b i):
  Y4 (Zcp b b.addr false) ((b.addr.live=true->Zae b b.addr)/\Ku b):=by
 have Ya:=Zcb hc;have hJ1:Q3 b b.addr false true=some false:=by unfold Q3;rw[ZZj rfl]
 unfold Zcp Ku;by_cases ha:b.addr.live=true
 .rw[ZZi (by simp[ha]),ZZj ha,Zjw h1 Ya,ZZa,Xb,ZZa]
  by_cases e1:Zu b.conf b.addr.who=true
  .rw[e1,ZZi (by simp)]
   by_cases e2:1<=b.addr.by_/\b.addr.by_<=3
   .rw[ZZi (by simpa using e2),Zp9 h3 e1,ZZa]
    have hsp:=(hm _ e1).split;by_cases e3:atI b.splits b.addr.who=0
    .rw[decide_eq_false (by omega)]
     have hrb:=K9 (hm _ e1).right;unfold Q3;rw[ZZi (by simp),Wc h1 e1,ZZa,ZZj (by simp),Y9 (by omega) (by omega)];by_cases f1:b.addr.beat=(atI b.m b.addr.who).beat - 1
     .by_cases f2:b.addr.left=0
      .by_cases f3:b.addr.resp=0
       .rw[ZZj (by simpa using f1),ZZj (by simpa using f2),ZZj (by simpa using f3)]
        refine .of ⟨λh=>⟨λ_=>⟨e1,e2,e3⟩,f1,f2,f3,by simpa using h⟩,λh=>by simpa using h.2.2.2.2⟩
       .rw[ZZj (by simpa using f1),ZZj (by simpa using f2),ZZi (by simpa using f3)]
        exact .no λh=>f3 h.2.2.2.1
      .rw[ZZj (by simpa using f1),ZZi (by simpa using f2)]
       exact .no λh=>f2 h.2.2.1
     .rw[ZZi (by simpa using f1)]
      exact .no λh=>f1 h.2.1
    .rw[decide_eq_true (by omega),hJ1]
     exact .no λh=>e3 (h.1 ha).2.2
   .rw[ZZj (by rw[decide_eq_false e2];rfl),hJ1]
    exact .no λh=>e2 (h.1 ha).2.1
  .rw[ZZj (by simpa using e1),hJ1]
   exact .no λh=>e1 (h.1 ha).1
 .rw[ZZj (by simpa using ha),ZZi ha]
  exact (Y4.of (Yg3 _)).iff ⟨λh=>⟨λh2=>absurd h2 ha,h⟩,λh=>h.2⟩
theorem Yjx (b:Za) (hs:b.sm) (hc:Xh b.conf=true) (h1:b.m.length=b.conf.masters.length) (h3:b.splits.length=b.conf.masters.length) (hm:∀i,Zu b.conf i=true->Zw7 b.conf b i):
  Y4 (Zcp b b.data_ true) ((b.data_.live=true->Zae b b.data_)/\Q4 b):=by
 have Ya:=Zcb hc;have hw:=(W5 hc).2.1;have hJ1:Q3 b b.data_ true true=some false:=by unfold Q3;rw[ZZj rfl]
 unfold Zcp Q4;by_cases ha:b.data_.live=true
 .rw[ZZi (by simp[ha]),ZZj ha,Zjw h1 Ya,ZZa,Xb,ZZa]
  by_cases e1:Zu b.conf b.data_.who=true
  .rw[e1,ZZi (by simp)]
   by_cases e2:1<=b.data_.by_/\b.data_.by_<=3
   .rw[ZZi (by simpa using e2),Zp9 h3 e1,ZZa]
    have hsp:=(hm _ e1).split;by_cases e3:atI b.splits b.data_.who=0
    .rw[decide_eq_false (by omega)]
     have hrb:=K9 (hm _ e1).right;have hJ2:Y4 (Yg b b.data_ true (atI b.m b.data_.who) false) ((b.data_.beat=(atI b.m b.data_.who).done/\(0<=b.data_.left/\b.data_.left<=b.conf.maxWait+2)/\(0<=b.data_.resp/\b.data_.resp<=3))/\(b.data_.second=true->b.data_.left=0/\b.data_.resp≠0)):=by
      unfold Yg;obtain⟨w,hw1,hw2⟩:=Ymj b.data_.resp;rw[ZZi (by simp),Xb,ZZa,hw1,ZZa,Ys (by omega) (by omega)];by_cases f1:b.data_.beat=(atI b.m b.data_.who).done
      .rw[ZZj (by simpa using f1)]
       by_cases f2:0<=b.data_.left/\b.data_.left<=b.conf.maxWait+2
       .rw[ZZj (by simpa using f2)]
        by_cases f3:0<=b.data_.resp/\b.data_.resp<=3
        .rw[ZZj (hw2.2 f3)]
         by_cases f4:b.data_.second=true
         .rw[ZZi (by simp[f4])]
          by_cases f5:b.data_.resp=0
          .rw[ZZi (by simpa using f5)]
           exact .no λh=>(h.2 f4).2 f5
          .rw[ZZj (by simpa using f5)]
           refine .of ⟨λh=>⟨⟨f1,f2,f3⟩,λ_=>⟨by simpa using h,f5⟩⟩,λh=>by simpa using (h.2 f4).1⟩
         .rw[ZZj (by simpa using f4)]
          exact .yes ⟨⟨f1,f2,f3⟩,λh=>absurd h f4⟩
        .rw[ZZi (λh=>f3 (hw2.1 h))]
         exact .no λh=>f3 h.1.2.2
       .rw[ZZi (by rw[decide_eq_false f2];simp)]
        exact .no λh=>f2 h.1.2.1
      .rw[ZZi (by simpa using f1)]
       exact .no λh=>f1 h.1.1
     have Yy3:Yg b b.data_ true (atI b.m b.data_.who) true=some false:=by unfold Yg;rw[ZZj rfl]
     have hS:Y4 (if b.data_.second=true then Yg b b.data_ true (atI b.m b.data_.who) b.addr.live else Yg b b.data_ true (atI b.m b.data_.who) false)
       ((b.data_.beat=(atI b.m b.data_.who).done/\(0<=b.data_.left/\b.data_.left<=b.conf.maxWait+2)/\(0<=b.data_.resp/\b.data_.resp<=3))/\(b.data_.second=true->b.data_.left=0/\b.data_.resp≠0/\b.addr.live=false)):=by
      by_cases f4:b.data_.second=true
      .rw[ZZj f4]
       by_cases f5:b.addr.live=true
       .rw[f5,Yy3]
        exact .no λh=>by have:=(h.2 f4).2.2;cases this
       .have f6:b.addr.live=false:=by simpa using f5
        rw[f6];exact hJ2.iff ⟨λh=>⟨h.1,λh2=>⟨(h.2 h2).1,(h.2 h2).2,rfl⟩⟩,λh=>⟨h.1,λh2=>⟨(h.2 h2).1,(h.2 h2).2.1⟩⟩⟩
      .rw[ZZi f4]
       exact hJ2.iff ⟨λh=>⟨h.1,λh2=>absurd h2 f4⟩,λh=>⟨h.1,λh2=>absurd h2 f4⟩⟩
     have hT:Y4 (if decide (b.data_.resp=3)=true then if (atI b.m b.data_.who).parted=true then Yg b b.data_ true (atI b.m b.data_.who) true else if decide (b.holder=b.data_.who)=true then Yg b b.data_ true (atI b.m b.data_.who) true else if b.data_.second=true then Yg b b.data_ true (atI b.m b.data_.who) b.addr.live else Yg b b.data_ true (atI b.m b.data_.who) false
       else if b.data_.second=true then Yg b b.data_ true (atI b.m b.data_.who) b.addr.live else Yg b b.data_ true (atI b.m b.data_.who) false)
       ((b.data_.resp=3->(atI b.m b.data_.who).parted=false/\b.data_.who≠b.holder)/\(b.data_.beat=(atI b.m b.data_.who).done/\(0<=b.data_.left/\b.data_.left<=b.conf.maxWait+2)/\(0<=b.data_.resp/\b.data_.resp<=3))/\(b.data_.second=true->b.data_.left=0/\b.data_.resp≠0/\b.addr.live=false)):=by
      by_cases f3:b.data_.resp=3
      .rw[ZZj (by simpa using f3)]
       by_cases f4:(atI b.m b.data_.who).parted=true
       .rw[ZZj f4,Yy3]
        exact .no λh=>by have:=(h.1 f3).1;rw[f4] at this;cases this
       .rw[ZZi f4]
        by_cases f5:b.holder=b.data_.who
        .rw[ZZj (by simpa using f5),Yy3]
         exact .no λh=>(h.1 f3).2 f5.symm
        .rw[ZZi (by simpa using f5)]
         exact hS.iff ⟨λh=>⟨λ_=>⟨by simpa using f4,λh2=>f5 h2.symm⟩,h⟩,λh=>h.2⟩
      .rw[ZZi (by simpa using f3)]
       exact hS.iff ⟨λh=>⟨λh2=>absurd h2 f3,h⟩,λh=>h.2⟩
     unfold Q3;rw[ZZi (by simp),Wc h1 e1,ZZa,ZZi (by simp)];by_cases f2:b.data_.resp=2
     .rw[ZZj (by simpa using f2)]
      by_cases f3:(atI b.m b.data_.who).tries≥b.conf.maxRetry
      .rw[ZZj (by simpa using f3),Yy3]
       exact .no λh=>by have:=h.2.2.1 f2;omega
      .rw[ZZi (by simpa using f3)]
       exact hT.iff ⟨λh=>⟨λ_=>⟨e1,e2,e3⟩,h.2.1,λ_=>by omega,h.1,h.2.2⟩,λh=>⟨h.2.2.2.1,h.2.1,h.2.2.2.2⟩⟩
     .rw[ZZi (by simpa using f2)]
      exact hT.iff ⟨λh=>⟨λ_=>⟨e1,e2,e3⟩,h.2.1,λh2=>absurd h2 f2,h.1,h.2.2⟩,λh=>⟨h.2.2.2.1,h.2.1,h.2.2.2.2⟩⟩
    .rw[decide_eq_true (by omega),hJ1]
     exact .no λh=>e3 (h.1 ha).2.2
   .rw[ZZj (by rw[decide_eq_false e2];rfl),hJ1]
    exact .no λh=>e2 (h.1 ha).2.1
  .rw[ZZj (by simpa using e1),hJ1]
   exact .no λh=>e1 (h.1 ha).1
 .rw[ZZj (by simpa using ha),ZZi ha]
  exact (Y4.of (Yg3 _)).iff ⟨λh=>⟨λh2=>absurd h2 ha,h⟩,λh=>h.2⟩
theorem Ygu (b:Za) (hc:Xh b.conf=true) (h1:b.m.length=b.conf.masters.length) (h3:b.splits.length=b.conf.masters.length) (hm:∀i,Zu b.conf i=true->Zw7 b.conf b i):Y4 (Zpa b) (Ziq b):=by
 have Yn:=Jw hc;have Ya:=Zcb hc;unfold Zpa Ziq;refine (Zpk (n:=b.m.length) (by omega) (P:=λk=>(atI b.m (k:Int)).beat > 0->Yk (atI b.m (k:Int))=true->b.holder=(k:Int))
  (Q:=if b.holder=-1 then b.held=0 else Zu b.conf b.holder=true/\Yk (atI b.m b.holder)=true/\atI b.splits b.holder=0/\(0<=b.held/\b.held<=b.conf.lockMost))
  (B:=Zjp b) (λm i=>rfl) (λk hk=>?_) λ_=>?_).iff ?_
 .have hmk:=mas (c:=b.conf) (k:=k) (by omega)
  have hr:=(hm _ hmk).right;unfold Zjp;simp only[ZZj (show decide ((k:Int) < (b.m.length:Int))=true by simpa using hk),Wc h1 hmk,ZZa];by_cases e1:(atI b.m (k:Int)).beat > 0
  .have hq:(atI b.m (k:Int)).queue≠[]:=by
    intro hq;have:=hr.none hq;omega
   have hq2:0 < (atI b.m (k:Int)).queue.length:=Vao.2 hq;rw[Xp (xs:=(atI b.m (k:Int)).queue) (by omega) (by omega)];simp only[ZZa,e1,decide_true,if_true];by_cases e2:(atI (atI b.m (k:Int)).queue 0).lock=true
   .by_cases e4:(atI b.m (k:Int)).broken=true
    .exact .inl ⟨λ_ h=>by simp[Yk,e4] at h,λκ=>by simp[e2,e4]⟩
    .by_cases e3:b.holder=(k:Int)
     .exact .inl ⟨λ_ _=>e3,λκ=>by simp[e2,e3,e4]⟩
     .exact .inr ⟨λh=>e3 (h trivial (by simp[Yk,hq,e2,e4])),λκ=>by simp[e2,e3,e4]⟩
   .exact .inl ⟨λ_ h=>by simp[Yk,e2] at h,λκ=>by simp[e2]⟩
  .exact .inl ⟨λh=>absurd h e1,λκ=>by simp[e1]⟩
 .unfold Zjp
  simp only[Int.lt_irrefl,decide_false,ZZf,if_false];by_cases e1:b.holder=-1
  .exact⟨decide (b.held=0),λκ=>by simp[e1],by simp[e1]⟩
  .simp only[e1,decide_false,ZZf,if_false,Zjw h1 Ya,ZZa,Xb]
   have hJt:Za8 b true=some false:=by unfold Za8;rw[ZZj rfl]
   by_cases e2:Zu b.conf b.holder=true
   .simp only[e2,Va7,ZZf,if_false]
    by_cases e5:0<=b.held/\b.held<=b.conf.lockMost
    .have hJ:Y4 (Za8 b false) (Yk (atI b.m b.holder)=true/\atI b.splits b.holder=0):=by
      unfold Za8;rw[ZZi (by simp),Wc h1 e2,ZZa];by_cases hq:(atI b.m b.holder).queue=[]
      .rw[ZZi (by simp[hq])]
       exact .no λh=>by simp[Yk,hq] at h
      .have hq2:0 < (atI b.m b.holder).queue.length:=Vao.2 hq
       rw[ZZj (by simp;omega),Xp (xs:=(atI b.m b.holder).queue) (by omega) (by omega),ZZa,Zp9 h3 e2,ZZa];by_cases e6:(atI (atI b.m b.holder).queue 0).lock=true
       .rw[ZZj e6]
        by_cases e7:(atI b.m b.holder).broken=true
        .rw[ZZi (by simp[e7])]
         exact .no λh=>by simp[Yk,e7] at h
        .rw[ZZj (by simp[e7])]
         exact .of (by simp[Yk,hq,e6,e7])
       .rw[ZZi e6]
        exact .no λh=>by simp[Yk,e6] at h
     obtain⟨r,Zw,Z6⟩:=hJ;refine⟨r,λκ=>by rw[decide_eq_true e5,Va7,Zw],?_⟩;rw[Z6];exact⟨λh=>⟨trivial,h.1,h.2,e5⟩,λh=>⟨h.2.1,h.2.2.1⟩⟩
    .refine⟨false,λκ=>by rw[decide_eq_false e5,Vbi,hJt],by simp[e5]⟩
   .exact⟨false,λκ=>by simp[e2,hJt],by simp[e2]⟩
 .rw[h1,<-Zyt (P:=λi=>(atI b.m i).beat > 0->Yk (atI b.m i)=true->b.holder=i)]
def doneR (c:Zh) (d:Zr):Prop:=Zu c d.who=true/\Wb d.addr d.size=true/\d.addr < 512/\Xt d.value d.size=true/\(d.resp=0\/d.resp=1)
theorem Ybw {b:Za} (h1:b.m.length=b.conf.masters.length) (Ya:b.conf.masters.length < 1048577) (d:Zr):(doneR b.conf d/\∀x:Option Bool,((Z4 d.who 0 (Xa (b.m.length:Int) 1)).bind λr530=>if (!r530)=true then some false else (Za3 d.addr d.size).bind λr538=>if (!r538)=true then some false else (Z4 d.addr 0 511).bind λr544=>if (!r544)=true then some false else (Ql d.size).bind λr552=>(Z4 d.value 0 (Xa r552 1)).bind λr554=>if (!r554)=true then some false else (Z4 d.resp 0 1).bind λr560=>if (!r560)=true then some false else x)=x)
  \/ (¬doneR b.conf d/\∀x:Option Bool,((Z4 d.who 0 (Xa (b.m.length:Int) 1)).bind λr530=>if (!r530)=true then some false else (Za3 d.addr d.size).bind λr538=>if (!r538)=true then some false else (Z4 d.addr 0 511).bind λr544=>if (!r544)=true then some false else (Ql d.size).bind λr552=>(Z4 d.value 0 (Xa r552 1)).bind λr554=>if (!r554)=true then some false else (Z4 d.resp 0 1).bind λr560=>if (!r560)=true then some false else x)=some false):=by
 simp only[Zjw h1 Ya,Zsp,Zbb,Zqr,Xb d.addr,Xb d.resp,ZZa];by_cases e3:Zu b.conf d.who=true
 .by_cases e4:Wb d.addr d.size=true
  .have e0:=(Zbx e4).2.1
   by_cases e5:d.addr < 512
   .have e5':0<=d.addr/\d.addr<=511:=by omega
    by_cases e6:Xt d.value d.size=true
    .by_cases e7:d.resp=0\/d.resp=1
     .have e7':0<=d.resp/\d.resp<=1:=by omega
      exact .inl ⟨⟨e3,e4,e5,e6,e7⟩,λx=>by simp[e3,e4,e5',e6,e7']⟩
     .have e7':¬(0<=d.resp/\d.resp<=1):=by omega
      exact .inr ⟨λh=>e7 h.2.2.2.2,λx=>by simp only[e3,e4,e5',e6,decide_eq_false e7',Va7,Vbi,ZZf,if_false,if_true,and_self,decide_true]⟩
    .exact .inr ⟨λh=>e6 h.2.2.2.1,λx=>by simp[e3,e4,e5',e6]⟩
   .have e5':¬(0<=d.addr/\d.addr<=511):=by omega
    exact .inr ⟨λh=>e5 h.2.2.1,λx=>by simp only[e3,e4,decide_eq_false e5',Va7,Vbi,ZZf,if_false,if_true]⟩
  .exact .inr ⟨λh=>e4 h.2.1,λx=>by simp[e3,e4]⟩
 .exact .inr ⟨λh=>e3 h.1,λx=>by simp[e3]⟩
theorem Yj3 (b:Za) (hc:Xh b.conf=true) (h1:b.m.length=b.conf.masters.length) (hl:b.log.length < 1048577) (hn:0<=b.now/\b.now<=4000):Y4 (Zs0 b) (Z5u b):=by
 have Ya:=Zcb hc;unfold Zs0;have:=Zpk (n:=b.log.length) (by omega) (P:=λk=>Z58 b.conf b.now (atI b.log (k:Int))/\(0 < k->Zdf b.log k < (atI b.log (k:Int)).cycle)) (Q:=True)
  (B:=Zk8 b) (L:=Zok b) (λm i=>rfl) (λk hk=>?_) λ_=>⟨true,λκ=>?_,by simp⟩
 .refine this.iff ?_
  rw[and_true,Yvo];constructor
  .intro h k hk
   refine⟨(h k hk).1,?_⟩;cases k with
   | zero=>have:=(h 0 hk).1.1.1;simp only[Zdf];omega
   | succ k=>exact (h (k+1) hk).2 (by omega)
  .intro h k hk
   exact⟨(h k hk).1,λ_=>(h k hk).2⟩
 .unfold Zk8
  simp only[ZZj (show decide ((k:Int) < (b.log.length:Int))=true by simpa using hk),Xp (xs:=b.log) (i:=(k:Int)) (by omega) (by omega),ZZa,Xb (atI b.log (k:Int)).cycle,Y9 (a:=b.now) (b:=1) (by omega) (by omega)];by_cases e1:0<=(atI b.log (k:Int)).cycle/\(atI b.log (k:Int)).cycle < b.now
  .have e1':0<=(atI b.log (k:Int)).cycle/\(atI b.log (k:Int)).cycle<=b.now - 1:=by omega
   simp only[e1',and_self,decide_true,Va7,ZZf,if_false];cases k with
   | zero=>
    simp only[show ¬(((0:Nat):Int) > 0) by omega,decide_false,ZZf,if_false];rcases Ybw h1 Ya (atI b.log ((0:Nat):Int)) with⟨h2,h3⟩|⟨h2,h3⟩
    .exact .inl ⟨⟨⟨e1,h2⟩,λh=>by omega⟩,λκ=>h3 _⟩
    .exact .inr ⟨λh=>h2 h.1.2,λκ=>h3 _⟩
   | succ k=>
    have ek:((k+1:Nat):Int) - 1=(k:Int):=by omega
    simp only[show ((k+1:Nat):Int) > 0 by omega,decide_true,if_true,Y9 (a:=((k+1:Nat):Int)) (b:=1) (by omega) (by omega),ek,Xp (xs:=b.log) (i:=(k:Int)) (by omega) (by omega),ZZa];by_cases e2:(atI b.log (k:Int)).cycle < (atI b.log ((k+1:Nat):Int)).cycle
    .have e2':¬(atI b.log ((k+1:Nat):Int)).cycle<=(atI b.log (k:Int)).cycle:=by omega
     simp only[e2',decide_false,ZZf,if_false];rcases Ybw h1 Ya (atI b.log ((k+1:Nat):Int)) with⟨h2,h3⟩|⟨h2,h3⟩
     .exact .inl ⟨⟨⟨e1,h2⟩,λh=>e2⟩,λκ=>h3 _⟩
     .exact .inr ⟨λh=>h2 h.1.2,λκ=>h3 _⟩
    .have e2':(atI b.log ((k+1:Nat):Int)).cycle<=(atI b.log (k:Int)).cycle:=by omega
     exact .inr ⟨λh=>e2 (h.2 (by omega)),λκ=>by simp only[e2',decide_true,if_true]⟩
  .have e1':¬(0<=(atI b.log (k:Int)).cycle/\(atI b.log (k:Int)).cycle<=b.now - 1):=by omega
   exact .inr ⟨λh=>e1 h.1.1,λκ=>by simp only[decide_eq_false e1',Vbi,if_true]⟩
 .unfold Zk8
  rw[ZZi (by simp)]
theorem Ymp (b:Za) (hs:b.sm):Y4 (Zng b) (Zkj b):=by
 have hJt:Wz b true=some false:=by unfold Wz;rw[ZZj rfl]
 unfold Zng;rw[Zgw _ hs.conf,ZZa];by_cases hc:Xh b.conf=true
 .have Yn:=Jw hc
  rw[hc,ZZi (by simp),Xb,ZZa];by_cases hn:0<=b.now/\b.now<=4000
  .rw[ZZi (by simpa using hn)]
   by_cases h1:b.m.length=b.conf.masters.length
   .rw[ZZi (by simp;omega)]
    by_cases h2:b.buckets.length=b.conf.masters.length
    .rw[ZZi (by simp;omega)]
     by_cases h3:b.splits.length=b.conf.masters.length
     .rw[ZZi (by simp;omega),Z5g _ _ hs.conf,ZZa]
      by_cases h4:Zab b.arb b.conf=true
      .rw[h4,ZZi (by simp),Xb,ZZa,Y9 (by omega) (by omega)]
       by_cases h5:b.last=-1\/Zu b.conf b.last=true
       .have h5':-1<=b.last/\b.last<=(b.conf.masters.length:Int) - 1:=by
         rcases h5 with h5|h5
         .omega
         .simp only[Zu,ZZl] at h5;omega
        rw[ZZi (by simpa using h5'),Z8u _ hs.model,ZZa];by_cases h6:Z0m b.model=true
        .rw[h6,ZZi (by simp)]
         by_cases h7:0<=b.picks
         .rw[ZZi (by simpa using h7)]
          by_cases h8:b.picks<=b.now
          .rw[decide_eq_false (by omega)]
           unfold Wz;rw[ZZi (by simp)];have Yy4:=Zpk (n:=b.conf.masters.length) (by omega) (P:=λk=>Zw7 b.conf b (k:Int)/\(atI b.m (k:Int)).beat - (atI b.m (k:Int)).done=K0 b (k:Int))
            (Q:=((b.data_.live=true->Zae b b.data_)/\Q4 b)/\((b.addr.live=true->Zae b b.addr)/\Ku b)/\Ziq b/\Z5u b) (B:=Zn7 b) (L:=Zp7 b) (λm i=>rfl) (λk hk=>?_) λhP=>?_
           .refine Yy4.iff ⟨λh=>?_,λh=>?_⟩
            .obtain⟨h9,h10,h11,h12,h13⟩:=h
             have hm:=(Zyt (c:=b.conf) (P:=λi=>Zw7 b.conf b i/\(atI b.m i).beat - (atI b.m i).done=K0 b i)).2 h9;exact⟨hc,hn,h1,h2,h3,λi hi=>(hm i hi).1,h4,h5,Zwp.1 h6,⟨h7,h8⟩,h11.1,h10.1,λi hi=>(hm i hi).2,h11.2,h10.2,h12,h13⟩
            .exact⟨λk hk=>⟨h.mst _ (mas hk),h.fly _ (mas hk)⟩,⟨h.dlive,h.data⟩,⟨h.alive,h.addr⟩,h.held,h.log⟩
           .have hm:=mas (c:=b.conf) (k:=k) hk
            have hms:=hs.mst _ (mem_m h1 hm);have hme:=Zea (Zhw hc hm);unfold Zn7;simp only[ZZj (show decide ((k:Int) < (b.conf.masters.length:Int))=true by simpa using hk),Wc h1 hm,Ya4 h2 hm,Zp9 h3 hm,Z1m hm,ZZa,Zqa _ ⟨hme.1,hme.2.1⟩,Xb,Yz1];unfold Z70;simp only[Zgw _ hs.conf,hc,if_true,ZZa,Zfn _ hms];by_cases e1:Zv8 (atI b.m (k:Int))=true
            .by_cases e2:(atI b.m (k:Int)).tries<=b.conf.maxRetry
             .by_cases e3:Yw (atI b.buckets (k:Int)) (atI b.conf.masters (k:Int))=true
              .by_cases e4:0<=atI b.splits (k:Int)/\atI b.splits (k:Int)<=b.conf.maxSplit
               .have hrb:=K9 (Ja.1 e1)
                rw[Y9 (by omega) (by omega)];by_cases e5:(atI b.m (k:Int)).beat - (atI b.m (k:Int)).done=K0 b (k:Int)
                .refine .inl ⟨⟨⟨Ja.1 e1,e2,e3,e4⟩,e5⟩,λκ=>?_⟩
                 simp[e1,e2,e3,e4,e5]
                .refine .inr ⟨λh=>e5 h.2,λκ=>?_⟩
                 simp[e1,e2,e3,e4,e5]
               .refine .inr ⟨λh=>e4 h.1.split,λκ=>?_⟩
                simp[e1,e2,e3,e4]
              .refine .inr ⟨λh=>e3 h.1.bucket,λκ=>?_⟩
               simp[e1,e2,e3]
             .refine .inr ⟨λh=>e2 h.1.tries,λκ=>?_⟩
              simp[e1,e2]
            .refine .inr ⟨λh=>e1 (Ja.2 h.1.right),λκ=>?_⟩
             simp[e1]
           .have hm:=(Zyt (c:=b.conf) (P:=λi=>Zw7 b.conf b i/\(atI b.m i).beat - (atI b.m i).done=K0 b i)).2 hP
            have hm1:∀i,Zu b.conf i=true->Zw7 b.conf b i:=λi hi=>(hm i hi).1;have hT:Y4 ((Zcp b b.data_ true).bind λr903=>if r903=true then (Zcp b b.addr false).bind λr908=>if r908=true then (Zpa b).bind λr912=>if r912=true then (Zs0 b).bind λr916=>some r916 else some false else some false else some false)
              (((b.data_.live=true->Zae b b.data_)/\Q4 b)/\((b.addr.live=true->Zae b b.addr)/\Ku b)/\Ziq b/\Z5u b):=by
             refine Y4.and (Yjx b hs hc h1 h3 hm1) λ_=>?_;refine Y4.and (Yjo b hs hc h1 h3 hm1) λ_=>?_;refine Y4.and (Ygu b hc h1 h3 hm1) λ_=>?_;obtain⟨r,h9,h10⟩:=Yj3 b hc h1 hs.log hn;rw[h9];exact .of h10
            obtain⟨r,h9,h10⟩:=hT;refine⟨r,λκ=>?_,h10⟩;unfold Zn7;rw[ZZi (by simp)];exact h9
          .rw[decide_eq_true (by omega),hJt]
           exact .no λh=>h8 h.picks.2
         .rw[ZZj (by simpa using h7),hJt]
          exact .no λh=>h7 h.picks.1
        .rw[ZZj (by simpa using h6),hJt]
         exact .no λh=>h6 (Zwp.2 h.model)
       .have h5':¬(-1<=b.last/\b.last<=(b.conf.masters.length:Int) - 1):=by
         intro h6;apply h5;simp only[Zu,ZZl];omega
        rw[ZZj (by rw[decide_eq_false h5'];rfl),hJt];exact .no λh=>h5 h.last
      .rw[ZZj (by simpa using h4),hJt]
       exact .no λh=>h4 h.arb
     .rw[ZZj (by simp;omega),hJt]
      exact .no λh=>h3 h.sl
    .rw[ZZj (by simp;omega),hJt]
     exact .no λh=>h2 h.bl
   .rw[ZZj (by simp;omega),hJt]
    exact .no λh=>h1 h.ml
  .rw[ZZj (by rw[decide_eq_false hn];rfl),hJt]
   exact .no λh=>hn h.now
 .rw[ZZj (by simpa using hc),hJt]
  exact .no λh=>hc h.conf
theorem Yd1 (b:Za) (hs:b.sm):∃r,Zq2 b=some r/\Zng b=some r/\(r=true↔Zkj b):=(Yme b hs).eq (Ymp b hs)
def Ziy (l:List Int) (k:Int):Int:=if l=[]\/k < 0 then 0 else atI l (k % (l.length:Int))
def Zp1 (c:Zh) (s:Ze) (k:Int):Int:=max 0 (min (Ziy s.waits k) c.maxWait)
def Zg8 (s:Ze) (k:Int):Int:=if Ziy s.says k=2\/Ziy s.says k=3 then Ziy s.says k else 0
def Zht (c:Zh) (s:Ze) (k:Int):Int:=max 1 (min (max 0 (min (Ziy s.waits k) 99)+1) c.maxSplit)
def Zk1 (b:Za):Zm:=
 Zm.mk b.now (if b.addr.live then X6 (atI b.m b.addr.who) b.addr.beat else -1) (if b.addr.live then (if b.addr.first then 2 else 3) else 0) (if b.addr.live then b.addr.who else -1)
  (if b.data_.live then X6 (atI b.m b.data_.who) b.data_.beat else -1) (if b.data_.live then b.data_.who else -1) true 0 (-1)
def Zbh (s:Ze) (t:Int):List Zl:=s.posts.filter λp=>decide (p.at_=t)
def Kw (b:Za) (p:Zl):Za:=if Zu b.conf p.who=true then {b with m:=b.m.set p.who.toNat (Jz (atI b.m p.who) p.req)} else b
def Xw (b:Za) (ps:List Zl):Za:=ps.foldl Kw b
def Xi (b:Za):Za:={b with splits:=b.splits.map λn=>max (n - 1) 0,buckets:=List.zipWith Zsv b.buckets b.conf.masters}
def Jo (b:Za):Za:=if b.holder=-1 then b else {b with held:=min (b.held+1) b.conf.lockMost}
def Yw8 (b:Za):Za:={b with holder:=-1,held:=0}
def Wf (b:Za) (x:Zg):Za:=
 if x.by_=1 then {b with m:=b.m.set x.who.toNat (Zbl (atI b.m x.who)),buckets:=b.buckets.set x.who.toNat (Zy7 (atI b.buckets x.who) (atI b.conf.masters x.who))}
 else if x.by_=2 then {b with m:=b.m.set x.who.toNat (Zbl (atI b.m x.who)),arb:=Zy3 b.arb b.conf x.who}
 else {b with m:=b.m.set x.who.toNat (Zbl (atI b.m x.who))}
def Zq4 (m:Zb) (k:Int):Int:=if (atI m.queue 0).write then atI (atI m.queue 0).data_ k else 0
def doG (b:Za) (x:Zg):Zj×Int×Int:=Ze2 b.model (atI (atI b.m x.who).queue 0).write (X6 (atI b.m x.who) x.beat) (atI (atI b.m x.who).queue 0).size (Zq4 (atI b.m x.who) x.beat)
def Ygf (b:Za) (x:Zg):Zr:=Zr.mk b.now x.who (atI (atI b.m x.who).queue 0).write (X6 (atI b.m x.who) x.beat) (atI (atI b.m x.who).queue 0).size (if x.resp=0 then (doG b x).2.1 else 0) x.resp
def Zf1 (b:Za) (x:Zg):Za:=
 {b with model:=if x.resp=0 then (doG b x).1 else b.model,log:=b.log++[Ygf b x],m:=b.m.set x.who.toNat (Jd (atI b.m x.who)),holder:=if b.holder=x.who/\(atI b.m x.who).done+1=Zz (atI b.m x.who) then -1 else b.holder,held:=if b.holder=x.who/\(atI b.m x.who).done+1=Zz (atI b.m x.who) then 0 else b.held}
def Z9 (b:Za) (s:Ze):Za×Bool×Int:=
 if b.data_.live=false then (b,true,0)
 else if b.data_.left > 0 then ({b with data_:={b.data_ with left:=b.data_.left - 1}},false,0)
 else if b.data_.resp≠0/\b.data_.second=false then
  (if b.addr.live then {Wf {b with data_:={b.data_ with second:=true}} b.addr with addr:=Zg.z0} else {b with data_:={b.data_ with second:=true}},false,b.data_.resp)
 else if b.data_.resp=2 then (Wf {b with data_:=Zg.z0,m:=b.m.set b.data_.who.toNat {atI b.m b.data_.who with tries:=(atI b.m b.data_.who).tries+1}} b.data_,true,b.data_.resp)
 else if b.data_.resp=3 then (Wf {b with data_:=Zg.z0,m:=b.m.set b.data_.who.toNat {atI b.m b.data_.who with parted:=true},splits:=b.splits.set b.data_.who.toNat (Zht b.conf s b.picks)} b.data_,true,b.data_.resp)
 else (Zf1 {b with data_:=Zg.z0} b.data_,true,b.data_.resp)
def Xe (b:Za):Za:=if b.holder≠-1/\b.held=b.conf.lockMost then Yw8 {b with m:=b.m.set b.holder.toNat {atI b.m b.holder with broken:=true}} else b
def Zdb (b:Za) (s:Ze) (x:Zg):Int×Int:=
 if (atI b.m x.who).broken=true\/Yy (X6 (atI b.m x.who) x.beat)=0 then (1,0) else
 (if Zg8 s b.picks=2/\Yy (X6 (atI b.m x.who) x.beat)≠3/\(atI b.m x.who).tries < b.conf.maxRetry then 2
  else if Zg8 s b.picks=3/\Yy (X6 (atI b.m x.who) x.beat)=2/\(atI b.m x.who).parted=false/\x.who≠b.holder then 3 else (doG b x).2.2,if Yy (X6 (atI b.m x.who) x.beat)=3 then Zp1 b.conf s b.picks+2 else Zp1 b.conf s b.picks)
def Qw (b:Za) (s:Ze):Za:=if b.addr.live then {b with data_:={b.addr with left:=(Zdb b s b.addr).2,resp:=(Zdb b s b.addr).1},addr:=Zg.z0,picks:=b.picks+1} else b
def Kh (b:Za) (i:Int):Bool:=Zpd (atI b.m i)&&(decide (atI b.splits i=0)&&(decide (b.holder=-1)||decide (b.holder=i)))
def Qt (b:Za):List Bool:=(List.range b.m.length).map λk:Nat=>Kh b (k:Int)
def Zar (b:Za) (k:Nat):Bool:=Kh b (k:Int)&&(Zfx (atI b.buckets (k:Int)) (atI b.conf.masters (k:Int))).2
def Zaf (b:Za):Int×Int×Za:=
 if b.holder≠-1/\Kh b b.holder=true then (b.holder,3,b)
 else match (List.range b.m.length).find? (Zar b) with
  | some k=>((k:Int),1,{b with buckets:=b.buckets.set k (Zfx (atI b.buckets (k:Int)) (atI b.conf.masters (k:Int))).1})
  | none=>if b.holder≠-1 then (-1,0,b) else ((Zc1 b.arb b.conf (Qt b)).2,2,{b with arb:=(Zc1 b.arb b.conf (Qt b)).1})
def Z6q (b:Za) (who by_:Int):Za:=
 {b with addr:=Zg.mk true who (atI b.m who).beat (decide ((atI b.m who).beat=0)||decide (b.last≠who)) by_ 0 0 false,holder:=if Yk (atI b.m who)=true/\b.holder=-1 then who else b.holder,held:=if Yk (atI b.m who)=true/\b.holder=-1 then 0 else b.held,m:=b.m.set who.toNat (X4 (atI b.m who)),last:=who}
def Je (b:Za):Int×Za:=if (Zaf b).1 < 0 then (-1,(Zaf b).2.2) else ((Zaf b).1,Z6q (Zaf b).2.2 (Zaf b).1 (Zaf b).2.1)
def Wu (b:Za) (s:Ze):Int×Za:=Je (Qw (Xe b) s)
def Kv (b:Za) (s:Ze):Za:=Jo (Xi (Xw b (Zbh s b.now)))
def Zkn (b:Za) (s:Ze):Za×Zm:=
 if (Z9 (Kv b s) s).2.1=true then
  ({(Wu (Z9 (Kv b s) s).1 s).2 with now:=b.now+1},{Zk1 b with resp:=(Z9 (Kv b s) s).2.2,got:=(Wu (Z9 (Kv b s) s).1 s).1})
 else ({(Z9 (Kv b s) s).1 with now:=b.now+1},{Zk1 b with ready:=false,resp:=(Z9 (Kv b s) s).2.2})
structure Y0 (n:Int) (b:Za):Prop where
 conf:Xh b.conf=true
 ml:b.m.length=b.conf.masters.length
 bl:b.buckets.length=b.conf.masters.length
 sl:b.splits.length=b.conf.masters.length
 mst:∀i,Zu b.conf i=true->Zw7 b.conf b i
 arb:Zab b.arb b.conf=true
 last:b.last=-1\/Zu b.conf b.last=true
 model:Zdn b.model
 alive:b.addr.live=true->Zae b b.addr
 dlive:b.data_.live=true->Zae b b.data_
 fly:∀i,Zu b.conf i=true->(atI b.m i).beat - (atI b.m i).done=K0 b i
 addr:Ku b
 data:Q4 b
 held:Ziq b
 log:(∀d∈b.log,Z58 b.conf n d)/\b.log.Pairwise λx y=>x.cycle < y.cycle
theorem Zkj.i {b:Za} (h:Zkj b):Y0 b.now b:=⟨h.conf,h.ml,h.bl,h.sl,h.mst,h.arb,h.last,h.model,h.alive,h.dlive,h.fly,h.addr,h.data,h.held,h.log⟩
theorem Z9h {α:Type} [Inhabited α] {xs:List α} {w i:Int} (a:α) (h0:0<=w) (h1:w < (xs.length:Int)) (hi:0<=i):atI (xs.set w.toNat a) i=if i=w then a else atI xs i:=by
 split
 .rename_i h;subst h;exact Zps a h0 h1
 .rename_i h;exact Ykg a h0 hi (λh2=>h h2.symm)
theorem Wa {c:Zh} {i:Int} (h:Zu c i=true):0<=i/\i < (c.masters.length:Int):=by simpa [Zu] using h
theorem Y0.at_m {n:Int} {b:Za} (h:Y0 n b) {w:Int} (hw:Zu b.conf w=true) (x:Zb) {i:Int} (hi:Zu b.conf i=true):atI (b.m.set w.toNat x) i=if i=w then x else atI b.m i:=by
 have h1:=Wa hw;have h2:=Wa hi;exact Z9h x h1.1 (by have:=h.ml;omega) h2.1
theorem Zbj {n:Int} {b:Za} (h:Y0 n b) (hl:b.addr.live=true):Zu b.conf b.addr.who=true:=(h.alive hl).1
theorem Qv {n:Int} {b:Za} (h:Y0 n b) (hl:b.data_.live=true):Zu b.conf b.data_.who=true:=(h.dlive hl).1
theorem Y00 {m:Zb} {r:Zi} (hq:m.queue≠[]):(Jz m r).queue≠[]/\atI (Jz m r).queue 0=atI m.queue 0:=by
 unfold Jz;split
 .exact⟨by simp,Ybl hq⟩
 .exact⟨hq,rfl⟩
theorem Yk3 (m:Zb) (r:Zi):(Jz m r).beat=m.beat/\(Jz m r).done=m.done/\(Jz m r).tries=m.tries/\(Jz m r).parted=m.parted/\(Jz m r).broken=m.broken:=by
 unfold Jz;split<;>exact⟨rfl,rfl,rfl,rfl,rfl⟩
theorem Yxa {m:Zb} {r:Zi} (hq:m.queue≠[]):Yk (Jz m r)=Yk m:=by
 have h:=Y00 (r:=r) hq;have h2:=Yk3 m r;unfold Yk;rw[h.2,h2.2.2.2.2];simp[h.1,hq]
theorem Yow {m:Zb} (h:Yk m=true):m.queue≠[]:=by
 intro hq;simp[Yk,hq] at h
theorem Ywz {n:Int} {b:Za} {p:Zl} (h:Y0 n b):Y0 n (Kw b p):=by
 unfold Kw;split
 .rename_i hw
  have ha:=λ{i} hi=>h.at_m hw (Jz (atI b.m p.who) p.req) (i:=i) hi;have hs:=Yk3 (atI b.m p.who) p.req;have hbd:∀i,Zu b.conf i=true->(atI (b.m.set p.who.toNat (Jz (atI b.m p.who) p.req)) i).beat=(atI b.m i).beat/\(atI (b.m.set p.who.toNat (Jz (atI b.m p.who) p.req)) i).done=(atI b.m i).done/\(atI (b.m.set p.who.toNat (Jz (atI b.m p.who) p.req)) i).tries=(atI b.m i).tries/\(atI (b.m.set p.who.toNat (Jz (atI b.m p.who) p.req)) i).parted=(atI b.m i).parted:=by
   intro i hi;rw[ha hi];split
   .rename_i e;subst e;exact⟨hs.1,hs.2.1,hs.2.2.1,hs.2.2.2.1⟩
   .exact⟨rfl,rfl,rfl,rfl⟩
  have hlk:∀i,Zu b.conf i=true->(atI b.m i).queue≠[]->Yk (atI (b.m.set p.who.toNat (Jz (atI b.m p.who) p.req)) i)=Yk (atI b.m i):=by
   intro i hi hq;rw[ha hi];split
   .rename_i e;subst e;exact Yxa hq
   .rfl
  refine⟨h.conf,by simp[h.ml],h.bl,h.sl,λi hi=>?_,h.arb,h.last,h.model,h.alive,h.dlive,λi hi=>?_,?_,?_,?_,h.log⟩
  .have hm:=h.mst i hi
   refine⟨?_,by have:=(hbd i hi).2.2.1;simp only at this ⊢;rw[this];exact hm.tries,hm.bucket,hm.split⟩;show Yv (atI (b.m.set p.who.toNat (Jz (atI b.m p.who) p.req)) i);rw[ha hi];split
   .exact Yw6 (h.mst _ hw).right
   .exact hm.right
  .show (atI (b.m.set p.who.toNat (Jz (atI b.m p.who) p.req)) i).beat - (atI (b.m.set p.who.toNat (Jz (atI b.m p.who) p.req)) i).done=K0 b i
   rw[(hbd i hi).1,(hbd i hi).2.1];exact h.fly i hi
  .have:=h.addr
   unfold Ku at this ⊢;simp only;by_cases hl:b.addr.live=true
   .rw[ZZj hl] at this ⊢
    rw[(hbd _ (Zbj h hl)).1];exact this
   .rw[ZZi hl] at this ⊢;exact this
  .have:=h.data
   unfold Q4 at this ⊢;simp only;by_cases hl:b.data_.live=true
   .rw[ZZj hl] at this ⊢
    have e:=hbd _ (Qv h hl);rw[e.2.1,e.2.2.1,e.2.2.2];exact this
   .rw[ZZi hl] at this ⊢;exact this
  .obtain⟨h1,h2⟩:=h.held
   refine⟨λi hi hb hk=>?_,?_⟩
   .simp only at hb hk
    have hi2:Zu b.conf i=true:=hi;rw[(hbd i hi2).1] at hb;have hq:(atI b.m i).queue≠[]:=by
     intro hq;have:=(h.mst i hi2).right.none hq;omega
    rw[hlk i hi2 hq] at hk;exact h1 i hi2 hb hk
   .simp only
    split
    .rename_i e;rw[ZZj e] at h2;exact h2
    .rename_i e
     rw[ZZi e] at h2;exact⟨h2.1,by rw[hlk _ h2.1 (Yow h2.2.1)];exact h2.2.1,h2.2.2⟩
 .exact h
theorem Zs4 {n:Int} {b:Za} (h:Y0 n b) (ps:List Zl):Y0 n (Xw b ps):=by
 induction ps generalizing b with
 | nil=>exact h
 | cons p ps ih=>exact ih (Ywz h)
theorem Yna (b:Za) (p:Zl):(Kw b p).conf=b.conf/\(Kw b p).now=b.now/\(Kw b p).picks=b.picks/\(Kw b p).log=b.log/\(Kw b p).model=b.model/\(Kw b p).holder=b.holder/\(Kw b p).held=b.held/\(Kw b p).addr=b.addr/\(Kw b p).data_=b.data_/\(Kw b p).splits=b.splits/\(Kw b p).buckets=b.buckets/\(Kw b p).arb=b.arb/\(Kw b p).last=b.last:=by
 unfold Kw;split<;>exact⟨rfl,rfl,rfl,rfl,rfl,rfl,rfl,rfl,rfl,rfl,rfl,rfl,rfl⟩
theorem Znb (b:Za) (ps:List Zl):(Xw b ps).conf=b.conf/\(Xw b ps).now=b.now/\(Xw b ps).picks=b.picks/\(Xw b ps).log=b.log/\(Xw b ps).model=b.model/\(Xw b ps).holder=b.holder/\(Xw b ps).held=b.held/\(Xw b ps).addr=b.addr/\(Xw b ps).data_=b.data_/\(Xw b ps).splits=b.splits/\(Xw b ps).buckets=b.buckets/\(Xw b ps).arb=b.arb/\(Xw b ps).last=b.last:=by
 induction ps generalizing b with
 | nil=>exact⟨rfl,rfl,rfl,rfl,rfl,rfl,rfl,rfl,rfl,rfl,rfl,rfl,rfl⟩
 | cons p ps ih=>
  have h1:=ih (Kw b p);have h2:=Yna b p;simp only[h2] at h1;exact h1
theorem at_map {α β:Type} [Inhabited α] [Inhabited β] (f:α->β) {xs:List α} {i:Int} (h0:0<=i) (h1:i < (xs.length:Int)):atI (xs.map f) i=f (atI xs i):=by
 obtain⟨k,rfl⟩:∃k:Nat,i=k:=⟨i.toNat,by omega⟩;have hk:k < xs.length:=by omega
 rw[X5 hk,X5 (by simpa using hk)];simp
theorem at_zip {α β γ:Type} [Inhabited α] [Inhabited β] [Inhabited γ] (f:α->β->γ) {xs:List α} {ys:List β} {i:Int} (h0:0<=i) (h1:i < (xs.length:Int)) (h2:i < (ys.length:Int)):atI (List.zipWith f xs ys) i=f (atI xs i) (atI ys i):=by
 obtain⟨k,rfl⟩:∃k:Nat,i=k:=⟨i.toNat,by omega⟩;have hk:k < xs.length:=by omega
 have hk2:k < ys.length:=by omega
 rw[X5 hk,X5 hk2,X5 (by simp;omega)];simp
theorem Z5o {n:Int} {b:Za} (h:Y0 n b):Y0 n (Xi b):=by
 have hsp:∀i,Zu b.conf i=true->atI (b.splits.map λn=>max (n - 1) 0) i=max (atI b.splits i - 1) 0:=λi hi=>by
  have:=Wa hi;exact at_map _ this.1 (by have:=h.sl;omega)
 have hbu:∀i,Zu b.conf i=true->atI (List.zipWith Zsv b.buckets b.conf.masters) i=Zsv (atI b.buckets i) (atI b.conf.masters i):=λi hi=>by
  have:=Wa hi;exact at_zip _ this.1 (by have:=h.bl;omega) this.2
 have h0:∀i,Zu b.conf i=true->atI b.splits i=0->atI (b.splits.map λn=>max (n - 1) 0) i=0:=λi hi e=>by rw[hsp i hi,e];rfl
 refine⟨h.conf,h.ml,by simp[Xi,h.bl],by simp[Xi,h.sl],λi hi=>?_,h.arb,h.last,h.model,λhl=>?_,λhl=>?_,h.fly,h.addr,h.data,?_,h.log⟩
 .have hm:=h.mst i hi
  refine⟨hm.right,hm.tries,?_,?_⟩
  .show Yw (atI (List.zipWith Zsv b.buckets b.conf.masters) i) _=true
   rw[hbu i hi];exact Y6g hm.bucket (Zhw h.conf hi)
  .show 0<=atI (b.splits.map λn=>max (n - 1) 0) i/\_
   have:=hm.split;have hx:=(W5 h.conf).2.2.2;show 0<=atI (b.splits.map λn=>max (n - 1) 0) i/\atI (b.splits.map λn=>max (n - 1) 0) i<=b.conf.maxSplit;rw[hsp i hi];omega
 .obtain⟨h1,h2,h3⟩:=h.alive hl
  exact⟨h1,h2,h0 _ h1 h3⟩
 .obtain⟨h1,h2,h3⟩:=h.dlive hl
  exact⟨h1,h2,h0 _ h1 h3⟩
 .obtain⟨h1,h2⟩:=h.held
  refine⟨h1,?_⟩;show if b.holder=-1 then b.held=0 else _
  split
  .rename_i e;rw[ZZj e] at h2;exact h2
  .rename_i e
   rw[ZZi e] at h2;exact⟨h2.1,h2.2.1,h0 _ h2.1 h2.2.2.1,h2.2.2.2⟩
theorem Yxz {n:Int} {b:Za} (h:Y0 n b):Y0 n (Jo b):=by
 unfold Jo;split
 .exact h
 .rename_i e
  refine⟨h.conf,h.ml,h.bl,h.sl,λi hi=>?_,h.arb,h.last,h.model,h.alive,h.dlive,h.fly,h.addr,h.data,?_,h.log⟩
  .have hm:=h.mst i hi;exact⟨hm.right,hm.tries,hm.bucket,hm.split⟩
  .obtain⟨h1,h2⟩:=h.held
   refine⟨h1,?_⟩;rw[ZZi e] at h2;show if b.holder=-1 then _ else _
   rw[ZZi e];have hl:=(W5 h.conf).2.2.1;refine⟨h2.1,h2.2.1,h2.2.2.1,?_⟩;have:=h2.2.2.2;show 0<=min (b.held+1) b.conf.lockMost/\min (b.held+1) b.conf.lockMost<=b.conf.lockMost;omega
theorem Yk0 {b b':Za} (h:Ziq b) (hc:b'.conf=b.conf) (hh:b'.holder=b.holder) (hd:b'.held=b.held)
  (hm:∀i,Zu b.conf i=true->Yk (atI b'.m i)=Yk (atI b.m i)/\((atI b'.m i).beat > 0->(atI b.m i).beat > 0)) (hs:b.holder≠-1->atI b.splits b.holder=0->atI b'.splits b.holder=0):Ziq b':=by
 obtain⟨h1,h2⟩:=h;unfold Ziq;rw[hc,hh,hd];refine⟨λi hi hb hk=>h1 i hi ((hm i hi).2 hb) (by rw[<-(hm i hi).1];exact hk),?_⟩;split
 .rename_i e;rw[ZZj e] at h2;exact h2
 .rename_i e
  rw[ZZi e] at h2;exact⟨h2.1,by rw[(hm _ h2.1).1];exact h2.2.1,hs e h2.2.2.1,h2.2.2.2⟩
theorem Ykp (m:Zb):(Zbl m).queue=m.queue/\(Zbl m).done=m.done/\(Zbl m).tries=m.tries/\(Zbl m).parted=m.parted/\(Zbl m).broken=m.broken:=by
 unfold Zbl;split<;>exact⟨rfl,rfl,rfl,rfl,rfl⟩
theorem Zsr {m m':Zb} (h1:m'.queue=m.queue) (h2:m'.broken=m.broken):Yk m'=Yk m:=by
 unfold Yk;rw[h1,h2]
structure Y56 (b r:Za) (x:Zg):Prop where
 conf:r.conf=b.conf
 m:r.m=b.m.set x.who.toNat (Zbl (atI b.m x.who))
 bl:r.buckets.length=b.conf.masters.length
 bk:∀i,Zu b.conf i=true->Yw (atI r.buckets i) (atI b.conf.masters i)=true
 arb:Zab r.arb b.conf=true
 splits:r.splits=b.splits
 holder:r.holder=b.holder
 held:r.held=b.held
 addr:r.addr=b.addr
 data:r.data_=b.data_
 model:r.model=b.model
 log:r.log=b.log
 last:r.last=b.last
 now:r.now=b.now
 picks:r.picks=b.picks
theorem Z82 {b:Za} {x:Zg} (hc:Xh b.conf=true) (hw:Zu b.conf x.who=true) (hbl:b.buckets.length=b.conf.masters.length) (hbk:∀i,Zu b.conf i=true->Yw (atI b.buckets i) (atI b.conf.masters i)=true) (har:Zab b.arb b.conf=true):Y56 b (Wf b x) x:=by
 have hb:=Wa hw;unfold Wf;split
 .refine⟨rfl,rfl,by simp[hbl],λi hi=>?_,har,rfl,rfl,rfl,rfl,rfl,rfl,rfl,rfl,rfl,rfl⟩
  show Yw (atI (b.buckets.set x.who.toNat _) i) _=true;rw[Z9h _ hb.1 (by omega) (Wa hi).1];split
  .rename_i e;subst e;exact Y3b (hbk _ hi) (Zhw hc hi)
  .exact hbk i hi
 .split
  .exact⟨rfl,rfl,hbl,hbk,Y2r _ har,rfl,rfl,rfl,rfl,rfl,rfl,rfl,rfl,rfl,rfl⟩
  .exact⟨rfl,rfl,hbl,hbk,har,rfl,rfl,rfl,rfl,rfl,rfl,rfl,rfl,rfl,rfl⟩
theorem Y0.mono {n:Int} {b:Za} (h:Y0 n b):Y0 (n+1) b:=
 ⟨h.conf,h.ml,h.bl,h.sl,h.mst,h.arb,h.last,h.model,h.alive,h.dlive,h.fly,h.addr,h.data,h.held,λd hd=>by have:=h.log.1 d hd;exact⟨⟨this.1.1,by have:=this.1.2;omega⟩,this.2⟩,h.log.2⟩
theorem Yu9 {n:Int} {b:Za} (h:Y0 n b) (hl:b.addr.live=true):(atI b.m b.addr.who).beat - (atI b.m b.addr.who).done≥1:=by
 rw[h.fly _ (Zbj h hl)];unfold K0;rw[ZZj ⟨hl,rfl⟩];split<;>omega
theorem Zul {n:Int} {b:Za} (h:Y0 n b) (hl:b.data_.live=true):(atI b.m b.data_.who).beat - (atI b.m b.data_.who).done≥1:=by
 rw[h.fly _ (Qv h hl)];unfold K0;rw[ZZj (⟨hl,rfl⟩:b.data_.live=true/\b.data_.who=b.data_.who)];split<;>omega
theorem Yyq {n:Int} {b:Za} (h:Y0 n b) (hd:b.data_.live=true) (hl:b.data_.left > 0):Y0 n {b with data_:={b.data_ with left:=b.data_.left - 1}}:=by
 refine⟨h.conf,h.ml,h.bl,h.sl,λi hi=>?_,h.arb,h.last,h.model,h.alive,λ_=>h.dlive hd,λi hi=>?_,h.addr,?_,h.held,h.log⟩
 .have hm:=h.mst i hi;exact⟨hm.right,hm.tries,hm.bucket,hm.split⟩
 .have:=h.fly i hi
  unfold K0 at this ⊢;exact this
 .have:=h.data
  unfold Q4 at this ⊢;rw[ZZj hd] at this;simp only;rw[ZZj hd];refine⟨⟨this.1.1,by have:=this.1.2.1;omega,this.1.2.2⟩,this.2.1,this.2.2.1,λhs=>?_⟩;have:=(this.2.2.2 hs).1;omega
theorem Yw1 {n:Int} {b:Za} (h:Y0 n b) (hd:b.data_.live=true) (hl:b.data_.left=0) (hr:b.data_.resp≠0):
  Y0 n (if b.addr.live then {Wf {b with data_:={b.data_ with second:=true}} b.addr with addr:=Zg.z0} else {b with data_:={b.data_ with second:=true}}):=by
 have Zaz:=h.data;unfold Q4 at Zaz;rw[ZZj hd] at Zaz;by_cases ha:b.addr.live=true
 .rw[ZZj ha]
  have hw:=Zbj h ha;have hb:=Wa hw;have hf:=Z82 (b:={b with data_:={b.data_ with second:=true}}) (x:=b.addr) h.conf hw h.bl (λi hi=>(h.mst i hi).bucket) h.arb;generalize Wf {b with data_:={b.data_ with second:=true}} b.addr=r at hf;have hat:∀i,Zu b.conf i=true->atI r.m i=if i=b.addr.who then Zbl (atI b.m b.addr.who) else atI b.m i:=λi hi=>by
   rw[hf.m];exact h.at_m hw _ hi
  have hs:=Ykp (atI b.m b.addr.who);have hsm:∀i,Zu b.conf i=true->(atI r.m i).queue=(atI b.m i).queue/\(atI r.m i).done=(atI b.m i).done/\(atI r.m i).tries=(atI b.m i).tries/\(atI r.m i).parted=(atI b.m i).parted/\(atI r.m i).broken=(atI b.m i).broken:=λi hi=>by
   rw[hat i hi];split
   .rename_i e;subst e;exact hs
   .exact⟨rfl,rfl,rfl,rfl,rfl⟩
  have hp:=Yu9 h ha;have hbt:(Zbl (atI b.m b.addr.who)).beat=(atI b.m b.addr.who).beat - 1:=by
   unfold Zbl;rw[ZZi (by omega)]
  refine⟨by rw[show ({r with addr:=Zg.z0}:Za).conf=r.conf from rfl,hf.conf];exact h.conf,?_,?_,?_,λi hi=>?_,?_,?_,?_,λhx=>?_,λhx=>?_,λi hi=>?_,?_,?_,?_,?_⟩
  .show r.m.length=r.conf.masters.length
   rw[hf.m,hf.conf];simp[h.ml]
  .show r.buckets.length=r.conf.masters.length
   rw[hf.bl,hf.conf]
  .show r.splits.length=r.conf.masters.length
   rw[hf.splits,hf.conf];exact h.sl
  .have Yl:Zu b.conf i=true:=by rw[<-show r.conf=b.conf from hf.conf];exact hi
   have hm:=h.mst i Yl;refine⟨?_,?_,?_,?_⟩
   .show Yv (atI r.m i)
    rw[hat i Yl];split
    .exact Ygh (h.mst _ hw).right
    .exact hm.right
   .show (atI r.m i).tries<=r.conf.maxRetry
    rw[(hsm i Yl).2.2.1,hf.conf];exact hm.tries
   .show Yw (atI r.buckets i) (atI r.conf.masters i)=true
    rw[hf.conf];exact hf.bk i Yl
   .show 0<=atI r.splits i/\atI r.splits i<=r.conf.maxSplit
    rw[hf.splits,hf.conf];exact hm.split
  .show Zab r.arb r.conf=true
   rw[hf.conf];exact hf.arb
  .show r.last=-1\/Zu r.conf r.last=true
   rw[hf.last,hf.conf];exact h.last
  .show Zdn r.model
   rw[hf.model];exact h.model
  .cases hx
  .have hx':r.data_.live=true:=hx
   obtain⟨h1,h2,h3⟩:=h.dlive hd;refine⟨?_,?_,?_⟩
   .show Zu r.conf r.data_.who=true
    rw[hf.conf,hf.data];exact h1
   .show 1<=r.data_.by_/\r.data_.by_<=3
    rw[hf.data];exact h2
   .show atI r.splits r.data_.who=0
    rw[hf.splits,hf.data];exact h3
  .have Yl:Zu b.conf i=true:=by rw[<-show r.conf=b.conf from hf.conf];exact hi
   show (atI r.m i).beat - (atI r.m i).done=K0 {r with addr:=Zg.z0} i;have Kf:=h.fly i Yl;unfold K0 at Kf ⊢;simp only[hf.data];rw[(hsm i Yl).2.1,hat i Yl];by_cases e:i=b.addr.who
   .subst e
    rw[ZZj rfl,hbt];rw[ZZj ⟨ha,rfl⟩] at Kf;simp only[ZZf,false_and,if_false];omega
   .rw[ZZi e]
    rw[ZZi (λhx=>e hx.2.symm)] at Kf;simp only[ZZf,false_and,if_false];exact Kf
  .unfold Ku
   simp
  .unfold Q4
   show if r.data_.live=true then _ else _
   simp only[hf.data,hf.conf,hf.holder];rw[ZZj hd];have e:=hsm _ (Qv h hd);rw[e.2.1,e.2.2.1,e.2.2.2.1];exact⟨Zaz.1,Zaz.2.1,Zaz.2.2.1,λ_=>⟨hl,hr,trivial⟩⟩
  .refine Yk0 (b:=b) h.held hf.conf hf.holder hf.held (λi hi=>⟨Zsr (hsm i hi).1 (hsm i hi).2.2.2.2,λhx=>?_⟩) (λ_ hx=>by show atI r.splits b.holder=0;rw[hf.splits];exact hx)
   show (atI b.m i).beat > 0;have hx':(atI r.m i).beat > 0:=hx;rw[hat i hi] at hx';split at hx'
   .rename_i e;subst e;rw[hbt] at hx';omega
   .exact hx'
  .show (∀d∈r.log,Z58 r.conf n d)/\r.log.Pairwise _
   rw[hf.log,hf.conf];exact h.log
 .rw[ZZi ha]
  refine⟨h.conf,h.ml,h.bl,h.sl,λi hi=>?_,h.arb,h.last,h.model,h.alive,λ_=>h.dlive hd,λi hi=>?_,h.addr,?_,h.held,h.log⟩
  .have hm:=h.mst i hi;exact⟨hm.right,hm.tries,hm.bucket,hm.split⟩
  .have:=h.fly i hi
   unfold K0 at this ⊢;exact this
  .unfold Q4
   simp only;rw[ZZj hd];exact⟨Zaz.1,Zaz.2.1,Zaz.2.2.1,λ_=>⟨hl,hr,by simpa using ha⟩⟩
theorem Yhr {n:Int} {b:Za} (h:Y0 n b) (hd:b.data_.live=true) (ha:b.addr.live=false) (x:Zb) (sp:List Int) (hq:x.queue=(atI b.m b.data_.who).queue) (hbe:x.beat=(atI b.m b.data_.who).beat) (hdo:x.done=(atI b.m b.data_.who).done) (hbr:x.broken=(atI b.m b.data_.who).broken)
  (ht:0<=x.tries/\x.tries<=b.conf.maxRetry) (hsl:sp.length=b.splits.length) (hsp:∀i,Zu b.conf i=true->0<=atI sp i/\atI sp i<=b.conf.maxSplit) (hsh:b.holder≠-1->atI b.splits b.holder=0->atI sp b.holder=0):
  Y0 n (Wf {b with data_:=Zg.z0,m:=b.m.set b.data_.who.toNat x,splits:=sp} b.data_):=by
 have hw:=Qv h hd;have hb:=Wa hw;have hf:=Z82 (b:={b with data_:=Zg.z0,m:=b.m.set b.data_.who.toNat x,splits:=sp}) (x:=b.data_) h.conf hw h.bl (λi hi=>(h.mst i hi).bucket) h.arb;generalize Wf {b with data_:=Zg.z0,m:=b.m.set b.data_.who.toNat x,splits:=sp} b.data_=r at hf;have hmw:=(h.mst _ hw).right;have hp:=Zul h hd;have Yh:(atI b.m b.data_.who).queue≠[]:=Zg2 hmw (by omega);have hxr:Yv x:=by
  have h2:=hmw.some Yh;refine⟨by rw[hq];exact hmw.len,ht.1,by rw[hq];exact hmw.reqs,λhx=>absurd (by rw[<-hq];exact hx) Yh,λ_=>?_⟩;have:Zz x=Zz (atI b.m b.data_.who):=by unfold Zz;rw[hq]
  rw[this,hbe,hdo];exact h2
 have hxx:atI (b.m.set b.data_.who.toNat x) b.data_.who=x:=Zps x hb.1 (by have:=h.ml;omega);have hat:∀i,Zu b.conf i=true->atI r.m i=if i=b.data_.who then Zbl x else atI b.m i:=λi hi=>by
  have Yl:=Wa hi;rw[hf.m];show atI ((b.m.set b.data_.who.toNat x).set b.data_.who.toNat (Zbl (atI (b.m.set b.data_.who.toNat x) b.data_.who))) i=_;rw[hxx,Vei];exact h.at_m hw _ hi
 have hs:=Ykp x;have hbt:(Zbl x).beat=(atI b.m b.data_.who).beat - 1:=by
  unfold Zbl;rw[ZZi (by rw[hbe,hdo];omega)];simp only[hbe]
 have hbz:Zg.z0.live=false:=rfl;refine⟨by rw[hf.conf];exact h.conf,?_,?_,?_,λi hi=>?_,?_,?_,?_,λhx=>?_,λhx=>?_,λi hi=>?_,?_,?_,?_,?_⟩
 .rw[hf.m,hf.conf];simp[h.ml]
 .rw[hf.bl,hf.conf]
 .rw[hf.splits,hf.conf];show sp.length=_;rw[hsl];exact h.sl
 .have Yl:Zu b.conf i=true:=by rw[<-show r.conf=b.conf from hf.conf];exact hi
  have hm:=h.mst i Yl;refine⟨?_,?_,?_,?_⟩
  .rw[hat i Yl]
   split
   .exact Ygh hxr
   .exact hm.right
  .rw[hat i Yl,hf.conf]
   split
   .rw[hs.2.2.1];exact ht.2
   .exact hm.tries
  .rw[hf.conf];exact hf.bk i Yl
  .rw[hf.splits,hf.conf];exact hsp i Yl
 .rw[hf.conf];exact hf.arb
 .rw[hf.last,hf.conf];exact h.last
 .rw[hf.model];exact h.model
 .rw[hf.addr] at hx;rw[show ({b with data_:=Zg.z0,m:=b.m.set b.data_.who.toNat x,splits:=sp}:Za).addr=b.addr from rfl,ha] at hx;cases hx
 .rw[hf.data] at hx;cases hx
 .have Yl:Zu b.conf i=true:=by rw[<-show r.conf=b.conf from hf.conf];exact hi
  have Kf:=h.fly i Yl;unfold K0 at Kf ⊢;rw[hf.data,hf.addr,hat i Yl];show _=(if b.addr.live=true/\b.addr.who=i then (1:Int) else 0)+(if Zg.z0.live=true/\Zg.z0.who=i then 1 else 0);rw[ha] at Kf ⊢;simp only[ZZf,false_and,if_false] at Kf ⊢;by_cases e:i=b.data_.who
  .subst e
   rw[ZZj rfl,hbt,hs.2.1,hdo];rw[ZZj (⟨hd,rfl⟩:b.data_.live=true/\b.data_.who=b.data_.who)] at Kf;omega
  .rw[ZZi e]
   rw[ZZi (λhx=>e hx.2.symm)] at Kf;exact Kf
 .have:=h.addr
  unfold Ku at this ⊢;rw[hf.addr];show if b.addr.live=true then _ else _
  rw[ha] at this ⊢;exact this
 .unfold Q4
  rw[hf.data];show if Zg.z0.live=true then _ else _
  rw[ZZi (by simp)]
 .refine Yk0 (b:=b) h.held hf.conf hf.holder hf.held (λi hi=>?_) (λh1 h2=>by rw[hf.splits];exact hsh h1 h2)
  rw[hat i hi];split
  .rename_i e;subst e
   refine⟨Zsr (by rw[hs.1,hq]) (by rw[hs.2.2.2.2,hbr]),λhx=>?_⟩;rw[hbt] at hx;omega
  .exact⟨rfl,id⟩
 .rw[hf.log,hf.conf];exact h.log
theorem Z7z {m:Zb} (h:Yv m) (hp:m.beat - m.done≥1):(m.done+1=Zz m->m.beat - m.done=1/\(Jd m).queue=m.queue.tail/\(Jd m).beat=0/\(Jd m).done=0/\(Jd m).tries=0)/\
  (m.done+1≠Zz m->(Jd m).queue=m.queue/\(Jd m).beat=m.beat/\(Jd m).done=m.done+1/\(Jd m).tries=0/\(Jd m).broken=m.broken/\(Jd m).parted=false):=by
 have h1:=h.some (Zg2 h (by omega));unfold Jd;constructor
 .intro e
  rw[ZZi (by omega),ZZj e];exact⟨by omega,rfl,rfl,rfl,rfl⟩
 .intro e
  rw[ZZi (by omega),ZZi e];exact⟨rfl,rfl,rfl,rfl,rfl,rfl⟩
theorem Yku {m:Zb} {k:Int} (h:Yv m) (h0:0<=k) (h1:k < Zz m) (hw:(atI m.queue 0).write=true):0<=k/\k < ((atI m.queue 0).data_.length:Int):=by
 have hq:m.queue≠[]:=by
  intro hq;unfold Zz at h1;rw[ZZj hq] at h1;omega
 obtain⟨h2,h3,h4⟩:=Zu1 h hq;have h5:=(Zik h2).2.1;rw[ZZj hw] at h5;omega
theorem Z79 {n:Int} {b:Za} (h:Y0 n b) (hd:b.data_.live=true):0<=b.data_.beat/\b.data_.beat < Zz (atI b.m b.data_.who):=by
 have hw:=Qv h hd;have hp:=Zul h hd;have hr:=(h.mst _ hw).right;have h1:=hr.some (Zg2 hr (by omega));have h2:=h.data;unfold Q4 at h2;rw[ZZj hd] at h2;rw[h2.1.1];omega
theorem Z7x {n:Int} {b:Za} (h:Y0 n b) (hl:b.addr.live=true):0<=b.addr.beat/\b.addr.beat < Zz (atI b.m b.addr.who):=by
 have hw:=Zbj h hl;have hp:=Yu9 h hl;have hr:=(h.mst _ hw).right;have h1:=hr.some (Zg2 hr (by omega));have h2:=h.addr;unfold Ku at h2;rw[ZZj hl] at h2;rw[h2.1];omega
theorem Yr2 {b:Za} (hn:0<=b.now) (h:Y0 b.now b) (hd:b.data_.live=true) (hr:b.data_.resp=0\/b.data_.resp=1) (Z3q:b.data_.resp≠0->b.addr.live=false):Y0 (b.now+1) (Zf1 {b with data_:=Zg.z0} b.data_):=by
 have hw:=Qv h hd;have hb:=Wa hw;have hmw:=(h.mst _ hw).right;have hp:=Zul h hd;have Yh:(atI b.m b.data_.who).queue≠[]:=Zg2 hmw (by omega);have hbt:=Z79 h hd;have had:=Yo1 hmw hbt.1 hbt.2;have Zaz:=h.data;unfold Q4 at Zaz;rw[ZZj hd] at Zaz;have Yy5:=Yhi (w:=(atI (atI b.m b.data_.who).queue 0).write) (v:=Zq4 (atI b.m b.data_.who) b.data_.beat) h.model had.2.1;have hef:=Z7z hmw hp;have hat:∀i,Zu b.conf i=true->atI (b.m.set b.data_.who.toNat (Jd (atI b.m b.data_.who))) i=if i=b.data_.who then Jd (atI b.m b.data_.who) else atI b.m i:=λi hi=>h.at_m hw _ hi
 have Y4g:(atI b.m b.data_.who).done+1=Zz (atI b.m b.data_.who)->b.addr.live=true->b.addr.who≠b.data_.who:=by
  intro e hl e2;have h1:=(hef.1 e).1;have h2:=h.fly _ hw;unfold K0 at h2;rw[ZZj (⟨hl,e2⟩:b.addr.live=true/\b.addr.who=b.data_.who),ZZj (⟨hd,rfl⟩:b.data_.live=true/\b.data_.who=b.data_.who)] at h2;omega
 have hz:Xt 0 (atI (atI b.m b.data_.who).queue 0).size=true:=by
  have h1:=(Zrd _).1 (Zbx had.2.1).1;generalize (atI (atI b.m b.data_.who).queue 0).size=s at h1;have:s=0\/s=1\/s=2:=by omega
  rcases this with rfl|rfl|rfl<;>decide
 refine⟨h.conf,?_,h.bl,h.sl,λi hi=>?_,h.arb,h.last,?_,h.alive,(λhx=>by cases hx),λi hi=>?_,?_,?_,?_,?_⟩
 .show (b.m.set b.data_.who.toNat (Jd (atI b.m b.data_.who))).length=_
  rw[Vbg];exact h.ml
 .have Yl:Zu b.conf i=true:=hi
  have hm:=h.mst i Yl;refine⟨?_,?_,hm.bucket,hm.split⟩
  .show Yv (atI (b.m.set b.data_.who.toNat (Jd (atI b.m b.data_.who))) i)
   rw[hat i Yl];split
   .exact Y0s hmw
   .exact hm.right
  .show (atI (b.m.set b.data_.who.toNat (Jd (atI b.m b.data_.who))) i).tries<=b.conf.maxRetry
   rw[hat i Yl];split
   .have hl:=(W5 h.conf).1
    by_cases e:(atI b.m b.data_.who).done+1=Zz (atI b.m b.data_.who)
    .rw[(hef.1 e).2.2.2.2];omega
    .rw[(hef.2 e).2.2.2.1];omega
   .exact hm.tries
 .show Zdn (if b.data_.resp=0 then (doG {b with data_:=Zg.z0} b.data_).1 else b.model)
  split
  .exact Yy5.1
  .exact h.model
 .have Yl:Zu b.conf i=true:=hi
  have Kf:=h.fly i Yl;show (atI (b.m.set b.data_.who.toNat (Jd (atI b.m b.data_.who))) i).beat - (atI (b.m.set b.data_.who.toNat (Jd (atI b.m b.data_.who))) i).done=K0 (Zf1 {b with data_:=Zg.z0} b.data_) i;unfold K0 at Kf ⊢;show _=(if b.addr.live=true/\b.addr.who=i then (1:Int) else 0)+(if Zg.z0.live=true/\Zg.z0.who=i then 1 else 0);rw[hat i Yl];simp only[ZZf,false_and,if_false];by_cases e:i=b.data_.who
  .subst e
   rw[ZZj rfl];rw[ZZj (⟨hd,rfl⟩:b.data_.live=true/\b.data_.who=b.data_.who)] at Kf;by_cases e2:(atI b.m b.data_.who).done+1=Zz (atI b.m b.data_.who)
   .rw[(hef.1 e2).2.2.1,(hef.1 e2).2.2.2.1,ZZi (λhx=>Y4g e2 hx.1 hx.2)]
    rfl
   .rw[(hef.2 e2).2.1,(hef.2 e2).2.2.1]
    omega
  .rw[ZZi e]
   rw[ZZi (λhx:b.data_.live=true/\b.data_.who=i=>e hx.2.symm)] at Kf;omega
 .have hA:=h.addr
  unfold Ku at hA ⊢;show if b.addr.live=true then _ else _
  by_cases hl:b.addr.live=true
  .rw[ZZj hl] at hA ⊢
   show b.addr.beat=(atI (b.m.set b.data_.who.toNat (Jd (atI b.m b.data_.who))) b.addr.who).beat - 1/\_;rw[hat _ (Zbj h hl)];split
   .rename_i e
    have e2:¬(atI b.m b.data_.who).done+1=Zz (atI b.m b.data_.who):=λe2=>Y4g e2 hl e;rw[(hef.2 e2).2.1,<-e];exact hA
   .exact hA
  .rw[ZZi hl] at hA ⊢;exact hA
 .unfold Q4
  show if Zg.z0.live=true then _ else _
  rw[ZZi (by simp)];rfl
 .obtain⟨h1,h2⟩:=h.held
  show Ziq (Zf1 {b with data_:=Zg.z0} b.data_);unfold Ziq;show (∀i,Zu b.conf i=true->(atI (b.m.set b.data_.who.toNat (Jd (atI b.m b.data_.who))) i).beat > 0->Yk (atI (b.m.set b.data_.who.toNat (Jd (atI b.m b.data_.who))) i)=true->(if b.holder=b.data_.who/\(atI b.m b.data_.who).done+1=Zz (atI b.m b.data_.who) then -1 else b.holder)=i)/\
   (if (if b.holder=b.data_.who/\(atI b.m b.data_.who).done+1=Zz (atI b.m b.data_.who) then -1 else b.holder)=-1 then (if b.holder=b.data_.who/\(atI b.m b.data_.who).done+1=Zz (atI b.m b.data_.who) then 0 else b.held)=0 else Zu b.conf (if b.holder=b.data_.who/\(atI b.m b.data_.who).done+1=Zz (atI b.m b.data_.who) then -1 else b.holder)=true/\Yk (atI (b.m.set b.data_.who.toNat (Jd (atI b.m b.data_.who))) (if b.holder=b.data_.who/\(atI b.m b.data_.who).done+1=Zz (atI b.m b.data_.who) then -1 else b.holder))=true/\atI b.splits (if b.holder=b.data_.who/\(atI b.m b.data_.who).done+1=Zz (atI b.m b.data_.who) then -1 else b.holder)=0/\(0<=(if b.holder=b.data_.who/\(atI b.m b.data_.who).done+1=Zz (atI b.m b.data_.who) then 0 else b.held)/\(if b.holder=b.data_.who/\(atI b.m b.data_.who).done+1=Zz (atI b.m b.data_.who) then 0 else b.held)<=b.conf.lockMost))
  have Zif:∀i,Zu b.conf i=true->(atI (b.m.set b.data_.who.toNat (Jd (atI b.m b.data_.who))) i).beat > 0->Yk (atI (b.m.set b.data_.who.toNat (Jd (atI b.m b.data_.who))) i)=true->b.holder=i/\¬(i=b.data_.who/\(atI b.m b.data_.who).done+1=Zz (atI b.m b.data_.who)):=by
   intro i hi hx hk;rw[hat i hi] at hx hk;by_cases e:i=b.data_.who
   .rw[ZZj e] at hx hk
    by_cases e2:(atI b.m b.data_.who).done+1=Zz (atI b.m b.data_.who)
    .rw[(hef.1 e2).2.2.1] at hx;omega
    .have e3:=hef.2 e2
     rw[e3.2.1] at hx;rw[Zsr e3.1 e3.2.2.2.2.1] at hk;subst e;exact⟨h1 _ hi hx hk,λhy=>e2 hy.2⟩
   .rw[ZZi e] at hx hk
    exact⟨h1 i hi hx hk,λhy=>e hy.1⟩
  by_cases e:b.holder=b.data_.who/\(atI b.m b.data_.who).done+1=Zz (atI b.m b.data_.who)
  .simp only[ZZj e,if_true]
   refine⟨λi hi hx hk=>?_,trivial⟩;have:=Zif i hi hx hk;exact absurd ⟨by rw[<-this.1];exact e.1,e.2⟩ this.2
  .simp only[ZZi e]
   refine⟨λi hi hx hk=>(Zif i hi hx hk).1,?_⟩;split
   .rename_i e2;rw[ZZj e2] at h2;exact h2
   .rename_i e2
    rw[ZZi e2] at h2;refine⟨h2.1,?_,h2.2.2.1,h2.2.2.2⟩;rw[hat _ h2.1];split
    .rename_i e3
     have e4:¬(atI b.m b.data_.who).done+1=Zz (atI b.m b.data_.who):=λe4=>e ⟨e3,e4⟩;rw[Zsr (hef.2 e4).1 (hef.2 e4).2.2.2.2.1,<-e3];exact h2.2.1
    .exact h2.2.1
 .show (∀d∈b.log++[Ygf {b with data_:=Zg.z0} b.data_],Z58 b.conf (b.now+1) d)/\(b.log++[Ygf {b with data_:=Zg.z0} b.data_]).Pairwise _
  refine⟨λd hx=>?_,?_⟩
  .rcases Vat.1 hx with hx|hx
   .have:=h.log.1 d hx
    exact⟨⟨this.1.1,by have:=this.1.2;omega⟩,this.2⟩
   .rw[List.mem_singleton.1 hx]
    refine⟨⟨hn,by show b.now < b.now+1;omega⟩,hw,had.2.1,had.2.2.2,?_,hr⟩;show Xt (if b.data_.resp=0 then (doG {b with data_:=Zg.z0} b.data_).2.1 else 0) (atI (atI b.m b.data_.who).queue 0).size=true;split
    .exact Yy5.2.1
    .exact hz
  .rw[List.pairwise_append]
   refine⟨h.log.2,List.pairwise_singleton _ _,λx hx y hy=>?_⟩;rw[List.mem_singleton.1 hy];exact (h.log.1 x hx).1.2
theorem Y2d {c:Zh} (h:Xh c=true) (s:Ze) (k:Int):1<=Zht c s k/\Zht c s k<=c.maxSplit:=by
 have:=(W5 h).2.2.2;unfold Zht;omega
theorem Z9f {b:Za} (s:Ze) (hn:0<=b.now) (h:Y0 b.now b):Y0 (b.now+1) (Z9 b s).1/\((Z9 b s).2.1=true->(Z9 b s).1.data_=Zg.z0):=by
 unfold Z9;by_cases hd:b.data_.live=false
 .rw[ZZj hd]
  refine⟨h.mono,λ_=>?_⟩;have:=h.data;unfold Q4 at this;rw[ZZi (by simp[hd])] at this;exact this
 .have hd':b.data_.live=true:=by simpa using hd
  have Zaz:=h.data;unfold Q4 at Zaz;rw[ZZj hd'] at Zaz;rw[ZZi hd];by_cases hl:b.data_.left > 0
  .rw[ZZj hl]
   exact⟨(Yyq h hd' hl).mono,λhx=>by cases hx⟩
  .have hl0:b.data_.left=0:=by have:=Zaz.1.2.1;omega
   rw[ZZi hl];by_cases h2:b.data_.resp≠0/\b.data_.second=false
   .rw[ZZj h2]
    exact⟨(Yw1 h hd' hl0 h2.1).mono,λhx=>by cases hx⟩
   .rw[ZZi h2]
    have Z3q:b.data_.resp≠0->b.addr.live=false:=λhr=>by
     have:b.data_.second=true:=by
      cases hs:b.data_.second with
      | true=>rfl
      | false=>exact absurd ⟨hr,hs⟩ h2
     exact (Zaz.2.2.2 this).2.2
    have hw:=Qv h hd';have hm:=h.mst _ hw;by_cases h3:b.data_.resp=2
    .rw[ZZj h3]
     refine⟨?_,λ_=>?_⟩
     .refine (Yhr h hd' (Z3q (by omega)) {atI b.m b.data_.who with tries:=(atI b.m b.data_.who).tries+1} b.splits rfl rfl rfl rfl ⟨?_,?_⟩ rfl (λi hi=>(h.mst i hi).split) λ_ h=>h).mono
      .have:=hm.right.tries;show 0<=(atI b.m b.data_.who).tries+1;omega
      .have:=Zaz.2.1 h3;show (atI b.m b.data_.who).tries+1<=_;omega
     .unfold Wf;split
      .rfl
      .split<;>rfl
    .rw[ZZi h3]
     by_cases h4:b.data_.resp=3
     .rw[ZZj h4]
      have hsp:=Y2d h.conf s b.picks;refine⟨?_,λ_=>?_⟩
      .refine (Yhr h hd' (Z3q (by omega)) {atI b.m b.data_.who with parted:=true} (b.splits.set b.data_.who.toNat (Zht b.conf s b.picks)) rfl rfl rfl rfl ⟨hm.right.tries,hm.tries⟩ (by simp) (λi hi=>?_) λh5 h6=>?_).mono
       .have hb:=Wa hw
        rw[Z9h _ hb.1 (by have:=h.sl;omega) (Wa hi).1];split
        .omega
        .exact (h.mst i hi).split
       .have hb:=Wa hw
        have hh:Zu b.conf b.holder=true:=by
         have:=h.held.2;rw[ZZi h5] at this;exact this.1
        rw[Z9h _ hb.1 (by have:=h.sl;omega) (Wa hh).1,ZZi (λe=>(Zaz.2.2.1 h4).2 e.symm)];exact h6
      .unfold Wf;split
       .rfl
       .split<;>rfl
     .rw[ZZi h4]
      exact⟨Yr2 hn h hd' (by have:=Zaz.1.2.2;omega) Z3q,λ_=>rfl⟩
theorem Ze1 {n:Int} {b:Za} (h:Y0 n b) (e:b.holder≠-1):Zu b.conf b.holder=true/\Yk (atI b.m b.holder)=true/\atI b.splits b.holder=0/\(0<=b.held/\b.held<=b.conf.lockMost):=by
 have:=h.held.2;rw[ZZi e] at this;exact this
theorem Yd2 {n:Int} {b:Za} (h:Y0 n b):Y0 n (Xe b):=by
 unfold Xe;split
 .rename_i hx
  obtain⟨hw,hlk,_,_⟩:=Ze1 h hx.1;have hb:=Wa hw;have hat:∀i,Zu b.conf i=true->atI (b.m.set b.holder.toNat {atI b.m b.holder with broken:=true}) i=if i=b.holder then {atI b.m b.holder with broken:=true} else atI b.m i:=λi hi=>h.at_m hw _ hi
  have hsm:∀i,Zu b.conf i=true->(atI (b.m.set b.holder.toNat {atI b.m b.holder with broken:=true}) i).beat=(atI b.m i).beat/\(atI (b.m.set b.holder.toNat {atI b.m b.holder with broken:=true}) i).done=(atI b.m i).done/\(atI (b.m.set b.holder.toNat {atI b.m b.holder with broken:=true}) i).tries=(atI b.m i).tries/\(atI (b.m.set b.holder.toNat {atI b.m b.holder with broken:=true}) i).parted=(atI b.m i).parted:=by
   intro i hi;rw[hat i hi];split
   .rename_i e;subst e;exact⟨rfl,rfl,rfl,rfl⟩
   .exact⟨rfl,rfl,rfl,rfl⟩
  refine⟨h.conf,?_,h.bl,h.sl,λi hi=>?_,h.arb,h.last,h.model,h.alive,h.dlive,λi hi=>?_,?_,?_,?_,h.log⟩
  .show (b.m.set b.holder.toNat _).length=_
   rw[Vbg];exact h.ml
  .have Yl:Zu b.conf i=true:=hi
   have hm:=h.mst i Yl;refine⟨?_,?_,hm.bucket,hm.split⟩
   .show Yv (atI (b.m.set b.holder.toNat {atI b.m b.holder with broken:=true}) i)
    rw[hat i Yl];split
    .have hr:=(h.mst _ hw).right
     exact⟨hr.len,hr.tries,hr.reqs,λhq=>absurd (show (atI b.m b.holder).queue=[] from hq) (Yow hlk),hr.some⟩
    .exact hm.right
   .show (atI (b.m.set b.holder.toNat {atI b.m b.holder with broken:=true}) i).tries<=b.conf.maxRetry
    rw[(hsm i Yl).2.2.1];exact hm.tries
  .have Yl:Zu b.conf i=true:=hi
   show (atI (b.m.set b.holder.toNat {atI b.m b.holder with broken:=true}) i).beat - (atI (b.m.set b.holder.toNat {atI b.m b.holder with broken:=true}) i).done=K0 b i;rw[(hsm i Yl).1,(hsm i Yl).2.1];exact h.fly i Yl
  .have:=h.addr
   unfold Ku at this ⊢;show if b.addr.live=true then b.addr.beat=(atI (b.m.set b.holder.toNat {atI b.m b.holder with broken:=true}) b.addr.who).beat - 1/\_ else _
   by_cases hl:b.addr.live=true
   .rw[ZZj hl] at this ⊢
    rw[(hsm _ (Zbj h hl)).1];exact this
   .rw[ZZi hl] at this ⊢;exact this
  .have:=h.data
   unfold Q4 at this ⊢;show if b.data_.live=true then _ else _
   by_cases hl:b.data_.live=true
   .rw[ZZj hl] at this ⊢
    have e:=hsm _ (Qv h hl);show (b.data_.beat=(atI (b.m.set b.holder.toNat {atI b.m b.holder with broken:=true}) b.data_.who).done/\_)/\(_->(atI (b.m.set b.holder.toNat {atI b.m b.holder with broken:=true}) b.data_.who).tries < _)/\(_->(atI (b.m.set b.holder.toNat {atI b.m b.holder with broken:=true}) b.data_.who).parted=false/\b.data_.who≠-1)/\_;rw[e.2.1,e.2.2.1,e.2.2.2];exact⟨this.1,this.2.1,λh3=>⟨(this.2.2.1 h3).1,by have:=Wa (Qv h hl);omega⟩,this.2.2.2⟩
   .rw[ZZi hl] at this ⊢;exact this
  .refine⟨λi hi hx2 hk=>?_,?_⟩
   .have Yl:Zu b.conf i=true:=hi
    have hx3:(atI (b.m.set b.holder.toNat {atI b.m b.holder with broken:=true}) i).beat > 0:=hx2;have hk3:Yk (atI (b.m.set b.holder.toNat {atI b.m b.holder with broken:=true}) i)=true:=hk;rw[hat i Yl] at hx3 hk3;split at hk3
    .simp[Yk] at hk3
    .rename_i e
     rw[ZZi e] at hx3;exact absurd (h.held.1 i Yl hx3 hk3).symm e
   .show if (-1:Int)=-1 then (0:Int)=0 else _
    rw[ZZj rfl]
 .exact h
theorem Zxs (b:Za):(Xe b).data_=b.data_/\(Xe b).addr=b.addr/\(Xe b).picks=b.picks/\(Xe b).now=b.now/\(Xe b).conf=b.conf/\(Xe b).log=b.log/\(Xe b).model=b.model:=by
 unfold Xe;split<;>exact⟨rfl,rfl,rfl,rfl,rfl,rfl,rfl⟩
theorem Yi3 {c:Zh} (h:Xh c=true) (s:Ze) (k:Int):0<=Zp1 c s k/\Zp1 c s k<=c.maxWait:=by
 have:=(W5 h).2.1;unfold Zp1;omega
theorem Y0o {n:Int} {b:Za} (h:Y0 n b) (s:Ze) (hl:b.addr.live=true):(0<=(Zdb b s b.addr).2/\(Zdb b s b.addr).2<=b.conf.maxWait+2)/\(0<=(Zdb b s b.addr).1/\(Zdb b s b.addr).1<=3)/\
  ((Zdb b s b.addr).1=2->(atI b.m b.addr.who).tries < b.conf.maxRetry)/\((Zdb b s b.addr).1=3->(atI b.m b.addr.who).parted=false/\b.addr.who≠b.holder):=by
 have hw:=Zbj h hl;have hm:=(h.mst _ hw).right;have hbt:=Z7x h hl;have had:=Yo1 hm hbt.1 hbt.2;have Yy5:=(Yhi (w:=(atI (atI b.m b.addr.who).queue 0).write) (v:=Zq4 (atI b.m b.addr.who) b.addr.beat) h.model had.2.1).2.2;have hwt:=Yi3 h.conf s b.picks;have hlm:=(W5 h.conf).2.1;have hdo:(doG b b.addr).2.2=0\/(doG b b.addr).2.2=1:=Yy5;unfold Zdb;split
 .exact⟨by simp;omega,by simp,by simp,by simp⟩
 .refine⟨?_,?_,?_,?_⟩
  .simp only
   split<;>omega
  .simp only
   repeat' split
   all_goals omega
  .simp only
   split
   .rename_i h1;exactλ_=>h1.2.2
   .split
    .intro h2;omega
    .intro h2;omega
  .simp only
   split
   .intro h2;omega
   .split
    .rename_i h1;exactλ_=>h1.2.2
    .intro h2;omega
theorem Ydy {n:Int} {b:Za} (h:Y0 n b) (s:Ze) (hd:b.data_=Zg.z0):Y0 n (Qw b s)/\(Qw b s).addr=Zg.z0:=by
 unfold Qw;by_cases hl:b.addr.live=true
 .rw[ZZj hl]
  refine⟨?_,rfl⟩;have hw:=Zbj h hl;have ha:=Y0o h s hl;have hA:=h.addr;unfold Ku at hA;rw[ZZj hl] at hA;have hdl:b.data_.live=false:=by rw[hd]
  have Yia:(atI b.m b.addr.who).beat - (atI b.m b.addr.who).done=1:=by
   rw[h.fly _ hw];unfold K0;rw[ZZj ⟨hl,rfl⟩,hdl];simp
  refine⟨h.conf,h.ml,h.bl,h.sl,λi hi=>?_,h.arb,h.last,h.model,(λhx=>by cases hx),λ_=>h.alive hl,λi hi=>?_,?_,?_,h.held,h.log⟩
  .have hm:=h.mst i hi;exact⟨hm.right,hm.tries,hm.bucket,hm.split⟩
  .have Kf:=h.fly i hi
   rw[Kf];unfold K0;simp only[hdl,hl,ZZf,false_and,if_false,true_and];omega
  .unfold Ku
   simp
  .unfold Q4
   show if b.addr.live=true then _ else _
   rw[ZZj hl];refine⟨⟨by show b.addr.beat=_;rw[hA.1];show (atI b.m b.addr.who).beat - 1=(atI b.m b.addr.who).done;omega,ha.1,ha.2.1⟩,ha.2.2.1,ha.2.2.2,λhs=>?_⟩;have:b.addr.second=true:=hs;rw[hA.2.2.2] at this;cases this
 .rw[ZZi hl]
  refine⟨h,?_⟩;have hA:=h.addr;unfold Ku at hA;rw[ZZi hl] at hA;exact hA
theorem Z5w (b:Za) (s:Ze):(Qw b s).now=b.now/\(Qw b s).conf=b.conf/\(Qw b s).log=b.log/\(Qw b s).model=b.model/\(Qw b s).m=b.m/\(Qw b s).splits=b.splits/\(Qw b s).holder=b.holder/\b.picks<=(Qw b s).picks/\(Qw b s).picks<=b.picks+1:=by
 unfold Qw;split
 .exact⟨rfl,rfl,rfl,rfl,rfl,rfl,rfl,by show b.picks<=b.picks+1;omega,Vdq _⟩
 .exact⟨rfl,rfl,rfl,rfl,rfl,rfl,rfl,Vdq _,by omega⟩
theorem Zdz (b:Za):(Qt b).length=b.m.length:=by simp[Qt]
theorem Zws {n:Int} {b:Za} (h:Y0 n b) {i:Int} (hi:Zu b.conf i=true):atI (Qt b) i=Kh b i:=by
 obtain⟨k,rfl,hk⟩:=Z3u hi;have:=h.ml;rw[X5 (by rw[Zdz];omega)];simp[Qt]
structure Picked (n:Int) (b:Za) (p:Int×Int×Za):Prop where
 ok:Y0 n p.2.2
 who:p.1=-1\/(Zu b.conf p.1=true/\Kh b p.1=true/\(1<=p.2.1/\p.2.1<=3))
 conf:p.2.2.conf=b.conf
 m:p.2.2.m=b.m
 splits:p.2.2.splits=b.splits
 holder:p.2.2.holder=b.holder
 held:p.2.2.held=b.held
 addr:p.2.2.addr=b.addr
 data:p.2.2.data_=b.data_
 model:p.2.2.model=b.model
 log:p.2.2.log=b.log
 last:p.2.2.last=b.last
 now:p.2.2.now=b.now
 picks:p.2.2.picks=b.picks
theorem Zwg {n:Int} {b:Za} (h:Y0 n b):Picked n b (Zaf b):=by
 unfold Zaf;split
 .rename_i hx
  exact⟨h,.inr ⟨(Ze1 h hx.1).1,hx.2,by simp⟩,rfl,rfl,rfl,rfl,rfl,rfl,rfl,rfl,rfl,rfl,rfl,rfl⟩
 .split
  .rename_i k hk
   have hk1:=List.find?_some hk;have hk2:=List.mem_of_find?_eq_some hk;rw[Vc7,h.ml] at hk2;simp only[Zar,ZZg] at hk1;have hm:=mas (c:=b.conf) hk2;have hmb:=Wa hm;refine⟨?_,.inr ⟨hm,hk1.1,by simp⟩,rfl,rfl,rfl,rfl,rfl,rfl,rfl,rfl,rfl,rfl,rfl,rfl⟩;refine⟨h.conf,h.ml,by show (b.buckets.set k _).length=_;rw[Vbg];exact h.bl,h.sl,λi hi=>?_,h.arb,h.last,h.model,h.alive,h.dlive,h.fly,h.addr,h.data,h.held,h.log⟩;have hmi:=h.mst i hi;refine⟨hmi.right,hmi.tries,?_,hmi.split⟩;show Yw (atI (b.buckets.set k (Zfx (atI b.buckets (k:Int)) (atI b.conf.masters (k:Int))).1) i) (atI b.conf.masters i)=true;have e:=Z9h (xs:=b.buckets) (w:=(k:Int)) (Zfx (atI b.buckets (k:Int)) (atI b.conf.masters (k:Int))).1 hmb.1 (by have:=h.bl;omega) (Wa hi).1;rw[Vbs] at e;rw[e];split
   .rename_i e2;subst e2;exact Y5d hmi.bucket (Zhw h.conf hi)
   .exact hmi.bucket
  .split
   .exact⟨h,.inl rfl,rfl,rfl,rfl,rfl,rfl,rfl,rfl,rfl,rfl,rfl,rfl,rfl⟩
   .have hp:=Y17 (wants:=Qt b) h.arb (by rw[Zdz,h.ml])
    refine⟨⟨h.conf,h.ml,h.bl,h.sl,λi hi=>?_,hp.1,h.last,h.model,h.alive,h.dlive,h.fly,h.addr,h.data,h.held,h.log⟩,?_,rfl,rfl,rfl,rfl,rfl,rfl,rfl,rfl,rfl,rfl,rfl,rfl⟩
    .have hmi:=h.mst i hi;exact⟨hmi.right,hmi.tries,hmi.bucket,hmi.split⟩
    .rcases hp.2 with hp2|hp2
     .exact .inl hp2
     .exact .inr ⟨hp2.1,by rw[<-Zws h hp2.1];exact hp2.2,by simp⟩
theorem Ygb {b:Za} {i:Int} (h:Kh b i=true):(atI b.m i).beat < Zz (atI b.m i)/\atI b.splits i=0/\(b.holder=-1\/b.holder=i):=by
 simp only[Kh,Zpd,ZZg,Vb4,ZZl] at h;exact⟨h.1,h.2.1,h.2.2⟩
theorem Yyc (m:Zb):(X4 m).queue=m.queue/\(X4 m).done=m.done/\(X4 m).tries=m.tries/\(X4 m).parted=m.parted/\(X4 m).broken=m.broken:=by
 unfold X4;split<;>exact⟨rfl,rfl,rfl,rfl,rfl⟩
theorem Y6h {n:Int} {b:Za} (h:Y0 n b) (ha:b.addr=Zg.z0) (Z3q:b.data_.second=false) {who by_:Int} (hw:Zu b.conf who=true) (Yib:Kh b who=true) (hby:1<=by_/\by_<=3):Y0 n (Z6q b who by_):=by
 obtain⟨w1,w2,w3⟩:=Ygb Yib;have hmw:=(h.mst _ hw).right;have hal:b.addr.live=false:=by rw[ha]
 have hfw:=h.fly _ hw;have hle:(atI b.m who).beat - (atI b.m who).done<=1:=by
  rw[hfw];unfold K0;rw[hal];simp only[ZZf,false_and,if_false];split<;>omega
 have hbt:(X4 (atI b.m who)).beat=(atI b.m who).beat+1:=by
  unfold X4;rw[ZZj ⟨w1,by omega⟩]
 have hs:=Yyc (atI b.m who);have hat:∀i,Zu b.conf i=true->atI (b.m.set who.toNat (X4 (atI b.m who))) i=if i=who then X4 (atI b.m who) else atI b.m i:=λi hi=>h.at_m hw _ hi
 have hsm:∀i,Zu b.conf i=true->(atI (b.m.set who.toNat (X4 (atI b.m who))) i).queue=(atI b.m i).queue/\(atI (b.m.set who.toNat (X4 (atI b.m who))) i).done=(atI b.m i).done/\(atI (b.m.set who.toNat (X4 (atI b.m who))) i).tries=(atI b.m i).tries/\(atI (b.m.set who.toNat (X4 (atI b.m who))) i).parted=(atI b.m i).parted/\(atI (b.m.set who.toNat (X4 (atI b.m who))) i).broken=(atI b.m i).broken:=λi hi=>by
  rw[hat i hi];split
  .rename_i e;subst e;exact hs
  .exact⟨rfl,rfl,rfl,rfl,rfl⟩
 have hmb:=Wa hw;refine⟨h.conf,?_,h.bl,h.sl,λi hi=>?_,h.arb,.inr hw,h.model,λ_=>⟨hw,hby,w2⟩,h.dlive,λi hi=>?_,?_,?_,?_,h.log⟩
 .show (b.m.set who.toNat _).length=_
  rw[Vbg];exact h.ml
 .have Yl:Zu b.conf i=true:=hi
  have hm:=h.mst i Yl;refine⟨?_,?_,hm.bucket,hm.split⟩
  .show Yv (atI (b.m.set who.toNat (X4 (atI b.m who))) i)
   rw[hat i Yl];split
   .exact Yue hmw
   .exact hm.right
  .show (atI (b.m.set who.toNat (X4 (atI b.m who))) i).tries<=_
   rw[(hsm i Yl).2.2.1];exact hm.tries
 .have Yl:Zu b.conf i=true:=hi
  have Kf:=h.fly i Yl;show (atI (b.m.set who.toNat (X4 (atI b.m who))) i).beat - (atI (b.m.set who.toNat (X4 (atI b.m who))) i).done=K0 (Z6q b who by_) i;rw[(hsm i Yl).2.1,hat i Yl];unfold K0 at Kf ⊢;rw[hal] at Kf;simp only[ZZf,false_and,if_false] at Kf;show _=(if (true:Bool)=true/\who=i then (1:Int) else 0)+(if b.data_.live=true/\b.data_.who=i then 1 else 0);simp only[true_and];by_cases e:i=who
  .subst e
   rw[ZZj rfl,ZZj rfl,hbt];omega
  .rw[ZZi e,ZZi (λe2=>e e2.symm)];omega
 .unfold Ku
  show if (true:Bool)=true then (atI b.m who).beat=(atI (b.m.set who.toNat (X4 (atI b.m who))) who).beat - 1/\_ else _
  rw[ZZj rfl,hat _ hw,ZZj rfl,hbt];exact⟨by omega,rfl,rfl,rfl⟩
 .have hD:=h.data
  unfold Q4 at hD ⊢;show if b.data_.live=true then _ else _
  by_cases hl:b.data_.live=true
  .rw[ZZj hl] at hD ⊢
   have e:=hsm _ (Qv h hl);show (b.data_.beat=(atI (b.m.set who.toNat (X4 (atI b.m who))) b.data_.who).done/\_)/\(_->(atI (b.m.set who.toNat (X4 (atI b.m who))) b.data_.who).tries < _)/\(_->(atI (b.m.set who.toNat (X4 (atI b.m who))) b.data_.who).parted=false/\b.data_.who≠(if Yk (atI b.m who)=true/\b.holder=-1 then who else b.holder))/\_;rw[e.2.1,e.2.2.1,e.2.2.2.1];refine⟨hD.1,hD.2.1,λh3=>⟨(hD.2.2.1 h3).1,?_⟩,λh4=>?_⟩
   .split
    .rename_i e2
     intro e3;have hp:=Zul h hl;have hr:=K9 (h.mst _ (Qv h hl)).right;have:=h.held.1 _ (Qv h hl) (by omega) (by rw[e3];exact e2.1);omega
    .exact (hD.2.2.1 h3).2
   .have:b.data_.second=true:=h4
    rw[Z3q] at this;cases this
  .rw[ZZi hl] at hD ⊢;exact hD
 .have hh:=h.held
  unfold Ziq at hh ⊢;show (∀i,Zu b.conf i=true->(atI (b.m.set who.toNat (X4 (atI b.m who))) i).beat > 0->Yk (atI (b.m.set who.toNat (X4 (atI b.m who))) i)=true->(if Yk (atI b.m who)=true/\b.holder=-1 then who else b.holder)=i)/\
   (if (if Yk (atI b.m who)=true/\b.holder=-1 then who else b.holder)=-1 then (if Yk (atI b.m who)=true/\b.holder=-1 then 0 else b.held)=0 else Zu b.conf (if Yk (atI b.m who)=true/\b.holder=-1 then who else b.holder)=true/\Yk (atI (b.m.set who.toNat (X4 (atI b.m who))) (if Yk (atI b.m who)=true/\b.holder=-1 then who else b.holder))=true/\atI b.splits (if Yk (atI b.m who)=true/\b.holder=-1 then who else b.holder)=0/\(0<=(if Yk (atI b.m who)=true/\b.holder=-1 then 0 else b.held)/\(if Yk (atI b.m who)=true/\b.holder=-1 then 0 else b.held)<=b.conf.lockMost))
  have hlk:∀i,Zu b.conf i=true->Yk (atI (b.m.set who.toNat (X4 (atI b.m who))) i)=Yk (atI b.m i):=λi hi=>Zsr (hsm i hi).1 (hsm i hi).2.2.2.2;have hlm:=(W5 h.conf).2.2.1;have Zif:∀i,Zu b.conf i=true->i≠who->(atI (b.m.set who.toNat (X4 (atI b.m who))) i).beat > 0->Yk (atI b.m i)=true->False:=by
   intro i hi e hx hk;rw[hat i hi,ZZi e] at hx;have:=hh.1 i hi hx hk;have:=Wa hi;omega
  by_cases e:Yk (atI b.m who)=true/\b.holder=-1
  .simp only[ZZj e]
   refine⟨λi hi hx hk=>?_,?_⟩
   .by_cases e2:i=who
    .exact e2.symm
    .rw[hlk i hi] at hk
     exact (Zif i hi e2 hx hk).elim
   .rw[ZZi (by omega)]
    exact⟨hw,by rw[hlk _ hw];exact e.1,w2,by omega,by omega⟩
  .simp only[ZZi e]
   refine⟨λi hi hx hk=>?_,?_⟩
   .rw[hlk i hi] at hk
    by_cases e2:i=who
    .subst e2
     rcases w3 with w3|w3
     .exact absurd ⟨hk,w3⟩ e
     .exact w3
    .exact (Zif i hi e2 hx hk).elim
   .have h2:=hh.2
    split
    .rename_i e2;rw[ZZj e2] at h2;exact h2
    .rename_i e2
     rw[ZZi e2] at h2;exact⟨h2.1,by rw[hlk _ h2.1];exact h2.2.1,h2.2.2⟩
theorem Y2c {n:Int} {b:Za} (h:Y0 n b) (ha:b.addr=Zg.z0) (Z3q:b.data_.second=false):Y0 n (Je b).2:=by
 have hp:=Zwg h;unfold Je;split
 .exact hp.ok
 .rename_i hx
  rcases hp.who with h1|h1
  .exact absurd (show (Zaf b).1 < 0 by rw[h1];decide) hx
  .refine Y6h hp.ok (by rw[hp.addr];exact ha) (by rw[hp.data];exact Z3q) (by rw[hp.conf];exact h1.1) ?_ h1.2.2
   have:=h1.2.1;unfold Kh at this ⊢;rw[hp.m,hp.splits,hp.holder];exact this
theorem Z6h {n:Int} {b:Za} (h:Y0 n b):(Je b).2.now=b.now/\(Je b).2.conf=b.conf/\(Je b).2.log=b.log/\(Je b).2.model=b.model/\(Je b).2.picks=b.picks/\(Je b).2.data_=b.data_:=by
 have hp:=Zwg h;unfold Je;split
 .exact⟨hp.now,hp.conf,hp.log,hp.model,hp.picks,hp.data⟩
 .exact⟨hp.now,hp.conf,hp.log,hp.model,hp.picks,hp.data⟩
theorem Y3e {n:Int} {b:Za} (h:Y0 n b) (s:Ze) (hd:b.data_=Zg.z0):Y0 n (Wu b s).2/\(Wu b s).2.now=b.now/\b.picks<=(Wu b s).2.picks/\(Wu b s).2.picks<=b.picks+1/\(Wu b s).2.conf=b.conf/\(Wu b s).2.log=b.log/\(Wu b s).2.model=b.model:=by
 have h1:=Yd2 h;have e1:=Zxs b;have h2:=Ydy h1 s (by rw[e1.1];exact hd);have e2:=Z5w (Xe b) s;have Z3q:(Qw (Xe b) s).data_.second=false:=by
  unfold Qw;split
  .rename_i hl
   have hA:=h1.addr;unfold Ku at hA;rw[ZZj hl] at hA;exact hA.2.2.2
  .rw[e1.1,hd]
 have h3:=Y2c h2.1 h2.2 Z3q;have e3:=Z6h h2.1;unfold Wu;exact⟨h3,by rw[e3.1,e2.1,e1.2.2.2.1],by rw[e3.2.2.2.2.1,<-e1.2.2.1];exact e2.2.2.2.2.2.2.2.1,by rw[e3.2.2.2.2.1,<-e1.2.2.1];exact e2.2.2.2.2.2.2.2.2,by rw[e3.2.1,e2.2.1,e1.2.2.2.2.1],by rw[e3.2.2.1,e2.2.2.1,e1.2.2.2.2.2.1],by rw[e3.2.2.2.1,e2.2.2.2.1,e1.2.2.2.2.2.2]⟩
theorem Yzo (b:Za):(Xi b).now=b.now/\(Xi b).conf=b.conf/\(Xi b).picks=b.picks/\(Xi b).log=b.log/\(Xi b).model=b.model/\(Xi b).m=b.m/\(Xi b).addr=b.addr/\(Xi b).data_=b.data_/\(Xi b).holder=b.holder:=⟨rfl,rfl,rfl,rfl,rfl,rfl,rfl,rfl,rfl⟩
theorem Yzv (b:Za):(Jo b).now=b.now/\(Jo b).conf=b.conf/\(Jo b).picks=b.picks/\(Jo b).log=b.log/\(Jo b).model=b.model/\(Jo b).m=b.m/\(Jo b).addr=b.addr/\(Jo b).data_=b.data_/\(Jo b).holder=b.holder:=by
 unfold Jo;split<;>exact⟨rfl,rfl,rfl,rfl,rfl,rfl,rfl,rfl,rfl⟩
theorem Z9q (b:Za) (s:Ze):(Kv b s).now=b.now/\(Kv b s).conf=b.conf/\(Kv b s).picks=b.picks/\(Kv b s).log=b.log/\(Kv b s).model=b.model/\(Kv b s).addr=b.addr/\(Kv b s).data_=b.data_/\(Kv b s).holder=b.holder:=by
 have h1:=Yzv (Xi (Xw b (Zbh s b.now)));have h2:=Yzo (Xw b (Zbh s b.now));have h3:=Znb b (Zbh s b.now);unfold Kv;refine⟨?_,?_,?_,?_,?_,?_,?_,?_⟩
 .rw[h1.1,h2.1,h3.2.1]
 .rw[h1.2.1,h2.2.1,h3.1]
 .rw[h1.2.2.1,h2.2.2.1,h3.2.2.1]
 .rw[h1.2.2.2.1,h2.2.2.2.1,h3.2.2.2.1]
 .rw[h1.2.2.2.2.1,h2.2.2.2.2.1,h3.2.2.2.2.1]
 .rw[h1.2.2.2.2.2.2.1,h2.2.2.2.2.2.2.1,h3.2.2.2.2.2.2.2.1]
 .rw[h1.2.2.2.2.2.2.2.1,h2.2.2.2.2.2.2.2.1,h3.2.2.2.2.2.2.2.2.1]
 .rw[h1.2.2.2.2.2.2.2.2,h2.2.2.2.2.2.2.2.2,h3.2.2.2.2.2.1]
theorem Yiw {b:Za} (h:Zkj b) (s:Ze):Y0 b.now (Kv b s):=Yxz (Z5o (Zs4 h.i _))
theorem Zxu (b:Za) (x:Zg):(Wf b x).now=b.now/\(Wf b x).picks=b.picks/\(Wf b x).conf=b.conf/\(Wf b x).log=b.log/\(Wf b x).model=b.model:=by
 unfold Wf;split
 .exact⟨rfl,rfl,rfl,rfl,rfl⟩
 .split<;>exact⟨rfl,rfl,rfl,rfl,rfl⟩
theorem Z55 (b:Za) (s:Ze):(Z9 b s).1.now=b.now/\(Z9 b s).1.picks=b.picks/\(Z9 b s).1.conf=b.conf:=by
 unfold Z9
 repeat' split
 all_goals first
  | exact⟨rfl,rfl,rfl⟩
  | exact⟨(Zxu _ _).1,(Zxu _ _).2.1,(Zxu _ _).2.2.1⟩
theorem Y6a {b:Za} (h:Zkj b) (s:Ze) (hn:b.now < 4000):Zkj (Zkn b s).1/\(Zkn b s).1.now=b.now+1/\(Zkn b s).1.conf=b.conf:=by
 have h1:=Yiw h s;have e1:=Z9q b s;have hI:Y0 (Kv b s).now (Kv b s):=by rw[e1.1];exact h1
 have h2:=Z9f s (by rw[e1.1];exact h.now.1) hI;have e2:=Z55 (Kv b s) s;have hp:=h.picks;have hnow:=h.now;unfold Zkn;rw[e1.1] at h2;by_cases hr:(Z9 (Kv b s) s).2.1=true
 .rw[ZZj hr]
  have h3:=Y3e h2.1 s (h2.2 hr);refine⟨?_,rfl,by show (Wu _ s).2.conf=_;rw[h3.2.2.2.2.1,e2.2.2,e1.2.1]⟩;have h4:=h3.1;have e3:(Z9 (Kv b s) s).1.picks=b.picks:=by rw[e2.2.1,e1.2.2.1]
  have h5:=h3.2.2.1;have h6:=h3.2.2.2.1;generalize (Wu (Z9 (Kv b s) s).1 s).2=r at h4 h5 h6 ⊢;exact⟨h4.conf,⟨by show 0<=b.now+1;omega,by show b.now+1<=4000;omega⟩,h4.ml,h4.bl,h4.sl,λi hi=>⟨(h4.mst i hi).right,(h4.mst i hi).tries,(h4.mst i hi).bucket,(h4.mst i hi).split⟩,h4.arb,h4.last,h4.model,⟨by show 0<=r.picks;omega,by show r.picks<=b.now+1;omega⟩,h4.alive,h4.dlive,h4.fly,h4.addr,h4.data,h4.held,h4.log⟩
 .rw[ZZi hr]
  refine⟨?_,rfl,by show (Z9 _ s).1.conf=_;rw[e2.2.2,e1.2.1]⟩;have h4:=h2.1;have e3:(Z9 (Kv b s) s).1.picks=b.picks:=by rw[e2.2.1,e1.2.2.1]
  generalize (Z9 (Kv b s) s).1=r at h4 e3 ⊢;exact⟨h4.conf,⟨by show 0<=b.now+1;omega,by show b.now+1<=4000;omega⟩,h4.ml,h4.bl,h4.sl,λi hi=>⟨(h4.mst i hi).right,(h4.mst i hi).tries,(h4.mst i hi).bucket,(h4.mst i hi).split⟩,h4.arb,h4.last,h4.model,⟨by show 0<=r.picks;omega,by show r.picks<=b.now+1;omega⟩,h4.alive,h4.dlive,h4.fly,h4.addr,h4.data,h4.held,h4.log⟩
structure Ze.sm (s:Ze):Prop where
 posts:s.posts.length < 1048577
 reqs:∀p∈s.posts,p.req.sm
 waits:s.waits.length < 1048577
 says:s.says.length < 1048577
 wmin:∀w∈s.waits,-9223372036854775808<=w/\w < 9223372036854775808
theorem Zt1 (l:List Int) (k:Int) (hl:l.length < 1048577):Zkc l k=some (Ziy l k):=by
 unfold Zkc Zky Ziy;by_cases h:l=[]
 .simp[h]
 .have h1:0 < l.length:=Vao.2 h
  rw[ZZi (by simpa using h)];by_cases h2:k < 0
  .simp[h2]
  .have h3:0<=k % (l.length:Int):=Vc3 _ (by omega)
   have h4:k % (l.length:Int) < (l.length:Int):=Vco _ (by omega);rw[Zwt (by omega),ZZa,Zeh (by omega),Xp h3 h4];simp[h,h2]
theorem Z75 (l:List Int) (k:Int) (hl:l.length < 1048577):Zz2 l k=some (Ziy l k):=by
 rw[<-Zt1 l k hl];rfl
theorem Yon {l:List Int} {k:Int} (h:∀w∈l,-9223372036854775808<=w/\w < 9223372036854775808):-9223372036854775808<=Ziy l k/\Ziy l k < 9223372036854775808:=by
 unfold Ziy;split
 .omega
 .rename_i hx
  have h1:l≠[]:=λe=>hx (.inl e);have h2:0 < l.length:=Vao.2 h1;exact h _ (Zj0 (Vc3 _ (by omega)) (Vco _ (by omega)))
theorem Yr6 (c:Zh) {s:Ze} (k:Int) (hs:s.sm):Zxp c s k=some (Zp1 c s k):=by
 unfold Zxp Zp1;rw[Zt1 _ _ hs.waits,ZZa,Znp,Zcl]
theorem Ys7 (c:Zh) {s:Ze} (k:Int) (hs:s.sm):Zx6 c s k=some (Zp1 c s k):=by
 unfold Zx6 Zp1;rw[Z75 _ _ hs.waits,ZZa,Znp,Zcl,Vdn]
theorem Ys6 {s:Ze} (k:Int) (hs:s.sm):Zx8 s k=some (Zg8 s k):=by
 unfold Zx8 Zg8;rw[Zt1 _ _ hs.says,ZZa];by_cases h1:Ziy s.says k=2
 .simp[h1]
 .by_cases h2:Ziy s.says k=3<;>simp[h1,h2]
theorem Ysi {s:Ze} (k:Int) (hs:s.sm):Zxr s k=some (Zg8 s k):=by
 unfold Zxr Zg8;rw[Z75 _ _ hs.says,ZZa];by_cases h1:Ziy s.says k=2
 .simp[h1]
 .by_cases h2:Ziy s.says k=3<;>simp[h1,h2]
theorem Yov (c:Zh) {s:Ze} (k:Int) (hs:s.sm):Zva c s k=some (Zht c s k):=by
 have h:=Yon (k:=k) hs.wmin;unfold Zva Zht;rw[Zt1 _ _ hs.waits,ZZa,Znp,Zcl,Znp,Zcl,Ys (by omega) (by omega)]
theorem Yot (c:Zh) {s:Ze} (k:Int) (hs:s.sm):Zv0 c s k=some (Zht c s k):=by
 have h:=Yon (k:=k) hs.wmin;unfold Zv0 Zht;rw[Z75 _ _ hs.waits,ZZa,Znp,Zcl,Zcl,Ys (by omega) (by omega)]
 congr 1
 omega
theorem Ybq {α:Type} (p:α->Bool) (xs:List α) (k:Nat) (hk:k < xs.length):(xs.take (k+1)).filter p=(xs.take k).filter p++(if p xs[k] then [xs[k]] else []):=by
 rw[List.take_succ_eq_append_getElem hk,Vc4];cases hq:p xs[k]<;>simp[hq]
theorem Yqd (s:Ze) (t:Int) (hs:s.sm):Zvl s t=some (Zbh s t):=by
 unfold Zvl Zbh;have hp:=hs.posts;refine Zbv (σ:=List Zl) (n:=s.posts.length) (by omega) (λk=>(s.posts.take k).filter λp=>decide (p.at_=t)) (B:=Zjj s t) (L:=Zk4 s t) (λm s i=>rfl) (λk hk κ=>?_) λκ=>?_
 .unfold Zjj
  have Yn:((s.posts.take k).filter λp=>decide (p.at_=t)).length<=k:=Vb6 (Vbu ..) (by rw[Vbw];omega);rw[ZZj (by simpa using hk),Xc hk,ZZa,Ybq _ _ _ hk,Z88 _ (hs.reqs _ (Vaq hk)),ZZa];by_cases e:s.posts[k].at_=t
  .rw[ZZj (by simpa using e),Wg (by simp only[Vaa,Vap];omega) (by simp only[Vaa,Vap];omega),ZZa,ZZj (decide_eq_true e)]
  .rw[ZZi (by simpa using e),ZZi (by simpa using e),Vb3]
 .unfold Zjj
  rw[ZZi (by simp),Vbq]
theorem Yo3 (s:Ze) (t:Int) (hs:s.sm):Zu8 s t=some (Zbh s t):=by
 unfold Zu8 Zbh;have hp:=hs.posts;refine Zbv (σ:=List Zl) (n:=s.posts.length) (by omega) (λk=>(s.posts.take k).filter λp=>decide (p.at_=t)) (B:=Zjb s t) (L:=Zlw s t) (λm s i=>rfl) (λk hk κ=>?_) λκ=>?_
 .unfold Zjb
  have Yn:((s.posts.take k).filter λp=>decide (p.at_=t)).length<=k:=Vb6 (Vbu ..) (by rw[Vbw];omega);rw[ZZj (by simpa using hk),Xc hk,ZZa,Ybq _ _ _ hk,Z8y _ (hs.reqs _ (Vaq hk)),ZZa];by_cases e:s.posts[k].at_=t
  .rw[ZZj (by simpa using e),Wg (by simp only[Vaa,Vap];omega) (by simp only[Vaa,Vap];omega),ZZa,ZZj (decide_eq_true e)]
  .rw[ZZi (by simpa using e),ZZi (by simpa using e),Vb3]
 .unfold Zjb
  rw[ZZi (by simp),Vbq]
theorem Ypj {s:Ze} (hs:s.sm) (t:Int):(Zbh s t).length < 1048577/\∀p∈Zbh s t,p.req.sm:=by
 have hp:=hs.posts;refine⟨Nat.lt_of_le_of_lt (Vbu ..) hp,λp hx=>hs.reqs p ?_⟩;unfold Zbh at hx;exact (Vb5.1 hx).1
theorem Z7q (b:Za) (ps:List Zl) (k:Nat) (hk:k < ps.length):Xw b (ps.take (k+1))=Kw (Xw b (ps.take k)) ps[k]:=by
 unfold Xw;rw[List.take_succ_eq_append_getElem hk,List.foldl_append];rfl
theorem Z12 (c:Zh) (h:c.masters.length < 1048577):Zpc c=some c/\Zs5 c=some c:=by
 unfold Zpc Zad Zs5;rw[Wg (by simp;omega) (by simp;omega)];exact⟨rfl,rfl⟩
theorem Yo0 (xs:List Zr) (h:xs.length < 1048577):X1 56 [] xs=some xs:=by
 rw[Wg (by simp;omega) (by simp;omega)];rfl
theorem Yoo (xs:List Zf) (h:xs.length < 1048577):X1 16 [] xs=some xs:=by
 rw[Wg (by simp;omega) (by simp;omega)];rfl
theorem Ycv (b:Za) (hs:b.sm):Zsw b=some b:=by
 unfold Zsw;rw[(Z12 b.conf hs.conf).1,ZZa];have:=hs.ml;refine (Zbv (σ:=Za×List Zb) (n:=b.m.length) (by omega) (λk=>(b,b.m.take k)) (B:=λκ s i=>Zll b (λx y i=>κ (x,y) i) s.1 s.2 i) (L:=λm s i=>Zh6 b m s.1 s.2 i) (λm s i=>rfl) (λk hk κ=>?_) λκ=>?_:Zh6 b FU b [] 0=some b)
 .unfold Zll
  have Yn:(b.m.take k).length=k:=by rw[Vbw];omega
  simp only;rw[ZZj (by simpa using hk),Xc hk,ZZa,Zo7 _ (hs.mst _ (Vaq hk)),ZZa,Wg (by simp only[Vaa,Vap];omega) (by simp only[Vaa,Vap];omega),ZZa,<-List.take_succ_eq_append_getElem hk]
 .unfold Zll Js Za6
  simp only;rw[ZZi (by simp),Yoo _ hs.bl,ZZa,Zuo _ hs.sl,ZZa,Zw3 _ hs.model,ZZa,Yo0 _ hs.log,ZZa,Vbq]
theorem Z8s (b:Za) (hs:b.sm):Zo6 b=some b:=by
 unfold Zo6;rw[(Z12 b.conf hs.conf).2,ZZa];have:=hs.ml;refine (Zbv (σ:=Za) (n:=b.m.length) (by omega) (λk=>{b with m:=b.m.take k}) (B:=Zjr b) (L:=Zgk b) (λm s i=>rfl) (λk hk κ=>?_) λκ=>?_:Zgk b FU {b with m:=[]} 0=some b)
 .unfold Zjr
  have Yn:(b.m.take k).length=k:=by rw[Vbw];omega
  simp only;rw[ZZj (by simpa using hk),Xc hk,ZZa,Zmu _ (hs.mst _ (Vaq hk)),ZZa,Wg (by simp only[Vaa,Vap];omega) (by simp only[Vaa,Vap];omega),ZZa,<-List.take_succ_eq_append_getElem hk]
 .unfold Zjr
  simp only;rw[ZZi (by simp),Yoo _ hs.bl,ZZa,Z34 _ hs.sl,ZZa,Yca _ hs.model,ZZa,Yo0 _ hs.log,ZZa,Vbq]
theorem Yas {c:Zh} {n:Int} (hn:n<=4001) {l:List Zr} (h:(∀d∈l,Z58 c n d)/\l.Pairwise λx y=>x.cycle < y.cycle):l.length<=4001:=by
 have key:∀(l:List Zr) (a:Int),(∀d∈l,a<=d.cycle/\d.cycle < n)->(l.Pairwise λx y=>x.cycle < y.cycle)->l≠[]->(l.length:Int)<=n - a:=by
  intro l
  induction l with
  | nil=>intro a _ _ h;exact absurd rfl h
  | cons x xs ih=>
   intro a h1 h2 _;have h3:=h1 x (Vab ..);by_cases hx:xs=[]
   .subst hx;simp;omega
   .have h4:=List.pairwise_cons.1 h2
    have:=ih (x.cycle+1) (λd hd=>⟨by have:=h4.1 d hd;omega,(h1 d (Vad _ hd)).2⟩) h4.2 hx;simp only[Vaa];omega
 by_cases hx:l=[]
 .subst hx;simp
 .have:=key l 0 (λd hd=>(h.1 d hd).1) h.2 hx
  omega
theorem Y0.sm {n:Int} {b:Za} (h:Y0 n b) (hn:n<=4001):b.sm:=by
 have h1:=Zcb h.conf;have h2:=h.ml;have h3:=h.bl;have h4:=h.sl;have h5:=Yas hn h.log;refine⟨h1,by omega,λx hx=>?_,by omega,by omega,h.model.sm,by omega⟩;obtain⟨k,hk,rfl⟩:=Vbt hx;have:=(h.mst (k:Int) (mas (by omega))).right.sm
 rwa [X5 hk] at this
theorem Zkj.sm {b:Za} (h:Zkj b):b.sm:=h.i.sm (by have:=h.now;omega)
section
variable {n:Int} {b:Za} {s:Ze}
theorem Z2u (x:Zg) (hc:Xh b.conf=true) (hw:Zu b.conf x.who=true) (hml:b.m.length=b.conf.masters.length) (hbl:b.buckets.length=b.conf.masters.length) (hr:Yv (atI b.m x.who)) (har:Zab b.arb b.conf=true):Zei b x=some (Wf b x):=by
 obtain⟨ok,hbk⟩:=Yql hr;unfold Zei Wf;rw[Wc hml hw,ZZa,hbk,ZZa,Wx,ZZa,Ya4 hbl hw,ZZa,Z1m hw,ZZa,Yfq _ (Zhw hc hw),ZZa,Wx,ZZa,Yo6 _ _ _ har,ZZa];by_cases h1:x.by_=1
 .simp[h1]
 .by_cases h2:x.by_=2<;>simp[h1,h2]
theorem Z3f (x:Zg) (hc:Xh b.conf=true) (hw:Zu b.conf x.who=true) (hml:b.m.length=b.conf.masters.length) (hbl:b.buckets.length=b.conf.masters.length) (hr:Yv (atI b.m x.who)) (har:Zab b.arb b.conf=true):Zka b x=some (Wf b x):=by
 obtain⟨ok,hbk⟩:=Ypk hr;unfold Zka Wf;rw[Wc hml hw,ZZa,hbk,ZZa,Wx,ZZa,Ya4 hbl hw,ZZa,Z1m hw,ZZa,Yfd _ (Zhw hc hw),ZZa,Wx,ZZa,Yp6 _ _ _ har,ZZa];by_cases h1:x.by_=1
 .simp[h1]
 .by_cases h2:x.by_=2<;>simp[h1,h2]
theorem Yus {m:Zb} {k:Int} (h:Yv m) (hq:m.queue≠[]) (h0:0<=k) (h1:k < Zz m):Zn5 m k=some (Zq4 m k):=by
 have hl:0 < m.queue.length:=Vao.2 hq;unfold Zn5 Zq4;rw[Xp (xs:=m.queue) (by omega) (by omega),ZZa];by_cases hw:(atI m.queue 0).write=true
 .have:=Yku h h0 h1 hw
  rw[ZZj hw,ZZj hw,Xp this.1 this.2];rfl
 .rw[ZZi hw,ZZi hw]
theorem Ygk {m:Zb} {k:Int} (h:Yv m) (hq:m.queue≠[]) (h0:0<=k) (h1:k < Zz m):Zm6 (atI m.queue 0) k=some (Zq4 m k):=by
 unfold Zm6 Zq4;by_cases hw:(atI m.queue 0).write=true
 .have:=Yku h h0 h1 hw
  rw[ZZi (by simp[hw]),ZZj hw,Xp this.1 this.2];rfl
 .rw[ZZj (by simpa using hw),ZZi hw]
theorem Zq9 {m:Zb} {k:Int} (h0:0<=k) (h1:k < Zz m):m.queue≠[]:=by
 intro hq;unfold Zz at h1;rw[ZZj hq] at h1;omega
theorem Zwf {m:Zb} (hq:m.queue≠[]):idx m.queue 0=some (atI m.queue 0):=by
 have hl:0 < m.queue.length:=Vao.2 hq;exact Xp (by omega) (by omega)
theorem Yuz (x:Zg) (hw:Zu b.conf x.who=true) (hml:b.m.length=b.conf.masters.length) (hr:Yv (atI b.m x.who)) (hm:Zdn b.model) (h0:0<=x.beat) (h1:x.beat < Zz (atI b.m x.who)):Zsf b x=some (doG b x):=by
 have hq:=Zq9 h0 h1;unfold Zsf doG;rw[Wc hml hw,ZZa,Zwf hq,ZZa,Zeq _ hr,ZZa,Yus hr hq h0 h1,ZZa,Yoj _ _ _ _ hm];rfl
theorem Yb5 {m:Zb} (h:Yv m) (hp:m.beat - m.done≥1):((Jd m).queue.length:Int) < (m.queue.length:Int)↔m.done+1=Zz m:=by
 have hq:=Zg2 h (by omega);have hl:0 < m.queue.length:=Vao.2 hq;have hf:=Z7z h hp;by_cases e:m.done+1=Zz m
 .rw[(hf.1 e).2.1];simp[e];omega
 .rw[(hf.2 e).1];simp[e]
theorem Yqt {m:Zb} (h:Yv m) (hp:m.beat - m.done≥1):(Jd m).done=0↔m.done+1=Zz m:=by
 have hb:=K9 h;have hf:=Z7z h hp;by_cases e:m.done+1=Zz m
 .rw[(hf.1 e).2.2.2.1];simp[e]
 .rw[(hf.2 e).2.2.1];simp[e];omega
theorem Ylz (x:Zg) (h1:Zu b.conf x.who=true) (hml:b.m.length=b.conf.masters.length) (hr:Yv (atI b.m x.who)) (hm:Zdn b.model) (hp:(atI b.m x.who).beat - (atI b.m x.who).done≥1) (h2:0<=x.beat) (h3:x.beat < Zz (atI b.m x.who)) (hl:b.log.length < 1048577):Zi0 b x=some (Zf1 b x):=by
 have hq:=Zq9 h2 h3;obtain⟨ok,he⟩:=Yui hr;unfold Zi0;rw[Wc hml h1,ZZa,Zwf hq,ZZa,Zeq _ hr,ZZa,Yuz x h1 hml hr hm h2 h3,ZZa];have hJ:∀(mo:Zj) (d:Zr),Zbi b x {b with model:=mo} (atI b.m x.who) d=some {b with model:=mo,log:=b.log++[d],m:=b.m.set x.who.toNat (Jd (atI b.m x.who)),holder:=if b.holder=x.who/\(atI b.m x.who).done+1=Zz (atI b.m x.who) then -1 else b.holder,held:=if b.holder=x.who/\(atI b.m x.who).done+1=Zz (atI b.m x.who) then 0 else b.held}:=by
  intro mo d;unfold Zbi Zd1 Zdx Zmh;simp only;rw[Wg (by simp only[Vaa,Vap];omega) (by simp only[Vaa,Vap];omega),ZZa,he,ZZa];simp only[ZZa,Wc hml h1,Wx];have hi:idx b.m x.who=some (atI b.m x.who):=Wc hml h1;by_cases e1:b.holder=x.who
  .by_cases e2:(atI b.m x.who).done+1=Zz (atI b.m x.who)
   .have e3:=(Yb5 hr hp).2 e2
    simp only[decide_eq_true e1,decide_eq_true e3,if_true,ZZj (And.intro e1 e2)]
   .have e3:=mt (Yb5 hr hp).1 e2
    simp only[decide_eq_true e1,decide_eq_false e3,if_true,if_false,ZZf,ZZi (λhx:b.holder=x.who/\_=>e2 hx.2)]
  .simp only[decide_eq_false e1,if_false,ZZf,ZZi (λhx:b.holder=x.who/\_=>e1 hx.1)]
 unfold Zf1 Ygf;by_cases e:x.resp=0
 .rw[ZZj (decide_eq_true e),hJ]
  simp only[ZZj e]
 .rw[ZZi (by simpa using e)]
  have:=hJ b.model (Zr.mk b.now x.who (atI (atI b.m x.who).queue 0).write (X6 (atI b.m x.who) x.beat) (atI (atI b.m x.who).queue 0).size 0 x.resp);refine Eq.trans (b:=_) ?_ (this.trans ?_)
  .rfl
  .simp only[ZZi e]
theorem Yud (w:Zm) (h:Y0 b.now b) (hs:s.sm) (hn:b.now<=4000):Zom b s w=some ((Z9 b s).2.1,(Z9 b s).1,if b.data_.live=true/\¬b.data_.left > 0 then {w with resp:=b.data_.resp} else w):=by
 unfold Zom Z9;by_cases hd:b.data_.live=true
 .have hdf:¬b.data_.live=false:=by simp[hd]
  rw[ZZi (by simp[hd]),ZZi hdf];have Zaz:=h.data;unfold Q4 at Zaz;rw[ZZj hd] at Zaz;have hw:=Qv h hd;have hmw:=(h.mst _ hw).right;have hp:=Zul h hd;have hbt:=Z79 h hd;have Yj9:=(W5 h.conf).2.1;by_cases hl:b.data_.left > 0
  .rw[ZZj (decide_eq_true hl),ZZj hl,ZZi (λhx:_/\¬b.data_.left > 0=>hx.2 hl),Y9 (by omega) (by omega)]
  .rw[ZZi (by simpa using hl),ZZi hl,ZZj (And.intro hd hl)]
   have hJf:¬(b.data_.resp≠0/\b.data_.second=false)->Zat b s w false=some ((if b.data_.resp=2 then (Wf {b with data_:=Zg.z0,m:=b.m.set b.data_.who.toNat {atI b.m b.data_.who with tries:=(atI b.m b.data_.who).tries+1}} b.data_,true,b.data_.resp)
 else if b.data_.resp=3 then (Wf {b with data_:=Zg.z0,m:=b.m.set b.data_.who.toNat {atI b.m b.data_.who with parted:=true},splits:=b.splits.set b.data_.who.toNat (Zht b.conf s b.picks)} b.data_,true,b.data_.resp)
 else (Zf1 {b with data_:=Zg.z0} b.data_,true,b.data_.resp):Za×Bool×Int).2.1,(if b.data_.resp=2 then (Wf {b with data_:=Zg.z0,m:=b.m.set b.data_.who.toNat {atI b.m b.data_.who with tries:=(atI b.m b.data_.who).tries+1}} b.data_,true,b.data_.resp)
 else if b.data_.resp=3 then (Wf {b with data_:=Zg.z0,m:=b.m.set b.data_.who.toNat {atI b.m b.data_.who with parted:=true},splits:=b.splits.set b.data_.who.toNat (Zht b.conf s b.picks)} b.data_,true,b.data_.resp)
 else (Zf1 {b with data_:=Zg.z0} b.data_,true,b.data_.resp):Za×Bool×Int).1,{w with resp:=b.data_.resp}):=by
    intro hns;have hmb:=Wa hw;have hml:=h.ml;have Yic:∀x:Zb,Yv x->Yv (atI (b.m.set b.data_.who.toNat x) b.data_.who):=λx hx=>by rw[Zps x hmb.1 (by omega)];exact hx
    have Yn:∀x:Zb,(b.m.set b.data_.who.toNat x).length=b.conf.masters.length:=λx=>by rw[Vbg];exact hml
    unfold Zat;rw[ZZi (by simp)];by_cases h2:b.data_.resp=2
    .have ht:=Zaz.2.1 h2
     have hmx:=(W5 h.conf).1;have htr:=hmw.tries;have Z6:Yv {atI b.m b.data_.who with tries:=(atI b.m b.data_.who).tries+1}:=⟨hmw.len,by show 0<=(atI b.m b.data_.who).tries+1;omega,hmw.reqs,λhq=>absurd (show (atI b.m b.data_.who).queue=[] from hq) (Zq9 hbt.1 hbt.2),hmw.some⟩;simp only[decide_eq_true h2,if_true,ZZj h2,Wc hml hw,ZZa,Wx,Ys (a:=(atI b.m b.data_.who).tries) (b:=1) (by omega) (by omega)];rw[Z2u (b:={b with data_:=Zg.z0,m:=b.m.set b.data_.who.toNat {atI b.m b.data_.who with tries:=(atI b.m b.data_.who).tries+1}}) b.data_ h.conf hw (Yn _) h.bl (Yic _ Z6) h.arb];rfl
    .by_cases h3:b.data_.resp=3
     .have Yu:Yv {atI b.m b.data_.who with parted:=true}:=⟨hmw.len,hmw.tries,hmw.reqs,λhq=>absurd (show (atI b.m b.data_.who).queue=[] from hq) (Zq9 hbt.1 hbt.2),hmw.some⟩
      simp only[decide_eq_false h2,decide_eq_true h3,if_true,if_false,ZZf,ZZi h2,ZZj h3,Wc hml hw,Zp9 h.sl hw,ZZa,Wx,Yov _ _ hs];rw[Z2u (b:={b with data_:=Zg.z0,m:=b.m.set b.data_.who.toNat {atI b.m b.data_.who with parted:=true},splits:=b.splits.set b.data_.who.toNat (Zht b.conf s b.picks)}) b.data_ h.conf hw (Yn _) h.bl (Yic _ Yu) h.arb];rfl
     .simp only[decide_eq_false h2,decide_eq_false h3,if_false,ZZf,ZZi h2,ZZi h3]
      have hlog:=Yas (by omega) h.log;rw[Ylz (b:={b with data_:=Zg.z0}) b.data_ hw hml hmw h.model hp hbt.1 hbt.2 (by show b.log.length < _;omega)];rfl
   by_cases h2:b.data_.resp≠0
   .rw[ZZj (decide_eq_true h2)]
    by_cases h3:b.data_.second=false
    .rw[ZZj (And.intro h2 h3),h3]
     unfold Zat Zfz;rw[ZZj (by rfl)];by_cases ha:b.addr.live=true
     .rw[ZZj ha,ZZj ha]
      have hwa:=Zbj h ha;rw[Z2u (b:={b with data_:={b.data_ with second:=true}}) b.addr h.conf hwa h.ml h.bl (h.mst _ hwa).right h.arb];rfl
     .rw[ZZi ha,ZZi ha]
    .have h4:b.data_.second=true:=by simpa using h3
     rw[ZZi (λhx:_/\b.data_.second=false=>h3 hx.2),h4,Va7,hJf (λhx=>h3 hx.2)]
   .rw[ZZi (by simpa using h2),ZZi (λhx:b.data_.resp≠0/\_=>h2 hx.1),hJf (λhx=>h2 hx.1)]
 .rw[ZZj (by simpa using hd),ZZj (by simpa using hd),ZZi (λhx:b.data_.live=true/\_=>hd hx.1)]
theorem Yuk (h:Y0 b.now b) (hs:s.sm) (hn:b.now<=4000) (hd:b.data_.live=true) (hl:¬b.data_.left > 0) (hns:¬(b.data_.resp≠0/\b.data_.second=false)):Zp8 b s=some (Z9 b s).1:=by
 have hdf:¬b.data_.live=false:=by simp[hd]
 have Zaz:=h.data;unfold Q4 at Zaz;rw[ZZj hd] at Zaz;have hw:=Qv h hd;have hmw:=(h.mst _ hw).right;have hp:=Zul h hd;have hbt:=Z79 h hd;have hmb:=Wa hw;have hml:=h.ml;have hq:=Zq9 hbt.1 hbt.2;have Yic:∀x:Zb,Yv x->Yv (atI (b.m.set b.data_.who.toNat x) b.data_.who):=λx hx=>by rw[Zps x hmb.1 (by omega)];exact hx
 have Yn:∀x:Zb,(b.m.set b.data_.who.toNat x).length=b.conf.masters.length:=λx=>by rw[Vbg];exact hml
 unfold Zp8 Z9;rw[ZZi hdf,ZZi hl,ZZi hns,Wc hml hw,ZZa];by_cases h2:b.data_.resp=2
 .have ht:=Zaz.2.1 h2
  have hmx:=(W5 h.conf).1;have htr:=hmw.tries;have Z6:Yv {atI b.m b.data_.who with tries:=(atI b.m b.data_.who).tries+1}:=⟨hmw.len,by show 0<=(atI b.m b.data_.who).tries+1;omega,hmw.reqs,λhq=>absurd (show (atI b.m b.data_.who).queue=[] from hq) (Zq9 hbt.1 hbt.2),hmw.some⟩;simp only[decide_eq_true h2,if_true,ZZj h2,ZZa,Wx,Ys (a:=(atI b.m b.data_.who).tries) (b:=1) (by omega) (by omega)];rw[Z3f (b:={b with data_:=Zg.z0,m:=b.m.set b.data_.who.toNat {atI b.m b.data_.who with tries:=(atI b.m b.data_.who).tries+1}}) b.data_ h.conf hw (Yn _) h.bl (Yic _ Z6) h.arb];rfl
 .by_cases h3:b.data_.resp=3
  .have Yu:Yv {atI b.m b.data_.who with parted:=true}:=⟨hmw.len,hmw.tries,hmw.reqs,λhq=>absurd (show (atI b.m b.data_.who).queue=[] from hq) (Zq9 hbt.1 hbt.2),hmw.some⟩
   simp only[decide_eq_false h2,decide_eq_true h3,if_true,if_false,ZZf,ZZi h2,ZZj h3,Zp9 h.sl hw,ZZa,Wx,Yot _ _ hs];rw[Z3f (b:={b with data_:=Zg.z0,m:=b.m.set b.data_.who.toNat {atI b.m b.data_.who with parted:=true},splits:=b.splits.set b.data_.who.toNat (Zht b.conf s b.picks)}) b.data_ h.conf hw (Yn _) h.bl (Yic _ Yu) h.arb];rfl
  .have hlog:=Yas (by omega) h.log
   obtain⟨ok,he⟩:=Ytd hmw;have hJ:∀(mo:Zj) (d:Zr),Zdr b s {b with data_:=Zg.z0,model:=mo} (atI b.m b.data_.who) d=some {b with data_:=Zg.z0,model:=mo,log:=b.log++[d],m:=b.m.set b.data_.who.toNat (Jd (atI b.m b.data_.who)),holder:=if b.holder=b.data_.who/\(atI b.m b.data_.who).done+1=Zz (atI b.m b.data_.who) then -1 else b.holder,held:=if b.holder=b.data_.who/\(atI b.m b.data_.who).done+1=Zz (atI b.m b.data_.who) then 0 else b.held}:=by
    intro mo d;unfold Zdr;simp only;rw[Wg (by simp only[Vaa,Vap];omega) (by simp only[Vaa,Vap];omega),ZZa,he,ZZa];simp only[ZZa,Wc hml hw,Wx];by_cases e1:b.holder=b.data_.who
    .by_cases e2:(atI b.m b.data_.who).done+1=Zz (atI b.m b.data_.who)
     .have e3:=(Yqt hmw hp).2 e2
      simp only[decide_eq_true e1,decide_eq_true e3,if_true,ZZj (And.intro e1 e2)]
     .have e3:=mt (Yqt hmw hp).1 e2
      simp only[decide_eq_true e1,decide_eq_false e3,if_true,if_false,ZZf,ZZi (λhx:b.holder=b.data_.who/\_=>e2 hx.2)]
    .simp only[decide_eq_false e1,if_false,ZZf,ZZi (λhx:b.holder=b.data_.who/\_=>e1 hx.1)]
   simp only[decide_eq_false h2,decide_eq_false h3,if_false,ZZf,ZZi h2,ZZi h3];rw[Zwf hq,ZZa,Zhv _ hmw,ZZa];unfold Zf1 Ygf doG;by_cases e:b.data_.resp=0
   .rw[ZZj (decide_eq_true e),Ygk hmw hq hbt.1 hbt.2,ZZa,Z9p _ _ _ _ h.model,ZZa,hJ]
    simp only[ZZj e]
   .rw[ZZi (by simpa using e)]
    have:=hJ b.model (Zr.mk b.now b.data_.who (atI (atI b.m b.data_.who).queue 0).write (X6 (atI b.m b.data_.who) b.data_.beat) (atI (atI b.m b.data_.who).queue 0).size 0 b.data_.resp);refine Eq.trans (b:=_) ?_ (this.trans ?_)
    .rfl
    .simp only[ZZi e]
end
section
variable {n:Int} {b:Za} {s:Ze}
theorem Yul (h:Y0 n b) (hs:s.sm) (hl:b.addr.live=true):Zn9 b s b.addr=some (Zdb b s b.addr):=by
 have hw:=Zbj h hl;have hmw:=(h.mst _ hw).right;have hbt:=Z7x h hl;have hwt:=Yi3 h.conf s b.picks;have hlm:=(W5 h.conf).2.1;unfold Zn9;rw[Wc h.ml hw,ZZa,Zeq _ hmw,ZZa,Zzr,ZZa];have hJ1:Jc b s b.addr (atI b.m b.addr.who) (Yy (X6 (atI b.m b.addr.who) b.addr.beat)) false=some (if Zg8 s b.picks=2/\Yy (X6 (atI b.m b.addr.who) b.addr.beat)≠3/\(atI b.m b.addr.who).tries < b.conf.maxRetry then 2
  else if Zg8 s b.picks=3/\Yy (X6 (atI b.m b.addr.who) b.addr.beat)=2/\(atI b.m b.addr.who).parted=false/\b.addr.who≠b.holder then 3 else (doG b b.addr).2.2,if Yy (X6 (atI b.m b.addr.who) b.addr.beat)=3 then Zp1 b.conf s b.picks+2 else Zp1 b.conf s b.picks):=by
  unfold Jc;rw[ZZi (by simp),Yuz _ hw h.ml hmw h.model hbt.1 hbt.2,ZZa,Yr6 _ _ hs,ZZa,Ys (by omega) (by omega)];have hJ2:∀(r t:Int),Zc5 b s b.addr (atI b.m b.addr.who) (Yy (X6 (atI b.m b.addr.who) b.addr.beat)) r t=some (if Zg8 s b.picks=2/\Yy (X6 (atI b.m b.addr.who) b.addr.beat)≠3/\(atI b.m b.addr.who).tries < b.conf.maxRetry then 2
  else if Zg8 s b.picks=3/\Yy (X6 (atI b.m b.addr.who) b.addr.beat)=2/\(atI b.m b.addr.who).parted=false/\b.addr.who≠b.holder then 3 else r,t):=by
   intro r t;unfold Zc5;rw[Ys6 _ hs,ZZa];generalize Yy (X6 (atI b.m b.addr.who) b.addr.beat)=sl;have hJ3:Kd b s b.addr (atI b.m b.addr.who) sl r t (Zg8 s b.picks) false=some (if Zg8 s b.picks=3/\sl=2/\(atI b.m b.addr.who).parted=false/\b.addr.who≠b.holder then 3 else r,t):=by
    unfold Kd;rw[ZZi (by simp)];by_cases e1:Zg8 s b.picks=3
    .by_cases e2:sl=2
     .by_cases e3:(atI b.m b.addr.who).parted=true
      .simp[e1,e2,e3]
      .by_cases e4:b.addr.who=b.holder<;>simp[e1,e2,e3,e4]
     .simp[e1,e2]
    .simp[e1]
   have hJ3t:Kd b s b.addr (atI b.m b.addr.who) sl r t (Zg8 s b.picks) true=some (2,t):=by
    unfold Kd;rw[ZZj rfl]
   by_cases e1:Zg8 s b.picks=2
   .by_cases e2:sl=3
    .rw[ZZj (decide_eq_true e1),ZZi (by simpa using e2),hJ3,ZZi (λhx:_/\sl≠3/\_=>hx.2.1 e2)]
    .by_cases e3:(atI b.m b.addr.who).tries < b.conf.maxRetry
     .rw[ZZj (decide_eq_true e1),ZZj (by simpa using e2),decide_eq_true e3,hJ3t,ZZj ⟨e1,e2,e3⟩]
     .rw[ZZj (decide_eq_true e1),ZZj (by simpa using e2),decide_eq_false e3,hJ3,ZZi (λhx:_/\_/\_=>e3 hx.2.2)]
   .rw[ZZi (by simpa using e1),hJ3,ZZi (λhx:_/\_/\_=>e1 hx.1)]
  by_cases e:Yy (X6 (atI b.m b.addr.who) b.addr.beat)=3
  .rw[ZZj (decide_eq_true e),hJ2,ZZj e]
  .rw[ZZi (by simpa using e),hJ2,ZZi e]
 have hJ1t:Jc b s b.addr (atI b.m b.addr.who) (Yy (X6 (atI b.m b.addr.who) b.addr.beat)) true=some (1,0):=by
  unfold Jc;rw[ZZj rfl]
 unfold Zdb;by_cases e1:(atI b.m b.addr.who).broken=true
 .rw[ZZj e1,hJ1t,ZZj (.inl e1)]
 .by_cases e2:Yy (X6 (atI b.m b.addr.who) b.addr.beat)=0
  .rw[ZZi e1,decide_eq_true e2,hJ1t,ZZj (.inr e2)]
  .rw[ZZi e1,decide_eq_false e2,hJ1,ZZi (show ¬((atI b.m b.addr.who).broken=true\/Yy (X6 (atI b.m b.addr.who) b.addr.beat)=0) fromλhx=>hx.elim e1 e2)]
theorem Yst (a:Int):Yy a=0\/Yy a=1\/Yy a=2\/Yy a=3:=by
 unfold Yy
 repeat' split
 all_goals simp
theorem Yyd (h:Y0 n b) (hs:s.sm) (hp:0<=b.picks/\b.picks<=4000):Ztk b s=some (Qw b s):=by
 unfold Ztk Qw;by_cases hl:b.addr.live=true
 .have hw:=Zbj h hl
  have hmw:=(h.mst _ hw).right;have hbt:=Z7x h hl;have hq:=Zq9 hbt.1 hbt.2;have hwt:=Yi3 h.conf s b.picks;have hlm:=(W5 h.conf).2.1;have hA:=h.addr;unfold Ku at hA;rw[ZZj hl] at hA;rw[ZZi (by simp[hl]),ZZj hl,Wc h.ml hw,ZZa,Zwf hq,ZZa,Zhv _ hmw,ZZa,Z8b,ZZa,Ysi _ hs,ZZa];have hsr:=Yst (X6 (atI b.m b.addr.who) b.addr.beat);have hJ8:∀x:Zg,Ze5 b s x=some {b with addr:=Zg.z0,data_:=x,picks:=b.picks+1}:=by
   intro x;unfold Ze5;rw[Ys (by omega) (by omega)]
  unfold Zdb;by_cases e1:(atI b.m b.addr.who).broken=true
  .rw[ZZj e1,ZZj (.inl e1)]
   unfold Zca Zcj Zcf Zck Ko Zce Km;simp only[if_true,e1,Va7,ZZf,if_false,hJ8,Ydz]
   congr 2
   rw[hA.2.1]
  .have e1':(atI b.m b.addr.who).broken=false:=by simpa using e1
   rw[ZZi e1];generalize hsl:Yy (X6 (atI b.m b.addr.who) b.addr.beat)=sl at hsr;by_cases e2:sl=0
   .rw[decide_eq_true e2,ZZj (.inr e2)]
    unfold Zca Zcj Zcf Zck Ko Zce Km;have f1:¬sl=3:=by omega
    have f2:¬sl=1:=by omega
    have f3:¬sl=2:=by omega
    simp only[if_true,e1',f1,f2,f3,decide_false,Vbi,ZZf,if_false,hJ8,Ydz]
    congr 2
    rw[hA.2.1]
   .rw[decide_eq_false e2,ZZi (λhx=>hx.elim e1 e2)]
    unfold Zca;rw[ZZi (by simp),Ys7 _ _ hs,ZZa,Ygk hmw hq hbt.1 hbt.2,ZZa,Z9p _ _ _ _ h.model,ZZa];have hdo:Ze2 b.model (atI (atI b.m b.addr.who).queue 0).write (X6 (atI b.m b.addr.who) b.addr.beat) (atI (atI b.m b.addr.who).queue 0).size (Zq4 (atI b.m b.addr.who) b.addr.beat)=doG b b.addr:=rfl;rw[hdo];unfold Zcj Zcf Zck Ko Zce Km;simp only[e1',Vbi,if_true,hJ8,Ys (a:=Zp1 b.conf s b.picks) (b:=2) (by omega) (by omega)];generalize Zg8 s b.picks=sd;by_cases g1:sl=3
    .subst g1
     by_cases g2:sd=2
     .subst g2;simp
     .by_cases g3:sd=3
      .subst g3;simp
      .simp[g2,g3]
    .by_cases g4:sl=2
     .subst g4
      by_cases g2:sd=2
      .subst g2
       by_cases g5:(atI b.m b.addr.who).tries < b.conf.maxRetry<;>simp[g5]
      .by_cases g3:sd=3
       .subst g3
        by_cases g5:(atI b.m b.addr.who).parted=true
        .simp[g5]
        .by_cases g6:b.addr.who=b.holder
         .simp[g5,g6]
         .have g7:¬b.holder=b.addr.who:=λe=>g6 e.symm
          simp[g5,g6,g7]
       .simp[g2,g3]
     .have g8:sl=1:=by omega
      subst g8;by_cases g2:sd=2
      .subst g2
       by_cases g5:(atI b.m b.addr.who).tries < b.conf.maxRetry<;>simp[g5]
      .by_cases g3:sd=3
       .subst g3;simp
       .simp[g2,g3]
 .rw[ZZj (by simpa using hl),ZZi hl]
  have hA:=h.addr;unfold Ku at hA;rw[ZZi hl] at hA;rw[<-hA]
theorem Yhu (b:Za) (k:Nat):((List.range (k+1)).map λj:Nat=>Kh b (j:Int))=((List.range k).map λj:Nat=>Kh b (j:Int))++[Kh b (k:Int)]:=by
 rw[List.range_succ,Vc0];rfl
theorem Z2k (h:Y0 n b):b.holder=-1\/Zu b.conf b.holder=true:=by
 by_cases e:b.holder=-1
 .exact .inl e
 .exact .inr (Ze1 h e).1
theorem Y0n (h:Y0 n b):Zts b=some ((Zaf b).1,(Zaf b).2.1,(Zaf b).2.2):=by
 have Yn:=Jw h.conf;have hml:=h.ml;have hL2:Ze3 b FU (Qt b) ((Qt b).length:Int) 0=some (match (List.range b.m.length).find? (Zar b) with
  | some k=>((k:Int),1,{b with buckets:=b.buckets.set k (Zfx (atI b.buckets (k:Int)) (atI b.conf.masters (k:Int))).1})
  | none=>if b.holder≠-1 then (-1,0,b) else ((Zc1 b.arb b.conf (Qt b)).2,2,{b with arb:=(Zc1 b.arb b.conf (Qt b)).1})):=by
  rw[Zdz];have key:∀(r m k:Nat),r < m->k+r=b.m.length->(∀j,j < k->Zar b j=false)->Ze3 b m (Qt b) (b.m.length:Int) (k:Int)=some (match (List.range' k r).find? (Zar b) with
  | some k=>((k:Int),1,{b with buckets:=b.buckets.set k (Zfx (atI b.buckets (k:Int)) (atI b.conf.masters (k:Int))).1})
  | none=>if b.holder≠-1 then (-1,0,b) else ((Zc1 b.arb b.conf (Qt b)).2,2,{b with arb:=(Zc1 b.arb b.conf (Qt b)).1})):=by
   intro r
   induction r with
   | zero=>
    intro m k hm hk _;obtain⟨m,rfl⟩:∃m',m=m'+1:=⟨m - 1,by omega⟩;show Zds b _ (Qt b) (b.m.length:Int) (k:Int)=_;unfold Zds;rw[ZZi (by simp;omega),Ynt _ _ _ h.arb (by rw[Zdz,hml]),ZZa];by_cases e:b.holder=-1
    .simp[e]
    .simp[e]
   | succ r ih=>
    intro m k hm hk hj;obtain⟨m,rfl⟩:∃m',m=m'+1:=⟨m - 1,by omega⟩;show Zds b _ (Qt b) (b.m.length:Int) (k:Int)=_;have hmk:=mas (c:=b.conf) (k:=k) (by omega);unfold Zds;have hix:idx (Qt b) (k:Int)=some (Kh b (k:Int)):=by
     rw[Xp (by omega) (by rw[Zdz];omega),Zws h hmk]
    rw[ZZj (by simp;omega),hix,ZZa,Ya4 h.bl hmk,ZZa,Z1m hmk,ZZa,Yfb _ (Zhw h.conf hmk),ZZa,Wx,ZZa,Vcw,List.find?_cons];by_cases e1:Kh b (k:Int)=true
    .by_cases e2:(Zfx (atI b.buckets (k:Int)) (atI b.conf.masters (k:Int))).2=true
     .have e3:Zar b k=true:=by simp[Zar,e1,e2]
      rw[e1,ZZi (by simp),ZZj e2,e3];rfl
     .have e3:Zar b k=false:=by simp[Zar,e1,e2]
      rw[e1,ZZi (by simp),ZZi e2,e3,Wi (by omega)];exact ih m (k+1) (by omega) (by omega) (λj hj2=>by
       by_cases hjk:j=k
       .subst hjk;exact e3
       .exact hj j (by omega))
    .have e3:Zar b k=false:=by simp[Zar,e1]
     have e4:Kh b (k:Int)=false:=by simpa using e1
     rw[e4,ZZj (by simp),e3,Wi (by omega)];exact ih m (k+1) (by omega) (by omega) (λj hj2=>by
       by_cases hjk:j=k
       .subst hjk;exact e3
       .exact hj j (by omega))
  have:=key b.m.length FU 0 (by have:=Kb;omega) (by omega) (λj hj=>by omega);rw[Vck];simpa using this
 unfold Zts;refine Zbv (σ:=List Bool) (n:=b.m.length) (by omega) (λk=>(List.range k).map λj:Nat=>Kh b (j:Int)) (B:=Zg9 b) (L:=Zjf b) (λm s i=>rfl) (λk hk κ=>?_) λκ=>?_
 .have hmk:=mas (c:=b.conf) (k:=k) (by omega)
  unfold Zg9;have Y36:∀x:Bool,X1 1 ((List.range k).map λj:Nat=>Kh b (j:Int)) [x]=some (((List.range k).map λj:Nat=>Kh b (j:Int))++[x]):=λx=>Wg (by simp;omega) (by simp;omega);rw[ZZj (by simpa using hk),Wc hml hmk,ZZa,Z65 (h.mst _ hmk).right,ZZa,Zp9 h.sl hmk,ZZa,Yhu];simp only[Y36,ZZa];unfold Kh;by_cases e1:Zpd (atI b.m (k:Int))=true
  .by_cases e2:atI b.splits (k:Int)=0
   .by_cases e3:b.holder=-1
    .simp[e1,e2,e3]
    .simp[e1,e2,e3]
   .simp[e1,e2]
  .simp[e1]
 .unfold Zg9 Zi3
  rw[ZZi (by simp)];show (if decide (b.holder≠-1)=true then (idx (Qt b) b.holder).bind _ else _)=_;unfold Zaf;by_cases e:b.holder=-1
  .rw[ZZi (by simpa using e),ZZi (by simp),ZZi (λhx:b.holder≠-1/\_=>hx.1 e)]
   exact hL2
  .have hw:=(Ze1 h e).1
   have hmb:=Wa hw;rw[ZZj (by simpa using e),Xp hmb.1 (by rw[Zdz];omega),ZZa,Zws h hw];by_cases e2:Kh b b.holder=true
   .rw[ZZj e2,ZZj ⟨e,e2⟩]
   .rw[ZZi e2,ZZi (λhx:_/\Kh b b.holder=true=>e2 hx.2)]
    exact hL2
theorem Y49 {b:Za} {i:Int} (hr:Yv (atI b.m i)) (h:Kh b i=true):(atI b.m i).queue≠[]:=by
 have:=(Ygb h).1;have:=K9 hr;intro hq;unfold Zz at*;rw[ZZj hq] at*;omega
theorem Y1y (x0:Za) (h:Y0 n b) {who by_:Int} (hw:Zu b.conf who=true):((idx b.m who).bind λa405=>
  if decide (a405.beat=0)=true then Jy x0 {b with addr:=(Zg.mk true who a405.beat true by_ 0 0 false)} a405 who
  else Jy x0 {b with addr:=(Zg.mk true who a405.beat (decide (b.last≠who)) by_ 0 0 false)} a405 who)=some (who,Z6q b who by_):=by
 obtain⟨ok,hi⟩:=Yl7 (h.mst _ hw).right;rw[Wc h.ml hw,ZZa];have hJ:∀f:Bool,Jy x0 {b with addr:=(Zg.mk true who (atI b.m who).beat f by_ 0 0 false)} (atI b.m who) who=some (who,{b with addr:=Zg.mk true who (atI b.m who).beat f by_ 0 0 false,holder:=if Yk (atI b.m who)=true/\b.holder=-1 then who else b.holder,held:=if Yk (atI b.m who)=true/\b.holder=-1 then 0 else b.held,m:=b.m.set who.toNat (X4 (atI b.m who)),last:=who}):=by
  intro f;unfold Jy Zhj Zhb;simp only[Z45,ZZa,hi,Wc h.ml hw,Wx];by_cases e1:Yk (atI b.m who)=true
  .by_cases e2:b.holder=-1
   .simp only[e1,if_true,decide_eq_true e2,true_and,ZZj e2]
   .simp only[e1,if_true,decide_eq_false e2,ZZf,if_false,true_and,ZZi e2]
  .simp only[e1,if_false,ZZf,false_and]
 unfold Z6q;by_cases e:(atI b.m who).beat=0
 .rw[ZZj (decide_eq_true e),hJ,decide_eq_true e];rfl
 .rw[ZZi (by simpa using e),hJ,decide_eq_false e,Vdw]
end
section
variable {n:Int} {b:Za} {s:Ze}
theorem Ywm (h:Y0 n b):Zpy b=some ((Je b).1,(Je b).2):=by
 have hp:=Zwg h;unfold Zpy Je;rw[Y0n h,ZZa];by_cases e:(Zaf b).1 < 0
 .rw[ZZj (decide_eq_true e),ZZj e]
 .rw[ZZi (by simpa using e),ZZi e]
  rcases hp.who with h1|h1
  .exact absurd (show (Zaf b).1 < 0 by rw[h1];decide) e
  .exact Y1y b hp.ok (by rw[hp.conf];exact h1.1)
theorem Y25 {c:Zf} {m:Zc} (h:Yw c m=true):(Zfx c m).2=decide (c.tokens > 0):=by
 unfold Zfx;by_cases hp:m.prio=true
 .have h2:=h
  unfold Yw at h2;rw[ZZj hp] at h2;simp only[ZZg,ZZl] at h2;by_cases e:c.tokens=0
  .simp[hp,h,e]
  .have:c.tokens > 0:=by omega
   simp[hp,h,e,this]
 .have h2:=h
  unfold Yw at h2;rw[ZZi hp] at h2;simp only[ZZg,ZZl] at h2;simp[hp,h2.1]
theorem Z9x (x0:Za) (h:Y0 n b) {who by_:Int} (hw:Zu b.conf who=true) (Yib:Kh b who=true):Jg x0 b (Zg.mk false who 0 false by_ 0 0 false)=some (Z6q b who by_):=by
 obtain⟨ok,hi⟩:=Yl1 (h.mst _ hw).right;have hq:=Y49 (h.mst _ hw).right Yib;have hmb:=Wa hw;unfold Jg;simp only;rw[ZZi (by simp;omega),Wc h.ml hw,ZZa];have hh:=Z2k h;have Ya:b.holder < 0↔b.holder=-1:=by
  rcases hh with hh|hh
  .omega
  .have:=Wa hh;omega
 have hJ:∀f:Bool,Zex x0 b (Zg.mk true who (atI b.m who).beat f by_ 0 0 false) (atI b.m who)=some {b with addr:=Zg.mk true who (atI b.m who).beat f by_ 0 0 false,holder:=if Yk (atI b.m who)=true/\b.holder=-1 then who else b.holder,held:=if Yk (atI b.m who)=true/\b.holder=-1 then 0 else b.held,m:=b.m.set who.toNat (X4 (atI b.m who)),last:=who}:=by
  intro f;unfold Zex Zdp Zhc;simp only[Zwf hq,ZZa,hi,Wc h.ml hw,Wx];unfold Yk;by_cases e1:(atI (atI b.m who).queue 0).lock=true
  .by_cases e2:(atI b.m who).broken=true
   .simp[e1,e2]
   .by_cases e3:b.holder=-1
    .have e4:=Ya.2 e3
     simp[e1,e2,e3,hq]
    .have e4:=mt Ya.1 e3
     simp[e1,e2,e3,e4]
  .simp[e1]
 unfold Z6q;by_cases e:(atI b.m who).beat=0
 .rw[ZZj (decide_eq_true e),hJ,decide_eq_true e];rfl
 .rw[ZZi (by simpa using e),hJ,decide_eq_false e,Vdw]
theorem Ycy (x0:Za) (c:Za) (by_:Int):Jg x0 c (Zg.mk false (-1) 0 false by_ 0 0 false)=some c:=by
 unfold Jg;rw[ZZj (by simp)]
theorem Yym (h:Y0 n b):Zty b=some (Je b).2:=by
 have Yn:=Jw h.conf;have hml:=h.ml;have hh:=Z2k h;have Ya:b.holder < 0↔b.holder=-1:=by
  rcases hh with hh|hh
  .omega
  .have:=Wa hh;omega
 have hp:=Zwg h;have hgo:∀(m:Nat) (c:Za) (who by_:Int) (k:Nat),0<=who->Zaj b (m+1) c (Zg.mk false who 0 false by_ 0 0 false) (Qt b) (k:Int)=Jg b c (Zg.mk false who 0 false by_ 0 0 false):=by
  intro m c who by_ k hwho;have hn:¬who < 0:=by omega
  show Jx b _ c _ _ _=_;unfold Jx Zch Zel;simp only[decide_eq_false hn,ZZf,if_false,Ydz]
 have hL2:(¬(b.holder≠-1/\Kh b b.holder=true))->Zaj b FU b (Zg.mk false (-1) 0 false 0 0 0 false) (Qt b) 0=some (Je b).2:=by
  intro hnl;have key:∀(r m k:Nat),r+1 < m->k+r=b.m.length->(List.range b.m.length).find? (Zar b)=(List.range' k r).find? (Zar b)->Zaj b m b (Zg.mk false (-1) 0 false 0 0 0 false) (Qt b) (k:Int)=some (Je b).2:=by
   intro r
   induction r with
   | zero=>
    intro m k hm hk Zyn;obtain⟨m,rfl⟩:∃m',m=m'+1:=⟨m - 1,by omega⟩;show Jx b _ b _ (Qt b) (k:Int)=_;unfold Jx Zch Zel;have hf:(List.range b.m.length).find? (Zar b)=none:=by rw[Zyn];rfl
    rw[ZZi (by simp;omega),ZZi (by simp),ZZj (by simp)];have hpk:Zaf b=if b.holder≠-1 then (-1,0,b) else ((Zc1 b.arb b.conf (Qt b)).2,2,{b with arb:=(Zc1 b.arb b.conf (Qt b)).1}):=by
     unfold Zaf;rw[ZZi hnl,hf]
    by_cases e:b.holder=-1
    .rw[decide_eq_true (Ya.2 e),ZZj rfl,Yqj _ _ _ h.arb (by rw[Zdz,hml]),ZZa]
     rw[ZZi (by simpa using e)] at hpk;have hw:=hp.who;have Y5:=hp.ok;unfold Je;rw[hpk] at hw Y5 ⊢;simp only at hw Y5 ⊢;rcases hw with hw|hw
     .rw[hw,Ycy,ZZj (by decide)]
     .have hmb:=Wa hw.1
      rw[ZZi (by omega)];exact Z9x b Y5 hw.1 hw.2.1
    .rw[decide_eq_false (mt Ya.1 e),ZZi (by simp),Ycy]
     rw[ZZj e] at hpk;unfold Je;rw[hpk,ZZj (show (-1:Int) < 0 by decide)]
   | succ r ih=>
    intro m k hm hk Zyn;obtain⟨m,rfl⟩:∃m',m=m'+1:=⟨m - 1,by omega⟩;show Jx b _ b _ (Qt b) (k:Int)=_;have hmk:=mas (c:=b.conf) (k:=k) (by omega);have hix:idx (Qt b) (k:Int)=some (Kh b (k:Int)):=by
     rw[Xp (by omega) (by rw[Zdz];omega),Zws h hmk]
    rw[Vcw,List.find?_cons] at Zyn;unfold Jx Zch Ziw;rw[ZZj (by simp;omega),ZZj (by simp),hix,ZZa,Ya4 h.bl hmk,ZZa,ZZa,Z1m hmk,ZZa,Yfl _ (Zhw h.conf hmk),ZZa,Wx,ZZa,Wi (by omega),<-Y25 (h.mst _ hmk).bucket];by_cases e1:Kh b (k:Int)=true
    .by_cases e2:(Zfx (atI b.buckets (k:Int)) (atI b.conf.masters (k:Int))).2=true
     .have e3:Zar b k=true:=by simp[Zar,e1,e2]
      rw[e3] at Zyn;have hpk:Zaf b=((k:Int),1,{b with buckets:=b.buckets.set k (Zfx (atI b.buckets (k:Int)) (atI b.conf.masters (k:Int))).1}):=by
       unfold Zaf;rw[ZZi hnl,Zyn]
      rw[ZZj e1,ZZj e2];obtain⟨m,rfl⟩:∃m',m=m'+1:=⟨m - 1,by omega⟩;rw[hgo m _ _ _ _ (by omega)];have hw:=hp.who;have Y5:=hp.ok;unfold Je;rw[hpk] at hw Y5 ⊢;simp only at hw Y5 ⊢;rcases hw with hw|hw
      .omega
      .rw[ZZi (by omega)]
       exact Z9x b Y5 hw.1 hw.2.1
     .have e3:Zar b k=false:=by simp[Zar,e1,e2]
      rw[e3] at Zyn;rw[ZZj e1,ZZi e2];exact ih m (k+1) (by omega) (by omega) Zyn
    .have e3:Zar b k=false:=by simp[Zar,e1]
     rw[e3] at Zyn;rw[ZZi e1,ZZi (by simp)];exact ih m (k+1) (by omega) (by omega) Zyn
  have:=key b.m.length FU 0 (by have:=Kb;omega) (by omega) (by rw[Vck]);simpa using this
 unfold Zty;refine Zbv (σ:=List Bool) (n:=b.m.length) (by omega) (λk=>(List.range k).map λj:Nat=>Kh b (j:Int)) (B:=Zhe b) (L:=Zje b) (λm s i=>rfl) (λk hk κ=>?_) λκ=>?_
 .have hmk:=mas (c:=b.conf) (k:=k) (by omega)
  unfold Zhe;have Y36:∀x:Bool,X1 1 ((List.range k).map λj:Nat=>Kh b (j:Int)) [x]=some (((List.range k).map λj:Nat=>Kh b (j:Int))++[x]):=λx=>Wg (by simp;omega) (by simp;omega);rw[ZZj (by simpa using hk),Wc hml hmk,ZZa,Z67 (h.mst _ hmk).right,ZZa,Zp9 h.sl hmk,ZZa,Yhu];simp only[Y36,ZZa];unfold Kh;by_cases e1:Zpd (atI b.m (k:Int))=true
  .by_cases e2:atI b.splits (k:Int)=0
   .by_cases e3:b.holder=-1
    .simp[e1,e2,e3]
    .have e4:=mt Ya.1 e3
     simp only[e1,e2,e3,e4,decide_true,decide_false,if_true,ZZf,if_false,Vbz,Vdw]
   .simp[e1,e2]
  .simp[e1]
 .unfold Zhe Ziz Zi9
  rw[ZZi (by simp)];show (if decide (b.holder≥0)=true then (idx (Qt b) b.holder).bind _ else _)=_;by_cases e:b.holder=-1
  .rw[ZZi (by simp;omega),ZZi (by simp)]
   exact hL2 λhx=>hx.1 e
  .have hw:=(Ze1 h e).1
   have hmb:=Wa hw;rw[ZZj (by simpa using hmb.1),Xp hmb.1 (by rw[Zdz];omega),ZZa,Zws h hw];by_cases e2:Kh b b.holder=true
   .have hpk:Zaf b=(b.holder,3,b):=by
     unfold Zaf;rw[ZZj ⟨e,e2⟩]
    rw[ZZj e2];have hfu:FU=(FU - 1)+1:=by decide
    show Zaj b FU b (Zg.mk false b.holder 0 false 3 0 0 false) (Qt b) ((0:Nat):Int)=_;rw[hfu,hgo _ _ _ _ _ hmb.1];unfold Je;rw[hpk,ZZi (by simp;omega)];exact Z9x b h hw e2
   .rw[ZZi e2]
    exact hL2 λhx=>e2 hx.2
theorem Yvm {α:Type} {X Y:List α} (hl:X.length=Y.length) {k:Nat} (hk:k < Y.length):idx (X.take k++Y.drop k) (k:Int)=some Y[k]/\(X.take k++Y.drop k).set k (X[k]'(by omega))=X.take (k+1)++Y.drop (k+1):=by
 have h1:(X.take k).length=k:=by rw[Vbw];omega
 constructor
 .rw[Xc (by simp;omega)]
  simp[List.getElem_append_right,h1]
 .rw[Vef _ _ (by omega),h1,Vd2,Va5 hk,Vdr,List.take_succ_eq_append_getElem (show k < X.length by omega),List.append_assoc]
  rfl
def Zlo (c:Za) (k:Nat):Za:={c with splits:=(Xi c).splits.take k++c.splits.drop k,buckets:=(Xi c).buckets.take k++c.buckets.drop k}
theorem Yu3 (c:Za):Zlo c 0=c:=by simp[Zlo]
theorem Ykr (h:Y0 n b):Zlo b b.conf.masters.length=Xi b:=by
 have h1:=h.sl;have h2:=h.bl;unfold Zlo Xi;simp only;rw[Vbh (by simp;omega),Vdd (by omega),Vbh (by simp;omega),Vdd (by omega),Vb3,Vb3]
theorem Ygc (h:Y0 n b) {k:Nat} (hk:k < b.conf.masters.length):idx (Zlo b k).splits (k:Int)=some (atI b.splits (k:Int))/\(Zlo b k).splits.set k (max (atI b.splits (k:Int) - 1) 0)=(Zlo b (k+1)).splits/\
  idx (Zlo b k).buckets (k:Int)=some (atI b.buckets (k:Int))/\(Zlo b k).buckets.set k (Zsv (atI b.buckets (k:Int)) (atI b.conf.masters (k:Int)))=(Zlo b (k+1)).buckets:=by
 have h1:=h.sl;have h2:=h.bl;have m1:=Yvm (X:=(Xi b).splits) (Y:=b.splits) (by simp[Xi]) (k:=k) (by omega);have m2:=Yvm (X:=(Xi b).buckets) (Y:=b.buckets) (by simp[Xi];omega) (k:=k) (by omega);rw[X5 (by omega),X5 (by omega),X5 hk];refine⟨m1.1,?_,m2.1,?_⟩
 .have:=m1.2
  simp only[Xi,List.getElem_map] at this;exact this
 .have:=m2.2
  simp only[Xi,List.getElem_zipWith] at this;exact this
end
section
variable {n:Int} {b:Za} {s:Ze}
theorem Yco (h:Y0 n b) (s:Ze) (hd:b.data_=Zg.z0):Y0 n (Xe b)/\Y0 n (Qw (Xe b) s):=⟨Yd2 h,(Ydy (Yd2 h) s (by rw[(Zxs b).1];exact hd)).1⟩
theorem Ynq (x0:Za) (w:Zm) (h:Y0 n b) (hs:s.sm) (hd:b.data_=Zg.z0) (hp:0<=b.picks/\b.picks<=4000) (hn:0<=b.now/\b.now<=4000):(if decide (b.holder≠(-1))=true then Jb x0 s b w (decide (b.held=b.conf.lockMost)) else Jb x0 s b w false)=some ({w with got:=(Wu b s).1},{(Wu b s).2 with now:=b.now+1}):=by
 obtain⟨h1,h2⟩:=Yco h s hd;have e1:=Zxs b;have hJ9:∀(c:Za) (w:Zm),Y0 n c->c.now=b.now->Zey x0 s c w=some ({w with got:=(Je c).1},{(Je c).2 with now:=b.now+1}):=by
  intro c w hc hcn;unfold Zey Zen;rw[Ywm hc,ZZa];simp only;rw[(Z6h hc).1,hcn,Ys (by omega) (by omega)]
 have hJ8:∀w:Zm,Zcd x0 s (Xe b) w=some ({w with got:=(Wu b s).1},{(Wu b s).2 with now:=b.now+1}):=by
  intro w;unfold Zcd Wu;have e2:=Z5w (Xe b) s;by_cases hl:(Xe b).addr.live=true
  .rw[ZZj hl,Yul h1 hs hl,ZZa,Ys (by rw[e1.2.2.1];omega) (by rw[e1.2.2.1];omega)]
   have hb:Qw (Xe b) s={Xe b with addr:=Zg.z0,data_:={(Xe b).addr with left:=(Zdb (Xe b) s (Xe b).addr).2,resp:=(Zdb (Xe b) s (Xe b).addr).1},picks:=(Xe b).picks+1}:=by
    unfold Qw;rw[ZZj hl]
   rw[<-hb];exact hJ9 _ _ h2 (by rw[e2.1,e1.2.2.2.1])
  .rw[ZZi hl]
   have hb:Qw (Xe b) s=Xe b:=by
    unfold Qw;rw[ZZi hl]
   rw[hb];exact hJ9 _ _ h1 e1.2.2.2.1
 have hJ6:Jb x0 s b w false=Zcd x0 s b w:=by unfold Jb;rw[ZZi (by simp)]
 by_cases e:b.holder=-1
 .have hb:Xe b=b:=by unfold Xe;rw[ZZi (λhx:b.holder≠-1/\b.held=b.conf.lockMost=>hx.1 e)]
  rw[ZZi (by simpa using e),hJ6];have:=hJ8 w
  rwa [hb] at this
 .rw[ZZj (by simpa using e)]
  by_cases e2:b.held=b.conf.lockMost
  .have hb:Xe b=Yw8 {b with m:=b.m.set b.holder.toNat {atI b.m b.holder with broken:=true}}:=by unfold Xe;rw[ZZj ⟨e,e2⟩]
   unfold Jb Zmh;rw[decide_eq_true e2,ZZj rfl,Wc h.ml (Ze1 h e).1,ZZa,Wx,ZZa,ZZa];have:=hJ8 w;rw[hb] at this;exact this
  .have hb:Xe b=b:=by unfold Xe;rw[ZZi (λhx:b.holder≠-1/\b.held=b.conf.lockMost=>e2 hx.2)]
   rw[decide_eq_false e2,hJ6];have:=hJ8 w
   rwa [hb] at this
theorem Yom (x0:Za) (w:Zm) (h:Y0 n b) (hs:s.sm) (hd:b.data_=Zg.z0) (hp:0<=b.picks/\b.picks<=4000) (hn:0<=b.now/\b.now<=4000) (hg:w.got=-1):(if decide (b.holder≥0)=true then J1 x0 s b w (decide (b.held≥b.conf.lockMost)) else J1 x0 s b w false)=some ({(Wu b s).2 with now:=b.now+1},{w with got:=(Wu b s).1}):=by
 obtain⟨h1,h2⟩:=Yco h s hd;have e1:=Zxs b;have e2:=Z5w (Xe b) s;have hz:=(Ydy h1 s (by rw[e1.1];exact hd)).2;have hJ9:Zdd x0 s (Xe b) w=some ({(Wu b s).2 with now:=b.now+1},{w with got:=(Wu b s).1}):=by
  unfold Zdd Zda Wu;have hgr:=Yym h2;have hgd:=(Z6h h2).1;rw[Yyd h1 hs (by rw[e1.2.2.1];exact hp),ZZa,hgr,ZZa];have hpk:=Zwg h2;rw[hgd,e2.1,e1.2.2.2.1,Ys (by omega) (by omega)];unfold Je;rcases hpk.who with hw|hw
  .rw[ZZj (show (Zaf (Qw (Xe b) s)).1 < 0 by rw[hw];decide)]
   have:(Zaf (Qw (Xe b) s)).2.2.addr.live=false:=by rw[hpk.addr,hz]
   rw[ZZi (by simp[this])];rw[show (-1,(Zaf (Qw (Xe b) s)).2.2).1=w.got from hg.symm]
  .have hmb:=Wa hw.1
   rw[ZZi (show ¬(Zaf (Qw (Xe b) s)).1 < 0 by omega),ZZj (by rfl)];rfl
 have hh:=Z2k h;have Ya:b.holder≥0↔b.holder≠-1:=by
  rcases hh with hh|hh
  .omega
  .have:=Wa hh;omega
 have hJ7:J1 x0 s b w false=Zdd x0 s b w:=by unfold J1;rw[ZZi (by simp)]
 by_cases e:b.holder=-1
 .have hb:Xe b=b:=by unfold Xe;rw[ZZi (λhx:b.holder≠-1/\b.held=b.conf.lockMost=>hx.1 e)]
  rw[ZZi (by simp;omega),hJ7]
  rwa [hb] at hJ9
 .rw[ZZj (by simpa using Ya.2 e)]
  have hhe:=(Ze1 h e).2.2.2;by_cases e2:b.held=b.conf.lockMost
  .have hb:Xe b=Yw8 {b with m:=b.m.set b.holder.toNat {atI b.m b.holder with broken:=true}}:=by unfold Xe;rw[ZZj ⟨e,e2⟩]
   unfold J1;rw[decide_eq_true (show b.held≥b.conf.lockMost by omega),ZZj rfl,Wc h.ml (Ze1 h e).1,ZZa,Wx,ZZa];rw[hb] at hJ9;exact hJ9
  .have hb:Xe b=b:=by unfold Xe;rw[ZZi (λhx:b.holder≠-1/\b.held=b.conf.lockMost=>e2 hx.2)]
   rw[decide_eq_false (show ¬b.held≥b.conf.lockMost by omega),hJ7]
   rwa [hb] at hJ9
theorem Y51 (x0:Za) (w:Zm) (h:Y0 b.now b) (hs:s.sm) (hw:w.ready=true) (hg:w.resp=0) (hp:0<=b.picks/\b.picks<=4000) (hn:0<=b.now/\b.now < 4000):
  Ji x0 s b w=some (if (Z9 b s).2.1=true then ({w with resp:=(Z9 b s).2.2,got:=(Wu (Z9 b s).1 s).1},{(Wu (Z9 b s).1 s).2 with now:=b.now+1}) else ({w with ready:=false,resp:=(Z9 b s).2.2},{(Z9 b s).1 with now:=b.now+1})):=by
 have hf:=Z9f s hn.1 h;have hfn:=Z55 b s;obtain⟨w1,w2,w3,w4,w5,w6,rdy,rsp,w9⟩:=w;simp only at hw hg;subst hw;subst hg;unfold Ji;rw[Yud (Zm.mk w1 w2 w3 w4 w5 w6 true 0 w9) h hs (by omega),ZZa];simp only;have hresp:(if b.data_.live=true/\¬b.data_.left > 0 then Zm.mk w1 w2 w3 w4 w5 w6 true b.data_.resp w9 else Zm.mk w1 w2 w3 w4 w5 w6 true 0 w9)=Zm.mk w1 w2 w3 w4 w5 w6 true (Z9 b s).2.2 w9:=by
  unfold Z9;by_cases hd:b.data_.live=true
  .by_cases hl:b.data_.left > 0
   .rw[ZZi (λhx:b.data_.live=true/\¬b.data_.left > 0=>hx.2 hl),ZZi (by simp[hd]),ZZj hl]
   .rw[ZZj ⟨hd,hl⟩,ZZi (by simp[hd]),ZZi hl]
    congr 1
    split
    .rfl
    .split
     .rfl
     .split<;>rfl
  .rw[ZZi (λhx:b.data_.live=true/\¬b.data_.left > 0=>hd hx.1),ZZj (by simpa using hd)]
 rw[hresp];by_cases hr:(Z9 b s).2.1=true
 .rw[ZZj hr,ZZj hr]
  simp only[hr];have:=Ynq x0 (Zm.mk w1 w2 w3 w4 w5 w6 true (Z9 b s).2.2 w9) hf.1 hs (hf.2 hr) (by rw[hfn.2.1];exact hp) (by rw[hfn.1];omega);rw[hfn.1] at this;exact this
 .rw[ZZi hr,ZZi hr]
  unfold Zen;have Z6:(Z9 b s).2.1=false:=by simpa using hr
  rw[Z6,hfn.1,Ys (by omega) (by omega)]
theorem Y5j (x0:Za) (w:Zm) (h:Y0 b.now b) (hs:s.sm) (hw:w.ready=true) (hg:w.resp=0) (hgot:w.got=-1) (hp:0<=b.picks/\b.picks<=4000) (hn:0<=b.now/\b.now < 4000):
  J0 x0 s b w=some (if (Z9 b s).2.1=true then ({(Wu (Z9 b s).1 s).2 with now:=b.now+1},{w with resp:=(Z9 b s).2.2,got:=(Wu (Z9 b s).1 s).1}) else ({(Z9 b s).1 with now:=b.now+1},{w with ready:=false,resp:=(Z9 b s).2.2})):=by
 have hf:=Z9f s hn.1 h;have hfn:=Z55 b s;have Yj9:=(W5 h.conf).2.1;obtain⟨w1,w2,w3,w4,w5,w6,rdy,rsp,w9⟩:=w;simp only at hw hg hgot;subst hw;subst hg;subst hgot;have hT:∀w2:Zm,w2.ready=true->w2.got=-1->(Z9 b s).2.1=true->Q5 x0 s (Z9 b s).1 w2=some ({(Wu (Z9 b s).1 s).2 with now:=b.now+1},{w2 with got:=(Wu (Z9 b s).1 s).1}):=by
  intro w2 h1 h2 hr;unfold Q5;rw[ZZj h1];have:=Yom x0 w2 hf.1 hs (hf.2 hr) (by rw[hfn.2.1];exact hp) (by rw[hfn.1];omega) h2;rw[hfn.1] at this;exact this
 have hF:∀(c:Za) (w2:Zm),w2.ready=false->c.now=b.now->Q5 x0 s c w2=some ({c with now:=b.now+1},w2):=by
  intro c w2 h1 h2;unfold Q5 Zda;rw[ZZi (by simp[h1]),h2,Ys (by omega) (by omega)]
 unfold J0 Zld;by_cases hd:b.data_.live=true
 .have Zaz:=h.data
  unfold Q4 at Zaz;rw[ZZj hd] at Zaz;rw[ZZj hd];by_cases hl:b.data_.left > 0
  .have e:Z9 b s=({b with data_:={b.data_ with left:=b.data_.left - 1}},false,0):=by
    unfold Z9;rw[ZZi (by simp[hd]),ZZj hl]
   rw[decide_eq_true hl,ZZj rfl,Y9 (by omega) (by omega),hF {b with data_:={b.data_ with left:=b.data_.left - 1}} (Zm.mk w1 w2 w3 w4 w5 w6 false 0 (-1)) rfl rfl,e,ZZi (by simp)]
  .rw[decide_eq_false hl,ZZi (by simp),ZZj hd]
   have Yia:¬(b.data_.resp≠0/\b.data_.second=false)->J2 x0 s b (Zm.mk w1 w2 w3 w4 w5 w6 true 0 (-1)) false=some (if (Z9 b s).2.1=true then ({(Wu (Z9 b s).1 s).2 with now:=b.now+1},Zm.mk w1 w2 w3 w4 w5 w6 true (Z9 b s).2.2 (Wu (Z9 b s).1 s).1) else ({(Z9 b s).1 with now:=b.now+1},Zm.mk w1 w2 w3 w4 w5 w6 false (Z9 b s).2.2 (-1))):=by
    intro hns;unfold J2;rw[ZZi (by simp),ZZj hd,Yuk h hs (by omega) hd hl hns,ZZa];have hr:(Z9 b s).2.1=true/\(Z9 b s).2.2=b.data_.resp:=by
     unfold Z9;rw[ZZi (by simp[hd]),ZZi hl,ZZi hns];split
     .exact⟨rfl,rfl⟩
     .split<;>exact⟨rfl,rfl⟩
    rw[ZZj hr.1,hr.2];exact hT _ rfl rfl hr.1
   by_cases h2:b.data_.resp≠0
   .rw[ZZj (decide_eq_true h2)]
    by_cases h3:b.data_.second=false
    .rw[h3]
     have e:Z9 b s=(if b.addr.live then {Wf {b with data_:={b.data_ with second:=true}} b.addr with addr:=Zg.z0} else {b with data_:={b.data_ with second:=true}},false,b.data_.resp):=by
      unfold Z9;rw[ZZi (by simp[hd]),ZZi hl,ZZj ⟨h2,h3⟩]
     have hq:∀(x y:Option (Za×Zm)),(if (Z9 b s).2.1=true then x else y)=y:=by
      intro x y;rw[e];exact ZZi (by simp)
     have hq2:(some (if (Z9 b s).2.1=true then ({(Wu (Z9 b s).1 s).2 with now:=b.now+1},Zm.mk w1 w2 w3 w4 w5 w6 true (Z9 b s).2.2 (Wu (Z9 b s).1 s).1) else ({(Z9 b s).1 with now:=b.now+1},Zm.mk w1 w2 w3 w4 w5 w6 false (Z9 b s).2.2 (-1))))=some ({(Z9 b s).1 with now:=b.now+1},Zm.mk w1 w2 w3 w4 w5 w6 false b.data_.resp (-1)):=by
      rw[show (Z9 b s).2.2=b.data_.resp by rw[e]];exact congrArg some (ZZi (by rw[e];simp))
     refine Eq.trans ?_ hq2.symm;unfold J2;rw[ZZj (by rfl),show (Z9 b s).1=(if b.addr.live then {Wf {b with data_:={b.data_ with second:=true}} b.addr with addr:=Zg.z0} else {b with data_:={b.data_ with second:=true}}) by rw[e]];by_cases ha:b.addr.live=true
     .rw[ZZj ha,ZZj ha]
      have hwa:=Zbj h ha;rw[Z3f (b:={b with addr:=Zg.z0,data_:={b.data_ with second:=true}}) b.addr h.conf hwa h.ml h.bl (h.mst _ hwa).right h.arb,ZZa];have er:Wf {b with addr:=Zg.z0,data_:={b.data_ with second:=true}} b.addr={Wf {b with data_:={b.data_ with second:=true}} b.addr with addr:=Zg.z0}:=by
       unfold Wf;split
       .rfl
       .split<;>rfl
      rw[er];exact hF _ _ rfl (Zxu _ _).1
     .rw[ZZi ha,ZZi ha]
      exact hF _ _ rfl rfl
    .have h4:b.data_.second=true:=by simpa using h3
     rw[h4,Va7];exact Yia λhx=>h3 hx.2
   .rw[ZZi (by simpa using h2)]
    exact Yia λhx=>h2 hx.1
 .have hd2:b.data_.live=false:=by simpa using hd
  have e:Z9 b s=(b,true,0):=by unfold Z9;rw[ZZj hd2]
  rw[ZZi hd,ZZi (by simp),ZZi hd];unfold J2;have:=hT (Zm.mk w1 w2 w3 w4 w5 w6 true 0 (-1)) rfl rfl (by rw[e]);rw[e] at this ⊢;rw[ZZi (by simp),ZZi hd,ZZj rfl];simp only at this ⊢;rw[this]
theorem Y6b (x0:Za) (w:Zm) (h:Y0 b.now b) (hs:s.sm) (hw:w.ready=true) (hg:w.resp=0) (hp:0<=b.picks/\b.picks<=4000) (hn:0<=b.now/\b.now < 4000):
  Zam x0 s FU b w (b.splits.length:Int) 0=Ji x0 s (Jo (Xi b)) w:=by
 have Yn:=Jw h.conf;have hsl:=h.sl;rw[hsl];have:=Zbv (σ:=Za×Zm×Int) (n:=b.conf.masters.length) (by omega) (λk=>(Zlo b k,w,(b.conf.masters.length:Int))) (B:=λκ st i=>Zhd x0 s (λa b c i=>κ (a,b,c) i) st.1 st.2.1 st.2.2 i) (L:=λm st i=>Zam x0 s m st.1 st.2.1 st.2.2 i) (λm s i=>rfl) (r:=Ji x0 s (Jo (Xi b)) w) (λk hk κ=>?_) λκ=>?_
 .simp only[Yu3] at this
  exact this
 .have hmk:=mas (c:=b.conf) hk
  obtain⟨t1,t2,t3,t4⟩:=Ygc h hk;have hsp:=(h.mst _ hmk).split;have hlm:=(W5 h.conf).2.2.2;unfold Zhd;simp only;rw[ZZj (by simpa using hk),t1,ZZa,Wx,ZZa,t3,ZZa,show (Zlo b k).conf=b.conf from rfl,Z1m hmk,ZZa,Yhy _ (Zhw h.conf hmk),ZZa,Wx,ZZa,Y9 (by omega) (by omega),Znp,Vbs,t2,t4];rfl
 .have hto:=Z5o h
  unfold Zhd;simp only[Ykr h];rw[ZZi (by simp)];unfold Jo;by_cases e:b.holder=-1
  .rw[ZZi (by simp[Xi,e]),ZZj (show (Xi b).holder=-1 from e)]
  .have hh:=(Ze1 hto (show (Xi b).holder≠-1 from e)).2.2.2
   have hl:=(W5 h.conf).2.2.1;have h3:(Xi b).conf.lockMost=b.conf.lockMost:=rfl;rw[ZZj (by simp[Xi,e]),ZZi (show ¬(Xi b).holder=-1 from e),Ys (by omega) (by omega),Zcl]
theorem Y41 (x0:Za) (w:Zm) (h:Y0 b.now b) (hs:s.sm):Za9 x0 s FU b w 0=J0 x0 s (Jo (Xi b)) w:=by
 have Yn:=Jw h.conf;have hml:=h.ml;have:=Zbv (σ:=Za×Zm) (n:=b.conf.masters.length) (by omega) (λk=>(Zlo b k,w)) (B:=λκ st i=>Zio x0 s (λa b i=>κ (a,b) i) st.1 st.2 i) (L:=λm st i=>Za9 x0 s m st.1 st.2 i) (λm s i=>rfl) (r:=J0 x0 s (Jo (Xi b)) w) (λk hk κ=>?_) λκ=>?_
 .simp only[Yu3] at this
  exact this
 .have hmk:=mas (c:=b.conf) hk
  obtain⟨t1,t2,t3,t4⟩:=Ygc h hk;have hsp:=(h.mst _ hmk).split;have hlm:=(W5 h.conf).2.2.2;unfold Zio;simp only;rw[ZZj (by show decide ((k:Int) < (b.m.length:Int))=true;rw[hml];simpa using hk),t1,ZZa,Wx,ZZa,t3,ZZa,show (Zlo b k).conf=b.conf from rfl,Z1m hmk,ZZa,Ygv _ (Zhw h.conf hmk),ZZa,Wx,ZZa,Y9 (by omega) (by omega),Znp,Int.max_comm,Vbs,t2,t4];rfl
 .have hto:=Z5o h
  have hh:=Z2k h;unfold Zio;simp only[Ykr h];rw[ZZi (by show ¬decide ((b.conf.masters.length:Int) < (b.m.length:Int))=true;rw[hml];simp)];unfold Jo;by_cases e:b.holder=-1
  .rw[ZZi (by show ¬decide (b.holder≥0)=true;rw[e];simp),ZZj (show (Xi b).holder=-1 from e)]
  .have hh2:=(Ze1 hto (show (Xi b).holder≠-1 from e)).2.2.2
   have hl:=(W5 h.conf).2.2.1;have h3:(Xi b).conf.lockMost=b.conf.lockMost:=rfl;have hmb:=Wa (Ze1 h e).1;rw[ZZj (by show decide (b.holder≥0)=true;simpa using hmb.1),ZZi (show ¬(Xi b).holder=-1 from e),Ys (by omega) (by omega),Zcl,Vdn]
theorem Ysh (h:Y0 n b):Zmc b s=Zeo b s (Zk1 b):=by
 unfold Zmc Zek Zk1;by_cases ha:b.addr.live=true
 .have hwa:=Zbj h ha
  by_cases hd:b.data_.live=true
  .have hwd:=Qv h hd
   simp only[ha,hd,if_true,Wc h.ml hwa,Wc h.ml hwd,ZZa,Zeq _ (h.mst _ hwa).right,Zeq _ (h.mst _ hwd).right];by_cases hf:b.addr.first=true<;>simp[hf]
  .have hd2:b.data_.live=false:=by simpa using hd
   simp only[ha,hd2,if_true,ZZf,if_false,Wc h.ml hwa,ZZa,Zeq _ (h.mst _ hwa).right];by_cases hf:b.addr.first=true<;>simp[hf]
 .have Ks:b.addr.live=false:=by simpa using ha
  by_cases hd:b.data_.live=true
  .have hwd:=Qv h hd
   simp only[Ks,hd,if_true,ZZf,if_false,Wc h.ml hwd,ZZa,Zeq _ (h.mst _ hwd).right]
  .have hd2:b.data_.live=false:=by simpa using hd
   simp only[Ks,hd2,if_true,ZZf,if_false]
theorem Y1p (h:Y0 n b):Zvp b=some (Zk1 b):=by
 unfold Zvp Zfu Zk1;by_cases ha:b.addr.live=true
 .have hwa:=Zbj h ha
  by_cases hd:b.data_.live=true
  .have hwd:=Qv h hd
   simp only[ha,hd,if_true,Wc h.ml hwa,Wc h.ml hwd,ZZa,Zhv _ (h.mst _ hwa).right,Zhv _ (h.mst _ hwd).right];by_cases hf:b.addr.first=true<;>simp[hf]
  .have hd2:b.data_.live=false:=by simpa using hd
   simp only[ha,hd2,if_true,ZZf,if_false,Wc h.ml hwa,ZZa,Zhv _ (h.mst _ hwa).right];by_cases hf:b.addr.first=true<;>simp[hf]
 .have Ks:b.addr.live=false:=by simpa using ha
  by_cases hd:b.data_.live=true
  .have hwd:=Qv h hd
   simp only[Ks,hd,if_true,ZZf,if_false,Wc h.ml hwd,ZZa,Zhv _ (h.mst _ hwd).right]
  .have hd2:b.data_.live=false:=by simpa using hd
   simp only[Ks,hd2,if_true,ZZf,if_false]
theorem Y48 (x0:Za) (w:Zm) (h:Y0 n b) (ps:List Zl) (hps:ps.length < 1048577/\∀p∈ps,p.req.sm):Zet x0 s FU b w ps (ps.length:Int) 0=Zam x0 s FU (Xw b ps) w ((Xw b ps).splits.length:Int) 0:=by
 have Ya:=Zcb h.conf;have:=Zbv (σ:=Za×Zm×List Zl×Int) (n:=ps.length) (by omega) (λk=>(Xw b (ps.take k),w,ps,(ps.length:Int))) (B:=λκ st i=>Zhk x0 s (λa b c d i=>κ (a,b,c,d) i) st.1 st.2.1 st.2.2.1 st.2.2.2 i) (L:=λm st i=>Zet x0 s m st.1 st.2.1 st.2.2.1 st.2.2.2 i) (λm s i=>rfl) (r:=Zam x0 s FU (Xw b ps) w ((Xw b ps).splits.length:Int) 0) (λk hk κ=>?_) λκ=>?_
 .exact this
 .have hI:=Zs4 h (ps.take k)
  have hc:=(Znb b (ps.take k)).1;rw[Z7q b ps k hk];generalize Xw b (ps.take k)=c at hI hc ⊢;unfold Zhk Kw;simp only;rw[ZZj (by simpa using hk),Xc hk,ZZa,Kr _ _ (by rw[hc];exact Ya),ZZa];by_cases e:Zu c.conf ps[k].who=true
  .obtain⟨ok,hp⟩:=Yp9 (r:=ps[k].req) (hI.mst _ e).right (hps.2 _ (Vaq hk))
   rw[ZZj e,ZZj e,Wc hI.ml e,ZZa,hp,ZZa,Wx,ZZa]
  .rw[ZZi e,ZZi e]
 .unfold Zhk
  simp only;rw[ZZi (by simp),Vbq]
theorem Y5x (x0:Za) (w:Zm) (h:Y0 n b) (ps:List Zl) (hps:ps.length < 1048577/\∀p∈ps,p.req.sm):Zgh x0 s FU b w ps 0=Za9 x0 s FU (Xw b ps) w 0:=by
 have Ya:=Zcb h.conf;have:=Zbv (σ:=Za×Zm×List Zl) (n:=ps.length) (by omega) (λk=>(Xw b (ps.take k),w,ps)) (B:=λκ st i=>Zi8 x0 s (λa b c i=>κ (a,b,c) i) st.1 st.2.1 st.2.2 i) (L:=λm st i=>Zgh x0 s m st.1 st.2.1 st.2.2 i) (λm s i=>rfl) (r:=Za9 x0 s FU (Xw b ps) w 0) (λk hk κ=>?_) λκ=>?_
 .exact this
 .have hI:=Zs4 h (ps.take k)
  have hc:=(Znb b (ps.take k)).1;rw[Z7q b ps k hk];generalize Xw b (ps.take k)=c at hI hc ⊢;unfold Zi8 Kw;simp only;rw[ZZj (by simpa using hk),Xc hk,ZZa,Zjw hI.ml (by rw[hc];exact Ya),ZZa];by_cases e:Zu c.conf ps[k].who=true
  .obtain⟨ok,hp⟩:=Yqu (r:=ps[k].req) (hI.mst _ e).right (hps.2 _ (Vaq hk))
   rw[ZZj e,ZZj e,Wc hI.ml e,ZZa,hp,ZZa,Wx,ZZa]
  .rw[ZZi e,ZZi e]
 .unfold Zi8
  simp only;rw[ZZi (by simp),Vbq]
end
theorem Y1m {b:Za} {s:Ze} (h:Zkj b) (hs:s.sm) (hn:b.now < 4000):Zmc b s=some ((Zkn b s).2,(Zkn b s).1):=by
 have hP:=Zs4 h.i (Zbh s b.now);have hc:=Znb b (Zbh s b.now);have hp:=h.picks;have hn2:=h.now;have hO:=Yiw h s;have eO:=Z9q b s;rw[Ysh h.i];unfold Zeo;rw[Yqd _ _ hs,ZZa,Y48 b (Zk1 b) h.i _ (Ypj hs _)];have hP2:Y0 (Xw b (Zbh s b.now)).now (Xw b (Zbh s b.now)):=by rw[hc.2.1];exact hP
 rw[Y6b b (Zk1 b) hP2 hs rfl rfl (by rw[hc.2.2.1];omega) (by rw[hc.2.1];omega)];have hO2:Y0 (Kv b s).now (Kv b s):=by rw[eO.1];exact hO
 show Ji b s (Kv b s) (Zk1 b)=_;rw[Y51 b (Zk1 b) hO2 hs rfl rfl (by rw[eO.2.2.1];omega) (by rw[eO.1];omega),eO.1];unfold Zkn;split<;>rfl
theorem Yz5 {b:Za} {s:Ze} (h:Zkj b) (hs:s.sm) (hn:b.now < 4000):Zu2 b s=some ((Zkn b s).1,(Zkn b s).2):=by
 have hP:=Zs4 h.i (Zbh s b.now);have hc:=Znb b (Zbh s b.now);have hp:=h.picks;have hn2:=h.now;have hO:=Yiw h s;have eO:=Z9q b s;unfold Zu2;rw[Z8s b h.sm,ZZa,Y1p h.i,ZZa,Yo3 _ _ hs,ZZa,Y5x b (Zk1 b) h.i _ (Ypj hs _)];have hP2:Y0 (Xw b (Zbh s b.now)).now (Xw b (Zbh s b.now)):=by rw[hc.2.1];exact hP
 rw[Y41 b (Zk1 b) hP2 hs];have hO2:Y0 (Kv b s).now (Kv b s):=by rw[eO.1];exact hO
 show J0 b s (Kv b s) (Zk1 b)=_;rw[Y5j b (Zk1 b) hO2 hs rfl rfl rfl (by rw[eO.2.2.1];omega) (by rw[eO.1];omega),eO.1];unfold Zkn;split<;>rfl
def okB (b:Za):Bool:=(Zng b).getD false
theorem Yvh {b:Za} (hs:b.sm):okB b=true↔Zkj b:=by
 obtain⟨r,-,h2,h3⟩:=Yd1 b hs;unfold okB;rw[h2];exact h3
theorem i_okB {b:Za} (hs:b.sm):Zq2 b=some (okB b):=by
 obtain⟨r,h1,h2,h3⟩:=Yd1 b hs;unfold okB;rw[h1,h2];rfl
theorem s_okB {b:Za} (hs:b.sm):Zng b=some (okB b):=by
 obtain⟨r,h1,h2,h3⟩:=Yd1 b hs;unfold okB;rw[h2];rfl
def Zrk (b:Za) (s:Ze):Nat->Za×List Zm
 | 0=>(b,[])
 | n+1=>((Zkn (Zrk b s n).1 s).1,(Zrk b s n).2++[(Zkn (Zrk b s n).1 s).2])
theorem Ya8 {b:Za} (h:Zkj b) (s:Ze):∀(n:Nat),b.now+n<=4000->Zkj (Zrk b s n).1/\(Zrk b s n).1.now=b.now+n/\(Zrk b s n).1.conf=b.conf/\(Zrk b s n).2.length=n:=by
 intro n
 induction n with
 | zero=>intro _;exact⟨h,by simp[Zrk],rfl,rfl⟩
 | succ n ih=>
  intro hn;obtain⟨h1,h2,h3,h4⟩:=ih (by omega);have:=Y6a h1 s (by omega);exact⟨this.1,by show (Zkn (Zrk b s n).1 s).1.now=_;rw[this.2.1,h2];omega,by show (Zkn (Zrk b s n).1 s).1.conf=_;rw[this.2.2,h3],by show ((Zrk b s n).2++_).length=_;rw[Vba,h4];rfl⟩
def Yd4 (b:Za) (s:Ze) (n:Int):Za×List Zm:=if okB b=true/\0<=n/\n<=4000 - b.now then Zrk b s n.toNat else (b,[])
theorem Ys9 {b:Za} {s:Ze} (n:Int) (hb:b.sm) (hs:s.sm):Zx5 b s n=some (Yd4 b s n):=by
 unfold Zx5 Yd4;rw[Ycv b hb,ZZa,i_okB hb,ZZa];unfold Zod;by_cases h:okB b=true
 .have hP:=(Yvh hb).1 h
  have hN:=hP.now;rw[h,ZZi (by simp),Y9 (by omega) (by omega),Xs,ZZa];by_cases hn:0<=n/\n<=4000 - b.now
  .rw[decide_eq_true hn,ZZi (by simp),ZZj ⟨rfl,hn⟩]
   obtain⟨k,rfl⟩:∃k:Nat,n=k:=⟨n.toNat,by omega⟩;rw[Vbs];refine Zbv (σ:=Za×List Zm) (n:=k) (by omega) (Zrk b s) (B:=λκ st i=>Zkp b s k (λx y i=>κ (x,y) i) st.1 st.2 i) (L:=λm st i=>Zob b s k m st.1 st.2 i) (λm s i=>rfl) (λj hj κ=>?_) λκ=>?_
   .have hr:=Ya8 hP s j (by omega)
    unfold Zkp;rw[ZZj (by simpa using hj),Y1m hr.1 hs (by omega),ZZa,Wg (by simp only[Vaa,Vap];omega) (by simp only[Vaa,Vap];omega)];rfl
   .have hr:=Ya8 hP s k (by omega)
    unfold Zkp;rw[ZZi (by simp),Ycv _ hr.1.sm];rfl
  .rw[decide_eq_false hn,ZZj (by simp),ZZi (λhx=>hn hx.2)]
 .have h2:okB b=false:=by simpa using h
  simp[h2]
theorem Ysk {b:Za} {s:Ze} (n:Int) (hb:b.sm) (hs:s.sm):Zya b s n=some (Yd4 b s n):=by
 unfold Zya Yd4;rw[Z8s b hb,ZZa,s_okB hb,ZZa];unfold Zn8;by_cases h:okB b=true
 .have hP:=(Yvh hb).1 h
  have hN:=hP.now;rw[h,ZZi (by simp),Y9 (by omega) (by omega),Xb,ZZa];by_cases hn:0<=n/\n<=4000 - b.now
  .rw[decide_eq_true hn,ZZi (by simp),ZZj ⟨rfl,hn⟩]
   obtain⟨k,rfl⟩:∃k:Nat,n=k:=⟨n.toNat,by omega⟩;rw[Vbs];refine Zbv (σ:=Za×List Zm) (n:=k) (by omega) (Zrk b s) (B:=λκ st i=>Zlk b s k (λx y i=>κ (x,y) i) st.1 st.2 i) (L:=λm st i=>Zog b s k m st.1 st.2 i) (λm s i=>rfl) (λj hj κ=>?_) λκ=>?_
   .have hr:=Ya8 hP s j (by omega)
    unfold Zlk;rw[ZZj (by simpa using hj),Yz5 hr.1 hs (by omega),ZZa,Wg (by simp only[Vaa,Vap];omega) (by simp only[Vaa,Vap];omega)];rfl
   .unfold Zlk
    rw[ZZi (by simp)]
  .rw[decide_eq_false hn,ZZj (by simp),ZZi (λhx=>hn hx.2)]
 .have h2:okB b=false:=by simpa using h
  simp[h2]
def Za5 (c:Zh):Za:={Za.z0 with conf:=c,m:=List.replicate c.masters.length Zb.z0,buckets:=c.masters.map Zvu,splits:=List.replicate c.masters.length 0,holder:=-1,last:=-1,model:=Zj.mk (List.replicate 192 0) (Zn.mk (List.replicate 4 0) 0 [])}
def Ya6 (c:Zh):Za×Bool:=if Xh c=true then (Za5 c,true) else (Za.z0,false)
theorem Ysp:Z42=some (Zn.mk (List.replicate 4 0) 0 []):=rfl
theorem Ylv:Zsu=some (Zj.mk (List.replicate 192 0) (Zn.mk (List.replicate 4 0) 0 [])):=by
 unfold Zsu;rw[show (192:Int)=((192:Nat):Int) from rfl,Z39 (by decide) (by decide),ZZa,Ysp];rfl
theorem Ylx:Ztj=some (Zj.mk (List.replicate 192 0) (Zn.mk (List.replicate 4 0) 0 [])):=by
 unfold Ztj
 first
 | rfl
 | (rw[show (192:Int)=((192:Nat):Int) from rfl,Z39 (by decide) (by decide),ZZa];rfl)
def Zfj (c:Zh) (k:Nat):Za:={Za5 c with m:=List.replicate k Zb.z0,buckets:=(c.masters.take k).map Zvu,splits:=List.replicate k 0}
theorem Ykt (c:Zh) {k:Nat} (hk:k < c.masters.length):Zfj c (k+1)={Zfj c k with m:=(Zfj c k).m++[Zb.z0],buckets:=(Zfj c k).buckets++[Zvu c.masters[k]],splits:=(Zfj c k).splits++[0]}:=by
 unfold Zfj;simp only[List.replicate_succ'];rw[List.take_succ_eq_append_getElem hk,Vc0];rfl
theorem Yps (c:Zh):Zfj c c.masters.length=Za5 c:=by
 unfold Zfj;rw[Vbq];rfl
theorem Ysg (c:Zh) (hl:c.masters.length < 1048577):Zxx c=some (Ya6 c):=by
 unfold Zxx Ya6;rw[Zpp c hl,ZZa];by_cases h:Xh c=true
 .rw[h,ZZi (by simp),(Z12 c hl).1,ZZa,Ylx,ZZa,ZZj rfl]
  rw[<-Yps c];refine Zbv (σ:=Za) (n:=c.masters.length) (by omega) (Zfj c) (B:=Zkv c) (L:=Zn0 c) (λm s i=>rfl) (λk hk κ=>?_) λκ=>?_
  .unfold Zkv
   have e1:(Zfj c k).m.length=k:=by simp[Zfj]
   have e2:(Zfj c k).buckets.length=k:=by simp[Zfj];omega
   have e3:(Zfj c k).splits.length=k:=by simp[Zfj]
   rw[ZZj (by simpa using hk),Xc hk,ZZa,Wg (by simp only[Vaa,Vap];omega) (by simp only[Vaa,Vap];omega),ZZa,Yju,ZZa,Wg (by simp only[Vaa,Vap];omega) (by simp only[Vaa,Vap];omega),ZZa,Wg (by simp only[Vaa,Vap];omega) (by simp only[Vaa,Vap];omega),ZZa,Ykt c hk]
  .unfold Zkv
   rw[ZZi (by simp)]
 .simp[h]
theorem Ys5 (c:Zh) (hl:c.masters.length < 1048577):Zx4 c=some (Ya6 c):=by
 unfold Zx4 Ya6;rw[Zgw c hl,ZZa];by_cases h:Xh c=true
 .rw[h,ZZi (by simp),(Z12 c hl).2,ZZa,Ylv,ZZa,ZZj rfl]
  rw[<-Yps c];refine Zbv (σ:=Za) (n:=c.masters.length) (by omega) (Zfj c) (B:=Zle c) (L:=Zoy c) (λm s i=>rfl) (λk hk κ=>?_) λκ=>?_
  .unfold Zle
   have e1:(Zfj c k).m.length=k:=by simp[Zfj]
   have e2:(Zfj c k).buckets.length=k:=by simp[Zfj];omega
   have e3:(Zfj c k).splits.length=k:=by simp[Zfj]
   rw[ZZj (by simpa using hk),Wg (by simp only[Vaa,Vap];omega) (by simp only[Vaa,Vap];omega),ZZa,Xc hk,ZZa,Yio,ZZa,Wg (by simp only[Vaa,Vap];omega) (by simp only[Vaa,Vap];omega),ZZa,Wg (by simp only[Vaa,Vap];omega) (by simp only[Vaa,Vap];omega),ZZa,Ykt c hk]
  .unfold Zle
   rw[ZZi (by simp)]
 .simp[h]
theorem Y2u (c:Zh) (i:Int):K0 (Za5 c) i=0:=rfl
theorem Ymz (c:Zh) {i:Int} (h:Zu c i=true):atI (Za5 c).m i=Zb.z0:=by
 obtain⟨k,rfl,hk⟩:=Z3u h;have hk2:k < (Za5 c).m.length:=by simpa [Za5] using hk
 rw[X5 hk2];simp[Za5]
theorem Y3u:Yv Zb.z0:=⟨by decide,by decide,λr hr=>absurd hr (by simp[Zb.z0]),λ_=>⟨rfl,rfl,rfl,rfl,rfl⟩,λh=>absurd rfl h⟩
theorem Y1u:Zdn (Zj.mk (List.replicate 192 0) (Zn.mk (List.replicate 4 0) 0 [])):=⟨Vcu,by show (List.replicate 192 (0:Int)).all Zb2=true;rw[List.all_replicate];rfl,⟨rfl,by show ∀v∈List.replicate 4 (0:Int),Xt v 2=true;decide,by show Xt 0 2=true;decide,by show 0<=4;decide,λv hv=>absurd hv (by show ¬v∈([]:List Int);simp)⟩⟩
theorem Yqs {c:Zh} (h:Xh c=true):Zkj (Za5 c):=by
 have hl:=Jw h;have hm0:Zu c 0=true:=by simp only[Zu,ZZl];omega
 have hsl:0 < Kt c:=by
  have:=Zz1 c;simp only[Xh,ZZg,ZZl] at h;omega
 have Yj9:=W5 h;have e0:(0:Int)<=0:=Vdq 0;refine⟨h,⟨e0,by show (0:Int)<=4000;omega⟩,by simp[Za5],by simp[Za5],by simp[Za5],λi hi=>⟨by rw[Ymz c hi];exact Y3u,?_,?_,?_⟩,?_,.inl rfl,?_,⟨e0,e0⟩,λhx=>absurd hx (by simp[Za5,Za.z0,Zg.z0]),λhx=>absurd hx (by simp[Za5,Za.z0,Zg.z0]),λi hi=>?_,?_,?_,⟨λi hi hb=>?_,?_⟩,λd hd=>absurd hd (by simp[Za5,Za.z0]),?_⟩
 .rw[Ymz c hi]
  show (0:Int)<=c.maxRetry;exact Yj9.1.1
 .obtain⟨k,rfl,hk⟩:=Z3u hi
  have hk2:k < (Za5 c).buckets.length:=by simpa [Za5] using hk
  have hk:k < c.masters.length:=hk;have hm:=Zhw h hi;show Yw (atI (Za5 c).buckets k) (atI c.masters k)=true;rw[X5 hk] at hm ⊢;rw[X5 hk2];have:(Za5 c).buckets[k]=Zvu c.masters[k]:=by simp[Za5]
  rw[this];exact Y6r hm ⟨hsl,λhp=>List.countP_pos_iff.2 ⟨_,Vaq hk,hp⟩⟩
 .obtain⟨k,rfl,hk⟩:=Z3u hi
  have hk2:k < (Za5 c).splits.length:=by simpa [Za5] using hk
  rw[X5 hk2];have:(Za5 c).splits[k]=0:=by simp[Za5]
  rw[this];exact⟨e0,by show (0:Int)<=c.maxSplit;omega⟩
 .show Zab Z5.z0 c=true
  unfold Zab;have:=Zue c 0;simp[h,hm0,Z5.z0,this.1]
 .exact Y1u
 .rw[Ymz c hi,Y2u];rfl
 .unfold Ku
  rw[ZZi (by simp[Za5,Za.z0,Zg.z0])];rfl
 .unfold Q4
  rw[ZZi (by simp[Za5,Za.z0,Zg.z0])];rfl
 .rw[Ymz c hi] at hb
  exact absurd hb (by decide)
 .show if (-1:Int)=-1 then (0:Int)=0 else _
  rw[ZZj rfl]
 .exact List.Pairwise.nil
theorem Y52 {c:Zh} (h:Xh c=true):Ya6 c=(Za5 c,true):=ZZj h
theorem Bool.not_ok {b:Bool} (h:¬b=true):b=false:=by simpa using h
theorem Yzp {n:Nat} (hn:n < 4611686018427387904) (q:Nat->Bool) {fin:Option Bool} {B:(Int->Option Bool)->Int->Option Bool} {L:Nat->Int->Option Bool} (hL:∀m i,L (m+1) i=B (L m) i)
  (hs:∀k,k < n->∀κ,B κ (k:Int)=if q k=true then κ (Zs (k:Int) 1) else some false) (hf:∀κ,B κ (n:Int)=fin):L FU 0=if (List.range n).all q=true then fin else some false:=by
 have key:∀(m k:Nat),k<=n->n - k < m->L m (k:Int)=if (List.range' k (n - k)).all q=true then fin else some false:=by
  intro m
  induction m with
  | zero=>intro k _ h;omega
  | succ m ih=>
   intro k hk hm;rw[hL];by_cases hc:k < n
   .rw[hs k hc,Wi (by omega),ih (k+1) (by omega) (by omega),show n - k=(n - (k+1))+1 by omega,Vcw,Va6]
    cases q k<;>rfl
   .have:k=n:=by omega
    subst this;rw[hf,Vd2];simp
 have:=key FU 0 (Vbk _) (by have:=Kb;omega);rw[Vck];simpa using this
instance:Inhabited Zl:=⟨⟨0,0,⟨false,0,0,0,false,[]⟩⟩⟩
def Zzo (c:Zh) (s:Ze) (k:Nat):Bool:=decide (0<=(atI s.posts (k:Int)).at_/\(atI s.posts (k:Int)).at_<=4000)&&(Zu c (atI s.posts (k:Int)).who&&(Zb1 (atI s.posts (k:Int)).req&&(decide (k=0)||decide ((atI s.posts ((k - 1:Nat):Int)).at_<=(atI s.posts (k:Int)).at_))))
def Zia (c:Zh) (s:Ze):Bool:=(List.range s.posts.length).all (Zzo c s)&&(Xh c&&(decide (s.posts.length<=20)&&(decide (s.waits.length<=20)&&decide (s.says.length<=20))))
theorem Yl8 (c:Zh) (s:Ze) (hl:c.masters.length < 1048577) (hs:s.sm):Zrw c s=some (Zia c s):=by
 unfold Zrw Zia;have hp:=hs.posts;rw[Yzp (n:=s.posts.length) (by omega) (Zzo c s) (B:=Zhi c s) (L:=Zjc c s) (fin:=some (Xh c&&(decide (s.posts.length<=20)&&(decide (s.waits.length<=20)&&decide (s.says.length<=20))))) (λm i=>rfl) (λk hk κ=>?_) λκ=>?_]
 .cases (List.range s.posts.length).all (Zzo c s)<;>simp
 .unfold Zhi Zzo
  rw[ZZj (by simpa using hk),Xc hk,ZZa,Xb,ZZa,Xb,Zyo _ hl,ZZa,Z6s _ (hs.reqs _ (Vaq hk)),ZZa,X5 hk];by_cases h1:0<=s.posts[k].at_/\s.posts[k].at_<=4000
  .by_cases h2:Zu c s.posts[k].who=true
   .by_cases h3:Zb1 s.posts[k].req=true
    .by_cases h4:k=0
     .subst h4;simp[h1,h2,h3]
     .have hk1:k - 1 < s.posts.length:=by omega
      rw[Y9 (by omega) (by omega),show (k:Int) - 1=((k - 1:Nat):Int) by omega,Xc hk1,ZZa,X5 hk1];have h5:(k:Int) > 0:=by omega
      by_cases h6:s.posts[k].at_ < s.posts[k - 1].at_
      .have:¬s.posts[k - 1].at_<=s.posts[k].at_:=by omega
       simp[h1,h2,h3,h4,h6,this]
       try omega
      .have:s.posts[k - 1].at_<=s.posts[k].at_:=by omega
       simp[h1,h2,h3,h4,h6,this]
    .simp[h1,h2,h3]
   .simp[h1,h2]
  .simp[h1]
 .unfold Zhi
  rw[ZZi (by simp),Zgw c hl,ZZa];have e:∀n:Nat,decide ((n:Int)<=20)=decide (n<=20):=λn=>by congr 1;exact propext ⟨λh=>by omega,λh=>by omega⟩
  rw[e,e,e];cases Xh c<;>by_cases h1:s.posts.length<=20<;>by_cases h2:s.waits.length<=20<;>simp[h1,h2]
theorem Ymc (c:Zh) (s:Ze) (hl:c.masters.length < 1048577) (hs:s.sm):Ztv c s=some (Zia c s):=by
 unfold Ztv Zia Zci;have hp:=hs.posts;have e:∀n:Nat,decide ((n:Int) > 20)=!decide (n<=20):=λn=>by
  by_cases h:n<=20
  .simp[h];omega
  .simp[h];omega
 rw[Zpp c hl,ZZa,Yzp (n:=s.posts.length) (by omega) (Zzo c s) (B:=Zhg c s) (L:=Zit c s) (fin:=some true) (λm i=>rfl) (λk hk κ=>?_) λκ=>?_,e,e,e]
 .cases Xh c<;>cases (List.range s.posts.length).all (Zzo c s)<;>by_cases h1:s.posts.length<=20<;>by_cases h2:s.waits.length<=20<;>by_cases h3:s.says.length<=20<;>simp[h1,h2,h3]
 .unfold Zhg Zzo
  rw[ZZj (by simpa using hk),Xc hk,ZZa,Xs,ZZa,Kr c _ hl,ZZa,Z6n _ (hs.reqs _ (Vaq hk)),ZZa,X5 hk];by_cases h1:0<=s.posts[k].at_/\s.posts[k].at_<=4000
  .by_cases h4:k=0
   .subst h4
    by_cases h2:Zu c s.posts[0].who=true
    .by_cases h3:Zb1 s.posts[0].req=true
     .simp[h1,h2,h3]
     .simp[h1,h2,h3]
    .simp[h1,h2]
   .have hk1:k - 1 < s.posts.length:=by omega
    rw[Y9 (by omega) (by omega),show (k:Int) - 1=((k - 1:Nat):Int) by omega,Xc hk1,ZZa,X5 hk1];by_cases h6:s.posts[k].at_ < s.posts[k - 1].at_
    .have:¬s.posts[k - 1].at_<=s.posts[k].at_:=by omega
     have h5:0 < k:=by omega
     simp[h1,h4,h6,this,h5]
    .have:s.posts[k - 1].at_<=s.posts[k].at_:=by omega
     have h5:0 < k:=by omega
     by_cases h2:Zu c s.posts[k].who=true
     .by_cases h3:Zb1 s.posts[k].req=true
      .simp[h1,h2,h3,h4,h6,this,h5]
      .simp[h1,h2,h3,h4,h6,this,h5]
     .simp[h1,h2,h4,h6,this,h5]
  .simp[h1]
 .unfold Zhg
  rw[ZZi (by simp)]
def Z2f (c:Zh) (s:Ze) (n:Int):Za×Bool:=if Zia c s=true/\0<=n/\n<=4000 then ((Yd4 (Za5 c) s n).1,true) else (Za.z0,false)
theorem Z26 {c:Zh} {s:Ze} (h:Zia c s=true):Xh c=true:=by
 simp only[Zia,ZZg] at h;exact h.2.1
theorem Y1d (c:Zh) (s:Ze) (n:Int) (hl:c.masters.length < 1048577) (hs:s.sm):Z6w c s n=some (Z2f c s n):=by
 unfold Z6w Z2f Znd;rw[Ysg c hl,ZZa,Ymc c s hl hs,ZZa,Xs,ZZa];unfold Ya6;by_cases h0:Zia c s=true
 .have hc:=Z26 h0
  rw[ZZj hc,h0];by_cases h1:0<=n/\n<=4000
  .rw[Ys9 n (Yqs hc).sm hs]
   simp[h1]
  .rw[ZZi (λhx:true=true/\0<=n/\n<=4000=>h1 hx.2)]
   simp[h1]
 .have h0:Zia c s=false:=Bool.not_ok h0
  rw[h0];split<;>simp
theorem Y1r (c:Zh) (s:Ze) (n:Int) (hl:c.masters.length < 1048577) (hs:s.sm):Z46 c s n=some (Z2f c s n):=by
 unfold Z46 Z2f Zss;rw[Yl8 c s hl hs,ZZa,Xb,ZZa];by_cases h0:Zia c s=true
 .have hc:=Z26 h0
  rw[h0,Ys5 c hl,ZZa,Y52 hc,Ysk n (Yqs hc).sm hs];by_cases h1:0<=n/\n<=4000
  .simp[h1]
  .rw[ZZi (λhx:true=true/\0<=n/\n<=4000=>h1 hx.2)]
   simp[h1]
 .have h0:Zia c s=false:=Bool.not_ok h0
  rw[h0];simp
def Zbc (left:Int) (n:Nat):Int:=if left < (n:Int) then -1 else left - n
def Sz (f:Int->Option Int) (n:Nat):Prop:=∀left,0<=left->left<=1048576->f left=some (Zbc left n)
theorem Sz.tail {f:Int->Option Int} {n:Nat} (h:Sz f n):Sz (λl=>(f l).bind λr=>if decide (r < 0)=true then some (-1) else some r) n:=by
 intro l h0 h1;dsimp only;rw[h l h0 h1,ZZa];unfold Zbc;by_cases hc:l < (n:Int)
 .simp[hc]
 .rw[ZZi hc,ZZi (by simp;omega)]
theorem Sz.seq {f g:Int->Option Int} {n m:Nat} (h:Sz f n) (k:Sz g m):Sz (λl=>(f l).bind λr=>if decide (r < 0)=true then some (-1) else g r) (n+m):=by
 intro l h0 h1;dsimp only;rw[h l h0 h1,ZZa];unfold Zbc;by_cases hc:l < (n:Int)
 .rw[ZZj hc,ZZj (by decide),ZZj (by omega)]
 .rw[ZZi hc,ZZi (by simp;omega),k _ (by omega) (by omega)]
  unfold Zbc;by_cases hd:l - (n:Int) < (m:Int)
  .rw[ZZj hd,ZZj (by omega)]
  .rw[ZZi hd,ZZi (by omega)]
   congr 1;omega
theorem Sz.flat {n:Nat} (hn:n<=9223372036854775807):Sz (λl=>if decide ((Xa l (n:Int)) < 0)=true then some (-1) else some (Xa l (n:Int))) n:=by
 intro l h0 h1;dsimp only;rw[Y9 (by omega) (by omega)];unfold Zbc;by_cases h:l < (n:Int)
 .rw[ZZj (by simp;omega),ZZj h]
 .rw[ZZi (by simp;omega),ZZi h]
theorem Sz.list {α:Type} (xs:List α) (f:α->Int->Option Int) (t:α->Nat) (hn:xs.length<=9223372036854775807) (hf:∀a∈xs,Sz (f a) (t a)) (L:Int->Nat->Int->Int->Option Int)
  (hL:∀l m v i,L l (m+1) v i=if decide (i < (xs.length:Int))=true then (idx xs i).bind λa=>(f a v).bind λr=>if decide (r < 0)=true then some (-1) else L l m r (Zs i 1) else some v):
  Sz (λl=>if decide ((Xa l (xs.length:Int)) < 0)=true then some (-1) else L l FU (Xa l (xs.length:Int)) 0) (xs.length+(xs.map t).sum):=by
 intro l h0 h1;dsimp only;rw[Y9 (by omega) (by omega)];by_cases h:l < (xs.length:Int)
 .rw[ZZj (by simp;omega)]
  unfold Zbc;rw[ZZj (by omega)]
 .rw[ZZi (by simp;omega)]
  have key:=Yeu (ρ:=Int) xs (by omega) (λa s=>(f a s).bind λr=>if decide (r < 0)=true then some (.inr (-1)) else some (.inl r)) some (L l) (λm s i=>by
   rw[hL]
   congr 1;congr 1;funext a
   cases f a s with
   | none=>rfl
   | some r=>
    simp only[ZZa];by_cases hr:r < 0<;>simp[hr,goL]) (l - xs.length)
  rw[key];have run:∀(ys:List α) (s:Int),0<=s->s<=1048576->(∀a∈ys,Sz (f a) (t a))->Z3m (λa s=>(f a s).bind λr=>if decide (r < 0)=true then some (.inr (-1)) else some (.inl r)) some ys s=some (Zbc s (ys.map t).sum):=by
   intro ys
   induction ys with
   | nil=>intro s hs0 _ _;simp[Z3m,Zbc];omega
   | cons p ys ih=>
    intro s hs0 hs1 hp;simp only[Z3m,hp p Vab s hs0 hs1,ZZa,Va2,Vde];unfold Zbc;by_cases hr:s < (t p:Int)
    .rw[ZZj hr,ZZj (by decide),ZZj (by omega)]
     rfl
    .rw[ZZi hr,ZZi (by simp;omega)]
     simp only[ZZa];rw[ih _ (by omega) (by omega) (λq hq=>hp q (Vad _ hq))];unfold Zbc;by_cases h3:s - (t p:Int) < ((ys.map t).sum:Nat)
     .rw[ZZj h3,ZZj (by omega)]
     .rw[ZZi h3,ZZi (by omega)]
      congr 1;omega
  rw[run xs _ (by omega) (by omega) hf];unfold Zbc;by_cases h3:l - (xs.length:Int) < ((xs.map t).sum:Nat)
  .rw[ZZj h3,ZZj (by omega)]
  .rw[ZZi h3,ZZi (by omega)]
   congr 1;omega
theorem Zv6 {α:Type} {xs:List α} {t:α->Nat} {a:α} (h:a∈xs):t a<=(xs.map t).sum:=by
 induction xs with
 | nil=>simp at h
 | cons q l ih=>
  simp only[Va2,Vde];rcases Vav.1 h with rfl|h
  .omega
  .have:=ih h;omega
def Zi.tot (r:Zi):Nat:=r.data_.length
def Zeg (l:List Zi):Nat:=l.length+(l.map Zi.tot).sum
def Zb.tot (m:Zb):Nat:=Zeg m.queue
def Zke (l:List Zb):Nat:=l.length+(l.map Zb.tot).sum
def Zj.tot (m:Zj):Nat:=m.mem.length+(m.dev.regs.length+m.dev.fifo.length)
def Za.tot (b:Za):Nat:=b.conf.masters.length+(Zke b.m+(b.buckets.length+(b.splits.length+(b.model.tot+b.log.length))))
theorem Y06 (c:Zh) (h:c.ok):Sz (Ztw c) c.masters.length:=(Sz.flat (by have:=h.1.1;unfold maxLen at this;omega)).tail
theorem Y2h (r:Zi) (h:r.ok):Sz (Z1u r) r.tot:=(Sz.flat (by have:=h.2.2.2.2.2.1;unfold maxLen at this;omega)).tail
theorem Z8q (xs:List Int) (hl:xs.length < 1048577):Zn2 xs=some xs:=by
 unfold Zn2;rw[Z39 (by omega) (by omega),ZZa];have:=Yem xs id (by omega) some (λa _=>rfl) (Zoa xs) (λm v i=>rfl) (List.replicate xs.length 0) (by simp);simpa using this
theorem Y1q (c:Zh) (hl:c.masters.length < 1048577):Zxn c=some c:=by
 have:Zrm c.masters=some c.masters:=by
  unfold Zrm;rw[Z39 (by omega) (by omega),ZZa];have:=Yem c.masters id (by omega) Z3i (λa _=>rfl) (Zjl c.masters) (λm v i=>rfl) (List.replicate c.masters.length Zc.z0) (by simp);simpa using this
 unfold Zxn;rw[this];rfl
theorem Y2v (r:Zi) (h:r.data_.length < 1048577):Zwa r=some r:=by
 unfold Zwa;rw[Z8q _ h];rfl
theorem Zyv {α:Type} (xs:List α) (hl:xs.length < 4611686018427387904) (e:α->α->Option Bool) (L:Nat->Int->Option Bool)
  (hL:∀m i,L (m+1) i=if decide (i < (xs.length:Int))=true then (idx xs i).bind λa=>(idx xs i).bind λb=>(e a b).bind λr=>if (!r)=true then some false else L m (Zs i 1) else some true)
  (he:∀a∈xs,e a a=some true):(if decide ((xs.length:Int)≠(xs.length:Int))=true then some false else L FU 0)=some true:=by
 rw[ZZi (by simp)];refine Yqn (n:=xs.length) hl (B:=λκ i=>if decide (i < (xs.length:Int))=true then (idx xs i).bind λa=>(idx xs i).bind λb=>(e a b).bind λr=>if (!r)=true then some false else κ (Zs i 1) else some true) (L:=L) hL (λk hk κ=>?_) λκ=>?_
 .rw[ZZj (by simpa using hk),Xc hk,ZZa,ZZa,he _ (Vaq hk)]
  rfl
 .rw[ZZi (by simp)]
theorem Zgv (xs:List Int) (hl:xs.length < 1048577):Zcq xs xs=some true:=by
 unfold Zcq;rw[ZZi (by simp)];refine Yqn (n:=xs.length) (by omega) (B:=Zkm xs xs) (L:=Zop xs xs) (λm i=>rfl) (λk hk κ=>?_) λκ=>?_
 .unfold Zkm
  rw[ZZj (by simpa using hk),Xc hk];simp
 .unfold Zkm
  rw[ZZi (by simp)]
theorem Ypb (m:Zc):Zpj m m=some true:=by unfold Zpj;simp
theorem Ycp (c:Zh) (hl:c.masters.length < 1048577):Zsh c c=some true:=by
 have:Zrt c.masters c.masters=some true:=by
  unfold Zrt;exact Zyv c.masters (by omega) Zpj (Zjs c.masters c.masters) (λm i=>rfl) (λa _=>Ypb a)
 unfold Zsh;rw[this];simp
theorem Yhl (r:Zi) (h:r.data_.length < 1048577):Zq1 r r=some true:=by
 unfold Zq1;rw[Zgv _ h];simp
theorem Ytb (l:List Zi) (h:Zeg l < 1048577):Zyg l l=some true:=by
 unfold Zeg at h;unfold Zyg;exact Zyv l (by omega) Zq1 (Zon l l) (λm i=>rfl) (λa ha=>Yhl a (by have:=Zv6 (t:=Zi.tot) ha;unfold Zi.tot at this h;omega))
theorem Yuc (l:List Zb) (h:Zke l < 1048577):Zxz l l=some true:=by
 unfold Zke at h;unfold Zxz;exact Zyv l (by omega) Z1v (Zou l l) (λm i=>rfl) (λa ha=>by
  unfold Z1v;rw[Ytb _ (by have:=Zv6 (t:=Zb.tot) ha;unfold Zb.tot at this h;omega)];simp)
theorem Yo9 (m:Zj) (h:m.tot < 1048577):Zvw m m=some true:=by
 unfold Zj.tot at h;unfold Zvw Z7r;rw[Zgv _ (by omega),Zgv m.dev.regs (by omega),Zgv m.dev.fifo (by omega)];simp
theorem Yr5 (d:Zr):Zsx d d=some true:=by unfold Zsx;simp
theorem Ynf (l:List Zr) (h:l.length < 1048577):Zvd l l=some true:=by
 unfold Zvd;exact Zyv l (by omega) Zsx (Zlc l l) (λm i=>rfl) (λa _=>Yr5 a)
theorem Ys4 (x:Zg):Zsq x x=some true:=by unfold Zsq;simp
theorem Yxi (b:Za) (h:b.tot < 1048577):Zwv b b=some true:=by
 unfold Za.tot at h;have e1:Zp5 b.buckets b.buckets=some true:=by
  unfold Zp5;exact Zyv b.buckets (by omega) Zr8 (Zhl b.buckets b.buckets) (λm i=>rfl) (λa _=>by unfold Zr8;simp)
 have e2:Z2i b.arb b.arb=some true:=by unfold Z2i;simp
 unfold Zwv;simp[Ycp b.conf (by omega),Yuc b.m (by omega),e1,e2,Zgv b.splits (by omega),Ys4,Yo9 b.model (by omega),Ynf b.log (by omega)]
def Zl.tot (p:Zl):Nat:=p.req.tot
def Zjo (l:List Zl):Nat:=l.length+(l.map Zl.tot).sum
def Ze.tot (s:Ze):Nat:=Zjo s.posts+(s.waits.length+s.says.length)
theorem Y1v (p:Zl) (h:p.ok):Sz (Zx7 p) p.tot:=(Y2h p.req h.2.2).tail
theorem Yxh (l:List Zl) (h0:l.length<=maxLen) (h:∀r∈l,r.ok):Sz (Z3h l) (Zjo l):=
 Sz.list l Zx7 Zl.tot (by unfold maxLen at h0;omega) (λa ha=>Y1v a (h a ha)) (Zkt l) (λ_ _ _ _=>rfl)
theorem Yte (s:Ze) (h:s.ok):Sz (Zt0 s) s.tot:=by
 have h1:=h.1.1;have h2:=h.2.1.1;have h3:=h.2.2.1;unfold maxLen at h1 h2 h3;exact (Yxh s.posts h.1.1 h.1.2).seq ((Sz.flat (by omega)).seq (Sz.flat (by omega)).tail)
theorem Y1l (p:Zl) (h:p.tot < 1048577):Zru p=some p:=by
 unfold Zru;rw[Y2v _ h];rfl
theorem Yv7 (l:List Zl) (h:Zjo l < 1048577):Zvo l=some l:=by
 unfold Zjo at h;unfold Zvo;rw[Z39 (by omega) (by omega),ZZa];have:=Yem l id (by omega) Zru (λa ha=>Y1l a (by have:=Zv6 (t:=Zl.tot) ha;omega)) (Zkx l) (λm v i=>rfl) (List.replicate l.length Zl.z0) (by simp);simpa using this
theorem Ysu (s:Ze) (h:s.tot < 1048577):Zs9 s=some s:=by
 unfold Ze.tot at h;unfold Zs9;rw[Yv7 _ (by omega),ZZa,Z8q _ (by omega),ZZa,Z8q _ (by omega)];rfl
theorem Ytm (p:Zl) (h:p.tot < 1048577):Zso p p=some true:=by
 unfold Zso;rw[Yhl _ h];simp
theorem Yn2 (l:List Zl) (h:Zjo l < 1048577):Zvf l l=some true:=by
 unfold Zjo at h;unfold Zvf;exact Zyv l (by omega) Zso (Zk2 l l) (λm i=>rfl) (λa ha=>Ytm a (by have:=Zv6 (t:=Zl.tot) ha;omega))
theorem Yls (s:Ze) (h:s.tot < 1048577):Zrv s s=some true:=by
 unfold Ze.tot at h;unfold Zrv;rw[Yn2 _ (by omega),ZZa,ZZi (by simp),Zgv _ (by omega),ZZa,ZZi (by simp),Zgv _ (by omega)];simp
theorem Ze.small {s:Ze} (h:s.tot < 1048577) (Y5:s.ok):s.sm:=by
 unfold Ze.tot Zjo at h;refine⟨by omega,λp hp=>?_,by omega,by omega,λw hw=>ok_i64 (Y5.2.1.2 w hw)⟩;have:=Zv6 (t:=Zl.tot) hp;unfold Zl.tot Zi.tot at this h;unfold Zi.sm;omega
theorem Yso {l:List Zi} {r:Zi} (h:r∈l):r.data_.length<=Zeg l:=by
 have:=Zv6 (t:=Zi.tot) h;unfold Zeg;unfold Zi.tot at this ⊢;omega
theorem Yrz {l:List Zb} {m:Zb} (h:m∈l):Zeg m.queue<=Zke l:=by
 have:=Zv6 (t:=Zb.tot) h;unfold Zke;unfold Zb.tot at this ⊢;omega
theorem Za.small {b:Za} (h:b.tot < 1048577):b.sm:=by
 have hm:∀x∈b.m,Zeg x.queue<=Zke b.m:=λx hx=>Yrz hx;unfold Za.tot Zj.tot at h;have h1:b.m.length<=Zke b.m:=by unfold Zke;omega
 refine⟨by omega,by omega,λx hx=>?_,by omega,by omega,⟨by omega,by omega,by omega⟩,by omega⟩;have:=hm x hx;have hl:x.queue.length<=Zeg x.queue:=by unfold Zeg;omega
 refine⟨by omega,λr hr=>?_⟩;have:=Yso hr;unfold Zi.sm;omega
theorem Ze.mk_ok {s:Ze} (h:s.tot < 1048577):s.mok:=by
 unfold Ze.tot Zjo at h;refine⟨⟨by omega,λp hp=>?_⟩,by omega,by omega⟩;have:=Zv6 (t:=Zl.tot) hp;unfold Zl.tot Zi.tot at this h;omega
theorem Za.mk_ok {b:Za} (hs:b.sm):b.mok:=by
 have h1:=hs.conf;have h2:=hs.ml;have h3:=hs.bl;have h4:=hs.sl;have h5:=hs.log;have h6:=hs.model.1;have h7:=hs.model.2.1;have h8:=hs.model.2.2;refine⟨by unfold Zh.mok;omega,⟨by omega,λx hx=>?_⟩,by omega,by omega,⟨by omega,⟨by omega,by omega⟩⟩,by omega⟩;have h9:=hs.mst x hx;have:=h9.1;refine⟨by omega,λr hr=>?_⟩;have:=h9.2 r hr;unfold Zi.sm at this;omega
theorem Yjl {α:Type} {w t:α->Nat} {c:Nat} (h:∀x,w x<=c*t x+c) (l:List α):Ky w l<=c*(l.length+(l.map t).sum):=by
 induction l with
 | nil=>simp[Ky]
 | cons x l ih=>
  have:=h x;rw[Znf,Vaa,Va2,Vde];have e:c*(l.length+1+(t x+(l.map t).sum))=c*(l.length+(l.map t).sum)+(c*t x+c):=by
   rw[Vec,Vec,Vec,Vec];omega
  omega
theorem Y07 (l:List Zi):Ky Z2y l<=5*Zeg l:=Yjl (λx=>by unfold Z2y Zi.tot;omega) l
theorem Yz9 (l:List Zb):Ky Zh1 l<=5*Zke l:=Yjl (λx=>by
 have:=Y07 x.queue;unfold Zh1 Zb.tot;omega) l
def Yeh (b:Za):Nat:=4*b.conf.masters.length+Ky Zh1 b.m+2*b.buckets.length+b.splits.length+b.model.mem.length+b.model.dev.regs.length+b.model.dev.fifo.length+7*b.log.length
theorem Y43 {b:Za}:Yeh b<=7*b.tot:=by
 have:=Yz9 b.m;unfold Yeh Za.tot Zj.tot;omega
theorem Yvc {l:List Zc} {k:Int} (h0:0<=k) (h1:k+4*(l.length:Int)<=1152921504606846976):(mkL Jr l k).2=k+4*(l.length:Int):=by
 have e:=Zmp (α:=Zc) 4 l;rw[Zq8 Ykf (l:=l) h0 (by rw[e];omega),e];omega
theorem Y45 {l:List Zf} {k:Int} (h0:0<=k) (h1:k+2*(l.length:Int)<=1152921504606846976):(mkL Y8 l k).2=k+2*(l.length:Int):=by
 have e:=Zmp (α:=Zf) 2 l;rw[Zq8 Yf6 (l:=l) h0 (by rw[e];omega),e];omega
theorem Y6l {l:List Zr} {k:Int} (h0:0<=k) (h1:k+7*(l.length:Int)<=1152921504606846976):(mkL Zbg l k).2=k+7*(l.length:Int):=by
 have e:=Zmp (α:=Zr) 7 l;rw[Zq8 Yop (l:=l) h0 (by rw[e];omega),e];omega
theorem Zzm {a:Int} (h:0<=a):¬decide (a < 0)=true:=by simp;omega
theorem Yx2 {b:Za} (hs:b.sm) {k:Int} (h0:0<=k) (h1:k+(Yeh b:Int)<=1152921504606846976):(X7 b k).2=k+(Yeh b:Int)/\Zo8 (X7 b k).1 k=some (X7 b k).2:=by
 unfold Yeh at h1 ⊢;have g1:=hs.conf;have g2:=hs.ml;have g3:=hs.bl;have g4:=hs.sl;have g5:=hs.log;have g6:=hs.model.1;have g7:=hs.model.2.1;have g8:=hs.model.2.2;have a1:=Yvc (l:=b.conf.masters) (k:=k) h0 (by omega);have b1:=Ynz b.conf.masters k g1 h0 (by omega);have a2:=Zq8 Yu8 (l:=b.m) (k:=k+4*(b.conf.masters.length:Int)) (by omega) (by omega);have b2:=Ywd b.m (k+4*(b.conf.masters.length:Int)) g2 (λx hx=>⟨(hs.mst x hx).1,λr hr=>(hs.mst x hx).2 r hr⟩) (by omega) (by omega);rw[a2] at b2;have a3:=Y45 (l:=b.buckets) (k:=k+4*(b.conf.masters.length:Int)+(Ky Zh1 b.m:Int)) (by omega) (by omega);have b3':=Yl6 b.buckets (k+4*(b.conf.masters.length:Int)+(Ky Zh1 b.m:Int)) g3 (by omega) (by omega);rw[a3] at b3';have a4:=Zf8 (l:=b.splits) (k:=k+4*(b.conf.masters.length:Int)+(Ky Zh1 b.m:Int)+2*(b.buckets.length:Int)) (by omega) (by omega);have b4:=Zsi b.splits (k+4*(b.conf.masters.length:Int)+(Ky Zh1 b.m:Int)+2*(b.buckets.length:Int)) g4 (by omega) (by omega);rw[a4] at b4;have a5:=Zf8 (l:=b.model.mem) (k:=k+4*(b.conf.masters.length:Int)+(Ky Zh1 b.m:Int)+2*(b.buckets.length:Int)+(b.splits.length:Int)) (by omega) (by omega);have b5:=Zsi b.model.mem (k+4*(b.conf.masters.length:Int)+(Ky Zh1 b.m:Int)+2*(b.buckets.length:Int)+(b.splits.length:Int)) g6 (by omega) (by omega);rw[a5] at b5;have a6:=Zf8 (l:=b.model.dev.regs) (k:=k+4*(b.conf.masters.length:Int)+(Ky Zh1 b.m:Int)+2*(b.buckets.length:Int)+(b.splits.length:Int)+(b.model.mem.length:Int)) (by omega) (by omega);have b6:=Zsi b.model.dev.regs (k+4*(b.conf.masters.length:Int)+(Ky Zh1 b.m:Int)+2*(b.buckets.length:Int)+(b.splits.length:Int)+(b.model.mem.length:Int)) g7 (by omega) (by omega);rw[a6] at b6;have a7:=Zf8 (l:=b.model.dev.fifo) (k:=k+4*(b.conf.masters.length:Int)+(Ky Zh1 b.m:Int)+2*(b.buckets.length:Int)+(b.splits.length:Int)+(b.model.mem.length:Int)+(b.model.dev.regs.length:Int)) (by omega) (by omega);have b7:=Zsi b.model.dev.fifo (k+4*(b.conf.masters.length:Int)+(Ky Zh1 b.m:Int)+2*(b.buckets.length:Int)+(b.splits.length:Int)+(b.model.mem.length:Int)+(b.model.dev.regs.length:Int)) g8 (by omega) (by omega);rw[a7] at b7;have a8:=Y6l (l:=b.log) (k:=k+4*(b.conf.masters.length:Int)+(Ky Zh1 b.m:Int)+2*(b.buckets.length:Int)+(b.splits.length:Int)+(b.model.mem.length:Int)+(b.model.dev.regs.length:Int)+(b.model.dev.fifo.length:Int)) (by omega) (by omega);have b8:=Yt2 b.log (k+4*(b.conf.masters.length:Int)+(Ky Zh1 b.m:Int)+2*(b.buckets.length:Int)+(b.splits.length:Int)+(b.model.mem.length:Int)+(b.model.dev.regs.length:Int)+(b.model.dev.fifo.length:Int)) g5 (by omega) (by omega);rw[a8] at b8;rw[a1] at b1;constructor
 .simp only[X7,Yo,K8,Znx,a1,a2,a3,a4,a5,a6,a7,a8]
  omega
 .unfold Zo8 Zzf Zw5 Z3a
  simp only[X7,Yo,K8,Znx,a1,a2,a3,a4,a5,a6,a7,a8];rw[b1,ZZa,ZZi (Zzm (by omega)),ZZa,ZZi (Zzm (by omega)),b2,ZZa,ZZi (Zzm (by omega)),b3',ZZa,ZZi (Zzm (by omega)),b4,ZZa,ZZi (Zzm (by omega)),b5,ZZa,ZZi (Zzm (by omega)),b6,ZZa,ZZi (Zzm (by omega)),b7,ZZa,ZZi (Zzm (by omega)),ZZa,ZZi (Zzm (by omega)),ZZa,ZZi (Zzm (by omega)),b8,ZZa,ZZi (Zzm (by omega))]
theorem Ys2 {c:Zh} (h:c.masters.length < 1048577) {k:Int} (h0:0<=k) (h1:k < 1048577*1000):(Yo c k).2=k+4*(c.masters.length:Int):=by
 simp only[Yo];exact Yvc h0 (by omega)
theorem Y3m {r:Zi} (h:Zb1 r=true):r.data_.length < 1000:=by
 have:=Yzq h;unfold Zb1 at h;simp only[ZZg,ZZl] at h;have h1:=h.2.1;have:X0 r.burst<=16:=by unfold X0;repeat (first|omega|split)
 split at h1<;>omega
theorem Zkj.tot_lt {b:Za} (h:Zkj b):b.tot < 100000:=by
 have h1:=Jw h.conf;have h2:=h.ml;have h3:=h.bl;have h4:=h.sl;have h5:=Yas (by have:=h.now;omega) h.log;have h6:=h.model.len;have h7:=h.model.dev.regs;have h8:=h.model.dev.len;have hq:∀x∈b.m,Zeg x.queue<=4004:=λx hx=>by
  obtain⟨k,hk,rfl⟩:=Vbt hx;have hr:=(h.mst (k:Int) (mas (by omega))).right;rw[X5 hk] at hr;have key:∀(l:List Zi),(∀r∈l,r.data_.length<=1000)->(l.map Zi.tot).sum<=1000*l.length:=by
   intro l
   induction l with
   | nil=>intro _;simp
   | cons r l ih=>
    intro hl;have:=hl r (Vab ..);have:=ih λq hq=>hl q (Vad _ hq);simp only[Va2,Vde,Vaa];unfold Zi.tot at*;omega
  have:=key _ λr J4=>Nat.le_of_lt (Y3m (hr.reqs r J4));have:=hr.len;unfold Zeg;omega
 have key:∀(l:List Zb),(∀x∈l,Zeg x.queue<=4004)->(l.map Zb.tot).sum<=4004*l.length:=by
  intro l
  induction l with
  | nil=>intro _;simp
  | cons r l ih=>
   intro hl;have:=hl r (Vab ..);have:=ih λq hq=>hl q (Vad _ hq);simp only[Va2,Vde,Vaa];unfold Zb.tot at*;omega
 have:=key _ hq;unfold Za.tot Zke Zj.tot;omega
theorem Yzh {b:Za} (h:b.tot < 1048577):b.mok/\Zwv b b=some true/\(X7 b 1).2=1+(Yeh b:Int)/\Zo8 (X7 b 1).1 1=some (X7 b 1).2/\Yeh b<=7340032:=by
 have hw:=Y43 (b:=b);obtain⟨h1,h2⟩:=Yx2 (Za.small h) (k:=1) (by omega) (by omega);exact⟨Za.mk_ok (Za.small h),Yxi b h,h1,h2,by omega⟩
theorem Y1g {s:Ze} (h:s.tot < 1048577) {k:Int} (h0:0<=k) (h1:k<=100000000):0<=(Kz s k).2:=by
 have hi:Inc Qu (λp=>7+p.req.data_.length):=λx k h0 h1=>by
  have h3:k+((7+x.req.data_.length:Nat):Int)<=1152921504606846976:=h1;show _=k+((7+x.req.data_.length:Nat):Int);have h2:k+7+(x.req.data_.length:Int)<=1152921504606846976:=by omega
  simp only[Qu];simp (discharger:=omega) only[Z18];rw[Zf8 (by omega) (by omega)];omega
 unfold Ze.tot Zjo at h;have hw:Ky (λp:Zl=>7+p.req.data_.length) s.posts<=7*(s.posts.length+(s.posts.map Zl.tot).sum):=Yjl (λx=>by unfold Zl.tot Zi.tot;omega) s.posts;have e1:=Zq8 hi (l:=s.posts) h0 (by omega);have e2:=Zf8 (l:=s.waits) (k:=(mkL Qu s.posts k).2) (by rw[e1];omega) (by rw[e1];omega);have e3:=Zf8 (l:=s.says) (k:=(mkL Yc s.waits (mkL Qu s.posts k).2).2) (by rw[e2,e1];omega) (by rw[e2,e1];omega);simp only[Kz];rw[e3,e2,e1];omega
theorem Y5e {n:Nat} (h:(1048576:Int) < (n:Int)):Zbc 1048576 n < 0:=by unfold Zbc;rw[ZZj h];omega
theorem Y4x {n:Nat} (h:¬(1048576:Int) < (n:Int)):Zbc 1048576 n=1048576 - (n:Int)/\0<=Zbc 1048576 n/\n < 1048577:=by unfold Zbc;rw[ZZi h];omega
theorem left2 {n m:Nat} (e1:0<=Zbc 1048576 n) (hc2:¬Zbc (Zbc 1048576 n) m < 0):m < 1048577:=by
 unfold Zbc at hc2 e1;split at hc2
 .omega
 .omega
theorem Y3y (c:Zh) (s:Ze) (n:Int):(Z2f c s n).1.tot < 1048577:=by
 unfold Z2f;split
 .rename_i hc
  have hP:=Yqs (Z26 hc.1);have h1:=hP.tot_lt;show (Yd4 (Za5 c) s n).1.tot < _;unfold Yd4;split
  .rename_i hr
   have:=(Ya8 hP s n.toNat (by omega)).1.tot_lt;omega
  .exact Nat.lt_trans h1 (by omega)
 .show Za.z0.tot < _
  decide
theorem Ybg (c:Zh) (s:Ze) (n:Int) (h:c.ok) (hs:s.ok) (hn:(Lit.int .i64 n).wf=true):c.ok/\s.ok/\(Lit.int .i64 n).wf=true:=⟨h,hs,hn⟩
theorem Yhc [Anchor] {c:Zh} {s:Ze} {n:Int} (h:c.ok/\s.ok/\(Lit.int .i64 n).wf=true):Zv Tryz.prog Mo (4,[.agg (Zh.enc c),.agg (Ze.enc s),il n],.lit (.bool true),[.undef,.undef,.undef]):=by
 have c0:=Y06 c h.1 1048576 (by omega) (by omega);by_cases hc:(1048576:Int) < (c.masters.length:Int)
 .exact Ybc c s n c0 (Y5e hc)
 .obtain⟨e0,e1,ht⟩:=Y4x hc
  have c1:=Yte s h.2.1 (Zbc 1048576 c.masters.length) e1 (by omega);by_cases hc2:Zbc (Zbc 1048576 c.masters.length) s.tot < 0
  .exact Yba c s n c0 e1 c1 hc2
  .have hst:s.tot < 1048577:=left2 e1 hc2
   have f3:=Ys2 ht (k:=1) (by omega) (by omega);obtain⟨g1,g2,g3,g4,g5⟩:=Yzh (Y3y c s n);have hss:=Ze.small hst h.2.1;exact Yfy c s n (Z2f c s n).1 (Z2f c s n).2 c0 e1 c1 (by omega) (Y1q c ht) (Ysu s hst) (Y1r c s n ht hss) (Y1d c s n ht hss) g2 (Ycp c ht) (Yls s hst) (by unfold Zh.mok;omega) (Ze.mk_ok hst) (Y1g hst (by rw[f3];omega) (by rw[f3];omega)) g1 g4 (by rw[g3];omega)
end Go.Proofs.YtagdmghmblplbaaGreat.Ev
