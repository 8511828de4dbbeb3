/- A part of the proof of FnExactBusRun: see the text YtagdmghmblplbaaGreatLawFnExactBusRun for what is proved and its conditions. Conditions here: those in each line. -/
import Derived.Test.YtagdmghmblplbaaGreatA9
set_option linter.unusedSimpArgs false
set_option linter.unusedVariables false
set_option linter.unusedSectionVars false
namespace Go.Proofs.YtagdmghmblplbaaGreat.Ev
open Go Go.Proofs
theorem X3 (x a b:Int):Yu x a b=some (decide (a<=x/\x<=b)):=by
 unfold Yu;by_cases h:a<=x<;>simp[h]
theorem Xk (x a b:Int):Z5 x a b=some (decide (a<=x/\x<=b)):=by
 unfold Z5;by_cases h:a<=x<;>simp[h]
def Zis (c:Zl):Int:=if (0<=c.maxRetry/\c.maxRetry<=3)/\(0<=c.maxWait/\c.maxWait<=3) then (c.maxRetry+2)*(c.maxWait+6) else 0
def Zag (c:Zl):Int:=if Zis c=0 then 0 else if 1<=c.lockMost/\c.lockMost<=40 then 2*Zis c+c.lockMost else 0
def Ks (c:Zl):Nat:=c.masters.countP (·.prio)
def Kd (c:Zl) (m:Zd):Bool:=decide (1<=m.weight/\m.weight<=4)&&if m.prio then decide (2*Zag c*Ks c<=m.every/\m.every<=1000)&&decide (1<=m.cap/\m.cap<=8) else decide (m.every=0)&&decide (m.cap=0)
def Wa (c:Zl):Bool:=decide (1<=(c.masters.length:Int)/\(c.masters.length:Int)<=4)&&decide (1<=c.quantum/\c.quantum<=4)&&decide (1<=c.maxSplit/\c.maxSplit<=12)&&decide (Zag c≠0)&&c.masters.all (Kd c)
theorem Z5q (c:Zl):0<=Zis c/\Zis c<=45:=by
 unfold Zis;split
 .rename_i h
  obtain⟨⟨h1,h2⟩,h3,h4⟩:=h;generalize c.maxRetry=a at*;generalize c.maxWait=b at*;have:a=0\/a=1\/a=2\/a=3:=by omega
  rcases this with rfl|rfl|rfl|rfl<;>omega
 .omega
theorem Z6t (c:Zl):0<=Zag c/\Zag c<=130:=by
 have:=Z5q c;unfold Zag;split
 .omega
 .split<;>omega
theorem Zv6 (c:Zl):Ziz c=some (Zis c):=by
 unfold Ziz;rw[Xk,ZZa,Xk,ZZa];unfold Zo9 Zis;by_cases h1:0<=c.maxRetry/\c.maxRetry<=3
 .by_cases h2:0<=c.maxWait/\c.maxWait<=3
  .have:=Z5q c
   unfold Zis at this;rw[ZZj ⟨h1,h2⟩] at this;simp only[h1,h2,decide_true,Va5,ZZf,if_false,and_self,if_true];rw[Ys (by omega) (by omega),Ys (by omega) (by omega),Zft (by omega) (by omega)]
  .simp[h1,h2]
 .simp[h1]
theorem Yu8 (c:Zl):Ztj c=some (Zis c):=by
 rw[<-Zv6];unfold Ztj Ziz;simp only[Xk,X3];rfl
theorem Ycs (c:Zl):Zge c=some (Zag c):=by
 have:=Z5q c;unfold Zge Zag;rw[Zv6,ZZa,Xk,ZZa,ZZa];by_cases h0:Zis c=0
 .simp[h0]
 .by_cases h1:1<=c.lockMost/\c.lockMost<=40
  .simp only[h0,h1,decide_true,decide_false,Va5,ZZf,if_false,and_self,if_true]
   rw[Zft (by omega) (by omega),Ys (by omega) (by omega)]
  .simp[h0,h1]
theorem Ybu (c:Zl):Zt8 c=some (Zag c):=by
 rw[<-Ycs];unfold Zt8 Zge;simp only[Xk,X3,Zv6,Yu8]
theorem Ymw (c:Zl):Ztp c=some (decide (1<=c.quantum/\c.quantum<=4)&&decide (1<=c.maxSplit/\c.maxSplit<=12)&&decide (Zag c≠0)):=by
 have:=Z5q c;unfold Ztp Zag;simp only[Xk,Zv6,ZZa];by_cases h1:1<=c.quantum/\c.quantum<=4
 .by_cases h2:Zis c=0
  .simp[h2]
  .have h3:Zis c > 0:=by omega
   by_cases h4:1<=c.maxSplit/\c.maxSplit<=12
   .by_cases h5:1<=c.lockMost/\c.lockMost<=40
    .have:¬(2*Zis c+c.lockMost=0):=by omega
     simp[h1,h2,h3,h4,h5,this]
    .simp[h1,h2,h3,h4,h5]
   .simp[h1,h2,h3,h4]
 .simp[h1]
theorem Ygc (xs:List Zd):∀(n:Int),0<=n->n+xs.length < 4611686018427387904->∀{ρ:Type} (fin:Int->Option ρ),Z3c (λ(a:Zd) n=>some (.inl (if a.prio=true then Zq n 1 else n))) fin xs n=fin (n+(xs.countP (·.prio):Nat)):=by
 induction xs with
 | nil=>intro n _ _ ρ fin;simp[Z3c]
 | cons a l ih=>
  intro n h0 hl ρ fin;simp only[Vag] at hl;simp only[Z3c,ZZa,List.countP_cons];by_cases h:a.prio=true
  .rw[ZZj h,Ys (by omega) (by omega),ih _ (by omega) (by omega),ZZj h]
   congr 1;omega
  .rw[ZZi h,ih _ (by omega) (by omega),ZZi h]
   congr 1
theorem Yyz (c:Zl) (hl:c.masters.length < 1048577):Z1o c=some (Ks c:Int):=by
 unfold Z1o;rw[Ydu c.masters (by omega) (λ(a:Zd) n=>some (.inl (if a.prio=true then Zq n 1 else n))) some (Zqf c) (λm s i=>?_) 0,Ygc _ _ (by omega) (by omega)]
 .simp[Ks]
 .show Zu3 c _ s i=_
  unfold Zu3
  congr 1;congr 1;funext a
  by_cases h:a.prio=true<;>simp[h,goL]
theorem Yk5 (c:Zl):Ks c<=c.masters.length:=List.countP_le_length
theorem Yoj (c:Zl) (hl:c.masters.length < 1048577):0<=Zag c*(Ks c:Int)/\Zag c*(Ks c:Int)<=136314880:=by
 have h1:=Z6t c;have h2:=Yk5 c;constructor
 .exact Veg h1.1 (by omega)
 .have h3:Zag c*(Ks c:Int)<=130*(Ks c:Int):=Int.mul_le_mul_of_nonneg_right h1.2 (by omega)
  omega
theorem Ygs (c:Zl) (hl:c.masters.length < 1048577):Zof c=some (2*Zag c*Ks c):=by
 have h1:=Z6t c;have h2:=Yoj c hl;unfold Zof;rw[Ybu,ZZa,Yyz c hl,ZZa];rw[Zft (a:=2) (by omega) (by omega),Zft (by rw[Int.mul_assoc];omega) (by rw[Int.mul_assoc];omega)]
theorem Ymo (c:Zl) (m:Zd) (hl:c.masters.length < 1048577):Zsr m c=some (!Kd c m):=by
 unfold Zsr Kd;simp only[X3,ZZa,Ygs c hl];by_cases h1:1<=m.weight/\m.weight<=4
 .by_cases h2:m.prio=true
  .by_cases h3:2*Zag c*Ks c<=m.every/\m.every<=1000
   .simp[h1,h2,h3]
   .simp[h1,h2,h3]
  .by_cases h3:m.every=0
   .simp[h1,h2,h3]
   .simp[h1,h2,h3]
 .simp[h1]
theorem Ys4 (c:Zl) (xs:List Zd) (hl:c.masters.length < 1048577) (hx:xs.length < 4611686018427387904):X9 xs c=some (!xs.all (Kd c)):=by
 unfold X9 Q3;have key:∀(m k:Nat),k<=xs.length->xs.length - k < m->∃r,Y2 xs c m k=some r/\decide (r≥0)=!(xs.drop k).all (Kd c):=by
  intro m
  induction m with
  | zero=>intro k _ h;omega
  | succ m ih=>
   intro k hk hm;have e:Y2 xs c (m+1) k=Qc xs c (Y2 xs c m) k:=rfl;rw[e];unfold Qc;by_cases hc:k < xs.length
   .have h1:decide ((k:Int) < (xs.length:Int))=true:=by simpa using hc
    rw[ZZj h1,Xu hc,ZZa,Ymo c _ hl,ZZa,Va4 hc,Va7];by_cases hq:Kd c xs[k]=true
    .have h2:¬(!Kd c xs[k])=true:=by simp[hq]
     rw[ZZi h2,Wq (by omega),hq,Vbz];exact ih (k+1) (by omega) (by omega)
    .have h2:(!Kd c xs[k])=true:=by simpa using hq
     rw[ZZj h2];refine⟨_,rfl,?_⟩;simp[hq]
   .have h1:¬decide ((k:Int) < (xs.length:Int))=true:=by simpa using hc
    rw[ZZi h1,Vbb (by omega)];exact⟨_,rfl,by simp⟩
 obtain⟨r,hr,hq⟩:=key FU 0 (Vbl _) (by have:=Kr;omega);rw[show ((0:Nat):Int)=0 from rfl] at hr;rw[hr,ZZa,hq,List.drop_zero]
theorem Z3q (c:Zl) (hl:c.masters.length < 1048577):Znz c=some (Wa c):=by
 unfold Znz Wa;simp only[X3,ZZa,Ybu,Ys4 c c.masters hl (by omega),Vej];by_cases h1:1<=(c.masters.length:Int)/\(c.masters.length:Int)<=4
 .by_cases h2:1<=c.quantum/\c.quantum<=4
  .by_cases h3:1<=c.maxSplit/\c.maxSplit<=12
   .by_cases h4:Zag c=0<;>simp[h1,h2,h3,h4]
   .simp[h1,h2,h3]
  .simp[h1,h2]
 .simp[h1]
theorem Y31 (c:Zl) (m:Zd) (hl:c.masters.length < 1048577) (k:Option Bool):
  ((Z5 m.weight 1 4).bind λr1102=>
  if (!r1102)=true then some false
  else if (!m.prio)=true then
    if decide (m.every≠0)=true then some false
    else if decide (m.cap≠0)=true then some false
     else if m.prio=true then
       (Zge c).bind λr1128=>
       (Z5 m.every (Jr (Jr 2 (Ks c:Int)) r1128) 1000).bind λr1130=>
       if (!r1130)=true then some false
       else (Z5 m.cap 1 8).bind λr1135=>if (!r1135)=true then some false else k
      else k
   else if m.prio=true then
     (Zge c).bind λr1128=>
     (Z5 m.every (Jr (Jr 2 (Ks c:Int)) r1128) 1000).bind λr1130=>
     if (!r1130)=true then some false
     else (Z5 m.cap 1 8).bind λr1135=>if (!r1135)=true then some false else k
    else k)=if Kd c m=true then k else some false:=by
 have h1:=Z6t c;have h2:=Yoj c hl;have h3:=Yk5 c;have e:Jr (Jr 2 (Ks c:Int)) (Zag c)=2*Zag c*Ks c:=by
  have e2:2*(Ks c:Int)*Zag c=2*(Zag c*(Ks c:Int)):=by rw[Int.mul_assoc,Vc2 (Ks c:Int)]
  rw[Zft (a:=2) (by omega) (by omega),Zft (by rw[e2];omega) (by rw[e2];omega),e2,Int.mul_assoc]
 unfold Kd;simp only[Xk,ZZa,Ycs,e];by_cases h1:1<=m.weight/\m.weight<=4
 .by_cases h2:m.prio=true
  .by_cases h3:2*Zag c*Ks c<=m.every/\m.every<=1000
   .by_cases h4:1<=m.cap/\m.cap<=8<;>simp[h1,h2,h3,h4]
   .simp[h1,h2,h3]
  .by_cases h3:m.every=0
   .by_cases h4:m.cap=0<;>simp[h1,h2,h3,h4]
   .simp[h1,h2,h3]
 .simp[h1]
theorem Yfy (c:Zl) (hl:c.masters.length < 1048577):Zas c FU (Ks c:Int) 0=some (Wa c):=by
 have key:∀(m k:Nat),k<=c.masters.length->c.masters.length - k < m->Zas c m (Ks c:Int) k=some (decide (1<=(c.masters.length:Int)/\(c.masters.length:Int)<=4)&&decide (1<=c.quantum/\c.quantum<=4)&&decide (1<=c.maxSplit/\c.maxSplit<=12)&&decide (Zag c≠0)&&(c.masters.drop k).all (Kd c)):=by
  intro m
  induction m with
  | zero=>intro k _ h;omega
  | succ m ih=>
   intro k hk hm;have e:Zas c (m+1) (Ks c:Int) k=Zr2 c (Zas c m) (Ks c:Int) k:=rfl;rw[e];unfold Zr2;by_cases hc:k < c.masters.length
   .have h1:decide ((k:Int) < (c.masters.length:Int))=true:=by simpa using hc
    rw[ZZj h1,Xu hc,ZZa,Y31 c _ hl,Va4 hc,Va7,Wq (by omega),ih (k+1) (by omega) (by omega)];by_cases hq:Kd c c.masters[k]=true
    .simp[hq]
    .simp[hq]
   .have h1:¬decide ((k:Int) < (c.masters.length:Int))=true:=by simpa using hc
    rw[ZZi h1,Vbb (by omega),Xk,ZZa,Ymw];by_cases h2:1<=(c.masters.length:Int)/\(c.masters.length:Int)<=4
    .simp[h2]
    .simp[h2]
 have:=key FU 0 (Vbl _) (by have:=Kr;omega);simpa [Wa] using this
theorem Zpq (c:Zl) (hl:c.masters.length < 1048577):Zjw c=some (Wa c):=by
 unfold Zjw;rw[Ydu c.masters (by omega) (λ(a:Zd) n=>some (.inl (if a.prio=true then Zq n 1 else n))) (λn=>Zas c FU n 0) (Zn0 c) (λm s i=>?_) 0,Ygc _ _ (by omega) (by omega)]
 .rw[show (0:Int)+(c.masters.countP (·.prio):Nat)=(Ks c:Int) by simp[Ks]]
  exact Yfy c hl
 .show Ztq c _ s i=_
  unfold Ztq
  congr 1;congr 1;funext a
  by_cases h:a.prio=true<;>simp[h,goL]
def Z4x (c:Zl) (i:Int):Int:=((c.masters[i.toNat]?).map (·.weight)).getD 0
def Zv (c:Zl) (i:Int):Bool:=decide (0<=i/\i < (c.masters.length:Int))
def Zhk (c:Zl) (i:Int):Int:=if Wa c=true/\Zv c i=true then Z4x c i*c.quantum else 0
theorem Yf7 {c:Zl} {i:Int} (h:Zv c i=true):∃m,idx c.masters i=some m/\m∈c.masters/\m.weight=Z4x c i:=by
 simp only[Zv,ZZl] at h;obtain⟨k,rfl⟩:∃k:Nat,i=k:=⟨i.toNat,by omega⟩;have hk:k < c.masters.length:=by omega
 refine⟨c.masters[k],Xu hk,Vas hk,?_⟩;simp[Z4x,hk]
theorem Ycp {c:Zl} {m:Zd} (h:Wa c=true) (hm:m∈c.masters):1<=m.weight/\m.weight<=4:=by
 simp only[Wa,ZZg,ZZk] at h;have:=h.2 m hm;simp only[Kd,ZZg,ZZl] at this;exact this.1
theorem Z9d {c:Zl} (h:Wa c=true):1<=c.quantum/\c.quantum<=4:=by
 simp only[Wa,ZZg,ZZl] at h;exact h.1.1.1.2
theorem Yqn {c:Zl} {i:Int} (h:Wa c=true) (hm:Zv c i=true):1<=Z4x c i/\Z4x c i<=4:=by
 obtain⟨m,_,h1,h2⟩:=Yf7 hm;rw[<-h2];exact Ycp h h1
theorem Yq3 {a b:Int} (h1:1<=a) (h2:a<=4) (h3:1<=b) (h4:b<=4):1<=a*b/\a*b<=16:=by
 have:a=1\/a=2\/a=3\/a=4:=by omega
 rcases this with rfl|rfl|rfl|rfl<;>omega
theorem Z2b {c:Zl} {i:Int} (h:Wa c=true) (hm:Zv c i=true):1<=Zhk c i/\Zhk c i<=16:=by
 unfold Zhk;rw[ZZj ⟨h,hm⟩];have h1:=Yqn h hm;have h2:=Z9d h;exact Yq3 h1.1 h1.2 h2.1 h2.2
theorem Yx6 {c:Zl} {i:Int}:Zhk c i=0↔¬(Wa c=true/\Zv c i=true):=by
 constructor
 .intro h hc
  have:=Z2b hc.1 hc.2;omega
 .intro h;unfold Zhk;rw[ZZi h]
theorem Zzo (c:Zl) (i:Int):0<=Zhk c i/\Zhk c i<=16:=by
 by_cases h:Wa c=true/\Zv c i=true
 .have:=Z2b h.1 h.2;omega
 .rw[Yx6.2 h];omega
theorem Z4l {c:Zl} (i:Int) (hl:c.masters.length < 1048577):decide (0<=i/\i<=Y6 (c.masters.length:Int) 1)=Zv c i:=by
 rw[Xe (by omega) (by omega)];unfold Zv
 congr 1
 apply propext;omega
theorem Zvk (c:Zl) (i:Int) (hl:c.masters.length < 1048577):Zi3 c i=some (Zhk c i):=by
 unfold Zi3;rw[Zpq c hl,ZZa,Xk,ZZa,Z4l i hl];unfold Zoj;by_cases h1:Wa c=true
 .by_cases h2:Zv c i=true
  .obtain⟨m,hm1,hm2,hm3⟩:=Yf7 h2
   have hw:=Ycp h1 hm2;have hq:=Z9d h1;have:=Yq3 hw.1 hw.2 hq.1 hq.2;simp only[h1,h2,hm1,Va5,ZZf,if_false,ZZa];rw[Zft (by omega) (by omega)];simp[Zhk,h1,h2,hm3]
  .simp[Zhk,h1,h2]
 .simp[Zhk,h1]
theorem Jm (c:Zl) (i:Int) (hl:c.masters.length < 1048577):Jf c i=some (Zv c i):=by
 unfold Jf;rw[X3,ZZa,Z4l i hl]
theorem Z3k (c:Zl) (i:Int) (hl:c.masters.length < 1048577):Zok c i=some (Zhk c i):=by
 rw[<-Zvk c i hl];unfold Zok Zi3;rw[Zpq c hl,Z3q c hl,Jm c i hl,Xk,Z4l i hl];rfl
theorem Zcn (a b:Int):Zi8 a b=min a b:=by unfold Zi8;omega
theorem Zux (a b:Int):Z3h a b=max a b:=by unfold Z3h;omega
theorem Zar {c:Zl} (h:Wa c=true):1<=(c.masters.length:Int)/\(c.masters.length:Int)<=4:=by
 simp only[Wa,ZZg,ZZl] at h;exact h.1.1.1.1
theorem Zcg {c:Zl} (h:Wa c=true):c.masters.length < 1048577:=by have:=Zar h;omega
instance:Inhabited Zd:=⟨Zd.z0⟩
instance:Inhabited Zc:=⟨Zc.z0⟩
theorem Zkf {c:Zl} {i:Int} (h:Wa c=true) (hm:Zv c i=true):Kd c (atI c.masters i)=true:=by
 simp only[Zv,ZZl] at hm;have:=Zj5 hm.1 hm.2;simp only[Wa,ZZg,ZZk] at h;exact h.2 _ this
theorem Zg3 {c:Zl} {m:Zd} (h:Kd c m=true):-1<=m.every/\m.every<=1000/\0<=m.cap/\m.cap<=8:=by
 have h1:=Z6t c;have h2:0<=2*Zag c*(Ks c:Int):=Veg (by omega) (by omega);simp only[Kd,ZZg,ZZl] at h;obtain⟨h3,h4⟩:=h;split at h4
 .simp only[ZZg,ZZl] at h4;omega
 .simp only[ZZg,ZZl] at h4;omega
def Y8 (b:Zc) (m:Zd):Bool:=if m.prio then decide (0<=b.tokens/\b.tokens<=m.cap)&&decide (0<=b.count/\b.count < m.every) else decide (b.tokens=0)&&decide (b.count=0)
def Zrz (b:Zc) (m:Zd):Zc:=if (m.prio&&Y8 b m)=true then (if b.count+1=m.every then ⟨min (b.tokens+1) m.cap,0⟩ else ⟨b.tokens,b.count+1⟩) else b
def Zgo (b:Zc) (m:Zd):Zc×Bool:=if (m.prio&&Y8 b m&&decide (b.tokens≠0))=true then (⟨b.tokens - 1,b.count⟩,true) else (b,false)
def Zze (b:Zc) (m:Zd):Zc:=if (m.prio&&Y8 b m)=true then ⟨min (b.tokens+1) m.cap,b.count⟩ else b
theorem Zqg (b:Zc) {m:Zd} (h:-1<=m.every/\m.every<=1000):Zeu b m=some (Y8 b m):=by
 unfold Zeu Y8;rw[Xk,ZZa,Xk,ZZa,Xe (by omega) (by omega)];by_cases h1:m.prio=true
 .have e:(0<=b.count/\b.count<=m.every - 1)↔(0<=b.count/\b.count < m.every):=by omega
  by_cases h2:0<=b.tokens/\b.tokens<=m.cap
  .simp[h1,h2,e]
  .simp[h1,h2]
 .simp[h1]
theorem Z7e (b:Zc) (m:Zd):Znn b m=some (Y8 b m):=by
 unfold Znn Y8;rw[X3,ZZa];by_cases h1:m.prio=true
 .by_cases h2:0<=b.tokens/\b.tokens<=m.cap
  .by_cases h3:0<=b.count<;>simp[h1,h2,h3]
  .simp[h1,h2]
 .simp[h1]
theorem Zjn {b:Zc} {c:Zl} {m:Zd} (h:Y8 b m=true) (hm:Kd c m=true):0<=b.tokens/\b.tokens<=8/\0<=b.count/\b.count<=1000:=by
 have:=Zg3 hm;unfold Y8 at h;split at h<;>simp only[ZZg,ZZl] at h<;>omega
theorem Yfk (b:Zc) {c:Zl} {m:Zd} (h:Kd c m=true):Zn1 b m=some (Zrz b m):=by
 have hm:=Zg3 h;unfold Zn1 Zfw Zrz;rw[Zqg b ⟨hm.1,hm.2.1⟩,ZZa];by_cases h1:m.prio=true
 .by_cases h2:Y8 b m=true
  .have:=Zjn h2 h
   simp only[h1,h2,Va5,ZZf,if_false,Vce,if_true];rw[Ys (by omega) (by omega),Ys (by omega) (by omega),Zcn,Vdn];by_cases h3:b.count+1=m.every<;>simp[h3]
  .simp[h1,h2]
 .simp[h1]
theorem Z23 (b:Zc) (m:Zd):Zoh b m=some (m.prio&&Y8 b m):=by
 unfold Zoh;rw[Z7e,ZZa];by_cases h1:m.prio=true<;>simp[h1]
theorem Yif (b:Zc) {c:Zl} {m:Zd} (h:Kd c m=true):Zn5 b m=some (Zrz b m):=by
 unfold Zn5 Zrz;rw[Z23,ZZa];by_cases h1:(m.prio&&Y8 b m)=true
 .have h2:Y8 b m=true:=by simp only[ZZg] at h1;exact h1.2
  have:=Zjn h2 h;rw[ZZi (by simp[h1]),ZZj h1,Ys (by omega) (by omega),Ys (by omega) (by omega),Zcn];by_cases h3:b.count+1=m.every<;>simp[h3]
 .rw[ZZj (by cases hq:(m.prio&&Y8 b m)<;>simp_all),ZZi h1]
theorem Yhf (b:Zc) {c:Zl} {m:Zd} (h:Kd c m=true):Zov b m=some (Zgo b m):=by
 have hm:=Zg3 h;unfold Zov Zc8 Zgo;rw[Zqg b ⟨hm.1,hm.2.1⟩,ZZa];by_cases h1:m.prio=true
 .by_cases h2:Y8 b m=true
  .have:=Zjn h2 h
   rw[Xe (by omega) (by omega)];by_cases h3:b.tokens=0<;>simp[h1,h2,h3]
  .simp[h1,h2]
 .simp[h1]
theorem Yg3 (b:Zc) {c:Zl} {m:Zd} (h:Kd c m=true):Znw b m=some (Zgo b m):=by
 unfold Znw Zgk Zgo;rw[Z23,ZZa];by_cases h1:(m.prio&&Y8 b m)=true
 .have h2:Y8 b m=true:=by simp only[ZZg] at h1;exact h1.2
  have:=Zjn h2 h;rw[Xe (by omega) (by omega)];by_cases h3:b.tokens=0<;>simp[h1,h3]
 .simp[h1]
theorem Yfx (b:Zc) {c:Zl} {m:Zd} (h:Kd c m=true):Zpa b m=some (Zze b m):=by
 have hm:=Zg3 h;unfold Zpa Zga Zze;rw[Zqg b ⟨hm.1,hm.2.1⟩,ZZa];by_cases h1:m.prio=true
 .by_cases h2:Y8 b m=true
  .have:=Zjn h2 h
   simp only[h1,h2,if_true,Vce];rw[Ys (by omega) (by omega),Zcn,Vdn]
  .simp[h1,h2]
 .simp[h1]
theorem Ygi (b:Zc) {c:Zl} {m:Zd} (h:Kd c m=true):Zn7 b m=some (Zze b m):=by
 unfold Zn7 Zze;rw[Z23,ZZa];by_cases h1:(m.prio&&Y8 b m)=true
 .have h2:Y8 b m=true:=by simp only[ZZg] at h1;exact h1.2
  have h4:m.prio=true:=by simp only[ZZg] at h1;exact h1.1
  have:=Zjn h2 h;have h5:b.tokens<=m.cap:=by
   unfold Y8 at h2;rw[ZZj h4] at h2;simp only[ZZg,ZZl] at h2;exact h2.1.2
  rw[ZZj h1,ZZj h1,Ys (by omega) (by omega)];by_cases h3:b.tokens < m.cap
  .rw[ZZj (by simpa using h3),Int.min_eq_left (by omega)]
  .rw[ZZi (by simpa using h3),Int.min_eq_right (by omega)]
   have:b.tokens=m.cap:=by omega
   rw[<-this]
 .rw[ZZi h1,ZZi h1]
theorem Y57 {b:Zc} {c:Zl} {m:Zd} (h:Y8 b m=true) (hm:Kd c m=true):Y8 (Zrz b m) m=true:=by
 have hb:=Zg3 hm;have hn:=Zjn h hm;unfold Zrz;split
 .rename_i h1
  simp only[ZZg] at h1;unfold Y8 at h;rw[ZZj h1.1] at h;simp only[ZZg,ZZl] at h;split
  .unfold Y8
   rw[ZZj h1.1];simp only[ZZg,ZZl];omega
  .unfold Y8
   rw[ZZj h1.1];simp only[ZZg,ZZl];omega
 .exact h
theorem Y7k {b:Zc} {c:Zl} {m:Zd} (h:Y8 b m=true) (hm:Kd c m=true):Y8 (Zgo b m).1 m=true:=by
 unfold Zgo;split
 .rename_i h1
  simp only[ZZg,ZZl] at h1;unfold Y8 at h ⊢;rw[ZZj h1.1.1] at h ⊢;simp only[ZZg,ZZl] at h ⊢;omega
 .exact h
theorem Y33 {b:Zc} {c:Zl} {m:Zd} (h:Y8 b m=true) (hm:Kd c m=true):Y8 (Zze b m) m=true:=by
 have hb:=Zg3 hm;unfold Zze;split
 .rename_i h1
  simp only[ZZg] at h1;unfold Y8 at h ⊢;rw[ZZj h1.1] at h ⊢;simp only[ZZg,ZZl] at h ⊢;omega
 .exact h
def Za4 (w:Z2) (c:Zl):Bool:=Wa c&&(Zv c w.at_&&decide (0<=w.credit/\w.credit<=Zhk c w.at_))
theorem Z6w (w:Z2) (c:Zl) (hl:c.masters.length < 1048577):Zrh w c=some (Za4 w c):=by
 unfold Zrh Za4;rw[Zpq c hl,ZZa,Xk,ZZa,Z4l _ hl,Zvk c _ hl,ZZa,Xk,ZZa];by_cases h1:Wa c=true<;>by_cases h2:Zv c w.at_=true<;>simp[h1,h2]
theorem Z56 (w:Z2) (c:Zl) (hl:c.masters.length < 1048577):Znr w c=some (Za4 w c):=by
 unfold Znr Za4;rw[Z3q c hl,ZZa,Jm c _ hl,ZZa,Z3k c _ hl,ZZa,X3,ZZa];by_cases h1:Wa c=true<;>by_cases h2:Zv c w.at_=true<;>simp[h1,h2]
def Zme (w:Z2) (c:Zl) (wants:List Bool):Nat->Int->Z2×Int
 | 0,_=>(⟨w.at_,0⟩,-1)
 | r+1,k=>if atI wants ((w.at_+k) % (wants.length:Int))=true then (⟨(w.at_+k) % (wants.length:Int),Zhk c ((w.at_+k) % (wants.length:Int)) - 1⟩,(w.at_+k) % (wants.length:Int)) else Zme w c wants r (k+1)
def Zc7 (w:Z2) (c:Zl) (wants:List Bool):Z2×Int:=if (decide (0 < w.credit)&&atI wants w.at_)=true then (⟨w.at_,w.credit - 1⟩,w.at_) else Zme w c wants wants.length 1
def Zzh (w:Z2) (c:Zl) (who:Int):Z2:=if w.at_=who then ⟨w.at_,min (w.credit+1) (Zhk c who)⟩ else w
theorem Zio {w:Z2} {c:Zl} (h:Za4 w c=true):Wa c=true/\Zv c w.at_=true/\0<=w.credit/\w.credit<=Zhk c w.at_:=by
 simp only[Za4,ZZg,ZZl] at h;exact⟨h.1,h.2.1,h.2.2.1,h.2.2.2⟩
theorem Yvs (w:Z2) (c:Zl) (wants:List Bool) (h:Za4 w c=true) (hn:wants.length=c.masters.length):∀(m r:Nat) (k:Int),r < m->k+r=wants.length+1->1<=k->Zkv w c wants m k=some (Zme w c wants r k)/\Zln w c wants m k=some (Zme w c wants r k):=by
 obtain⟨hc,hm,h1,h2⟩:=Zio h;have hl:=Zar hc;have hl2:=Zcg hc;simp only[Zv,ZZl] at hm;intro m
 induction m with
 | zero=>intro r k hr;omega
 | succ m ih=>
  intro r k hr hk h1k;show Zq8 w c wants _ k=_/\Zqz w c wants _ k=_;unfold Zq8 Zqz;rw[<-hn];cases r with
  | zero=>
   rw[ZZi (by simp;omega),ZZi (by simp;omega)];exact⟨rfl,rfl⟩
  | succ r=>
   have h0:0<=(w.at_+k) % (wants.length:Int):=Vc0 _ (by omega);have h0':(w.at_+k) % (wants.length:Int) < (wants.length:Int):=Vcn _ (by omega);have hmm:Zv c ((w.at_+k) % (wants.length:Int))=true:=by
    simp only[Zv,ZZl];omega
   have ht:=Z2b hc hmm;rw[ZZj (by simp;omega),ZZj (by simp;omega),Zw4 (by omega),ZZa,ZZa,Ys (a:=w.at_) (by omega) (by omega),Zek (by omega),Xr h0 h0',ZZa,ZZa,Z3k c _ hl2,Zvk c _ hl2,ZZa,Xe (by omega) (by omega),Ys (a:=k) (by omega) (by omega)];have:=ih r (k+1) (by omega) (by omega) (by omega);simp only[Zme];by_cases hq:atI wants ((w.at_+k) % (wants.length:Int))=true
   .simp[hq]
   .simp only[hq,if_false,ZZf]
    exact this
theorem Yof (w:Z2) (c:Zl) (wants:List Bool) (h:Za4 w c=true) (hn:wants.length=c.masters.length):Zv7 w c wants=some (Zc7 w c wants):=by
 obtain⟨hc,hm,h1,h2⟩:=Zio h;have hl:=Zar hc;have hl2:=Zcg hc;simp only[Zv,ZZl] at hm;have hs:=(Yvs w c wants h hn FU wants.length 1 (by have:=Kr;omega) (by omega) (by omega)).1;have ht:=Zzo c w.at_;unfold Zv7 Zlz Zkp Zc7;rw[Z56 w c hl2,ZZa,h,Xr hm.1 (by omega),ZZa,hs,Xe (by omega) (by omega)];have h3:¬((wants.length:Int)≠(c.masters.length:Int)):=by omega
 by_cases h4:0 < w.credit<;>by_cases h5:atI wants w.at_=true<;>simp[h3,h4,h5]
theorem Yqd (w:Z2) (c:Zl) (wants:List Bool) (h:Za4 w c=true) (hn:wants.length=c.masters.length):Zwf w c wants=some (Zc7 w c wants):=by
 obtain⟨hc,hm,h1,h2⟩:=Zio h;have hl:=Zar hc;have hl2:=Zcg hc;simp only[Zv,ZZl] at hm;have hs:=(Yvs w c wants h hn FU wants.length 1 (by have:=Kr;omega) (by omega) (by omega)).2;have ht:=Zzo c w.at_;unfold Zwf Zl1 Zk4 Zc7;rw[Z6w w c hl2,ZZa,h,Xr hm.1 (by omega),ZZa,hs,Xe (by omega) (by omega)];have h3:¬((wants.length:Int)≠(c.masters.length:Int)):=by omega
 by_cases h4:0 < w.credit<;>by_cases h5:atI wants w.at_=true<;>simp[h3,h4,h5]
theorem Ypc (w:Z2) (c:Zl) (who:Int) (h:Za4 w c=true):Zvo w c who=some (Zzh w c who):=by
 obtain⟨hc,hm,h1,h2⟩:=Zio h;have hl2:=Zcg hc;have ht:=Zzo c w.at_;unfold Zvo Zlo Zzh;rw[Z6w w c hl2,ZZa,h,Zvk c _ hl2,ZZa,Ys (by omega) (by omega),Zcn,Vdn];by_cases h4:w.at_=who<;>simp[h4]
theorem Yp2 (w:Z2) (c:Zl) (who:Int) (h:Za4 w c=true):Zu9 w c who=some (Zzh w c who):=by
 obtain⟨hc,hm,h1,h2⟩:=Zio h;have hl2:=Zcg hc;have ht:=Zzo c w.at_;unfold Zu9 Zlm Zzh;rw[Z56 w c hl2,ZZa,h,Z3k c _ hl2,ZZa,Ys (by omega) (by omega),Zcn];by_cases h4:w.at_=who
 .simp[h4]
 .have:¬who=w.at_:=λh=>h4 h.symm
  simp[h4,this]
theorem Y3n {w:Z2} {c:Zl} (who:Int) (h:Za4 w c=true):Za4 (Zzh w c who) c=true:=by
 obtain⟨hc,hm,h1,h2⟩:=Zio h;unfold Zzh;split
 .rename_i h4
  subst h4;have ht:=Zzo c w.at_;simp only[Za4,ZZg,ZZl];exact⟨hc,hm,by omega,by omega⟩
 .exact h
theorem Y3i {w:Z2} {c:Zl} {wants:List Bool} (h:Za4 w c=true) (hn:wants.length=c.masters.length):∀(r:Nat) (k:Int),1<=k->Za4 (Zme w c wants r k).1 c=true/\((Zme w c wants r k).2=-1\/(Zv c (Zme w c wants r k).2=true/\atI wants (Zme w c wants r k).2=true)):=by
 obtain⟨hc,hm,h1,h2⟩:=Zio h;have hl:=Zar hc;intro r
 induction r with
 | zero=>
  intro k _;refine⟨?_,.inl rfl⟩;simp only[Zme];simp only[Za4,ZZg,ZZl];exact⟨hc,hm,by omega,by omega⟩
 | succ r ih=>
  intro k hk;simp only[Zme];split
  .rename_i hq
   have h0:0<=(w.at_+k) % (wants.length:Int):=Vc0 _ (by omega);have h0':(w.at_+k) % (wants.length:Int) < (wants.length:Int):=Vcn _ (by omega);have hmm:Zv c ((w.at_+k) % (wants.length:Int))=true:=by
    simp only[Zv,ZZl];omega
   have ht:=Z2b hc hmm;refine⟨?_,.inr ⟨hmm,hq⟩⟩;simp only[Za4,ZZg,ZZl];exact⟨hc,hmm,by omega,by omega⟩
  .exact ih (k+1) (by omega)
theorem Y29 {w:Z2} {c:Zl} {wants:List Bool} (h:Za4 w c=true) (hn:wants.length=c.masters.length):Za4 (Zc7 w c wants).1 c=true/\((Zc7 w c wants).2=-1\/(Zv c (Zc7 w c wants).2=true/\atI wants (Zc7 w c wants).2=true)):=by
 obtain⟨hc,hm,h1,h2⟩:=Zio h;unfold Zc7;split
 .rename_i h3
  simp only[ZZg,ZZl] at h3;refine⟨?_,.inr ⟨hm,h3.2⟩⟩;simp only[Za4,ZZg,ZZl];exact⟨hc,hm,by omega,by omega⟩
 .exact Y3i h hn _ _ (by omega)
def Yy (s:Int):Int:=if s=0 then 1 else if s=1 then 2 else if s=2 then 4 else 0
def Zgp (s:Int):Int:=if s=0 then 256 else if s=1 then 65536 else if s=2 then 4294967296 else 0
def Xx (b:Int):Int:=if b=0 then 1 else if b=1 then 4 else if b=2 then 4 else if b=3 then 8 else 0
theorem Zin (s:Int):0<=Yy s/\Yy s<=4:=by unfold Yy;repeat' split<;>omega
theorem Z1f (s:Int):0<=Zgp s/\Zgp s<=4294967296:=by unfold Zgp;repeat' split<;>omega
theorem Zmt (b:Int):0<=Xx b/\Xx b<=8:=by unfold Xx;repeat' split<;>omega
theorem Zbl (s:Int):Jo s=some (Yy s):=by
 unfold Jo;rw[Xk,ZZa];by_cases h:0<=s/\s<=2
 .have:s=0\/s=1\/s=2:=by omega
  rcases this with rfl|rfl|rfl<;>rfl
 .have:Yy s=0:=by unfold Yy;repeat' split<;>omega
  simp[h,this]
theorem Zh8 (s:Int):Zab s=some (Yy s):=by
 rw[<-Zbl];unfold Zab Jo;rw[X3,Xk]
theorem Zic (b:Int):Za9 b=some (Xx b):=by
 unfold Za9;rw[Xk,ZZa];by_cases h:0<=b/\b<=3
 .have:b=0\/b=1\/b=2\/b=3:=by omega
  rcases this with rfl|rfl|rfl|rfl<;>rfl
 .have:Xx b=0:=by unfold Xx;repeat' split<;>omega
  simp[h,this]
theorem Zta (b:Int):Zg2 b=some (Xx b):=by
 rw[<-Zic];unfold Zg2 Za9;rw[X3,Xk]
theorem Zbp (s:Int):Qo s=some (Zgp s):=by
 unfold Qo;rw[Zbl,ZZa,ZZa];by_cases h:s=0\/s=1\/s=2
 .rcases h with rfl|rfl|rfl<;>rfl
 .have h1:Yy s=0:=by unfold Yy;repeat' split<;>omega
  have h2:Zgp s=0:=by unfold Zgp;repeat' split<;>omega
  simp[h1,h2]
theorem Z8v (s:Int):Zp3 s=some (Zgp s):=by
 rw[<-Zbp];unfold Zp3 Qo;simp only[Zh8,Zbl]
def Xy (v s:Int):Bool:=decide (0<=v/\v < Zgp s)
theorem Zir (v s:Int):Zd9 v s=some (Xy v s):=by
 have:=Z1f s;unfold Zd9 Xy;rw[Z8v,ZZa,X3,ZZa,Xe (by omega) (by omega)]
 congr 2
 apply propext;omega
theorem Zq4 (v s:Int):Z5 v 0 (Y6 (Zgp s) 1)=some (Xy v s):=by
 have:=Z1f s;unfold Xy;rw[Xk,Xe (by omega) (by omega)]
 congr 2
 apply propext;omega
def Wd (a s:Int):Bool:=decide (0 < Yy s)&&(decide (0<=a)&&decide (a % Yy s=0))
theorem Ztu (a s:Int):Zba a s=some (Wd a s):=by
 unfold Zba Wd;rw[Zbl,ZZa,ZZa];by_cases h1:0 < Yy s
 .by_cases h2:0<=a
  .rw[Zw4 (by omega),Zek h2];simp[h1,h2]
  .simp[h1,h2]
 .simp[h1]
theorem Zro (s:Int):0 < Yy s↔(0<=s/\s<=2):=by
 unfold Yy
 repeat' split<;>omega
theorem Ztb (a s:Int):Zg9 a s=some (Wd a s):=by
 unfold Zg9 Wd;rw[X3,ZZa,Zh8,ZZa];by_cases h1:0 < Yy s
 .have h3:=(Zro s).1 h1
  by_cases h2:0<=a
  .rw[Zw4 (by omega),Zek h2];simp[h1,h2,h3]
  .simp[h1,h2,h3]
 .have h3:¬(0<=s/\s<=2):=λh=>h1 ((Zro s).2 h)
  simp[h1,h3]
def Zlr (a s b:Int):Int:=if (Wd a s=true/\a < 512)/\Xx b≠0 then (if b=2/\(a+Yy s) % (4*Yy s)=0 then a+Yy s - 4*Yy s else a+Yy s) else -1
theorem Zb1 {a s:Int} (h:Wd a s=true):0 < Yy s/\0<=a/\a % Yy s=0:=by
 simpa [Wd,ZZg,ZZl] using h
theorem Ymu (a s b:Int):Zmj a s b=some (Zlr a s b):=by
 have hb:=Zin s;unfold Zmj Ze3 Zit Zlr;rw[Zbl,ZZa,Ztu,ZZa,Xk,ZZa,Zic,ZZa];by_cases h1:Wd a s=true
 .obtain⟨h2,h3,h4⟩:=Zb1 h1
  by_cases h5:a < 512
  .have h6:0<=a/\a<=511:=by omega
   rw[Zft (by omega) (by omega),Ys (by omega) (by omega),Xe (by omega) (by omega),Zw4 (by omega),Zek (by omega)];by_cases h7:Xx b=0
   .simp[h1,h5,h6,h7]
   .by_cases h8:b=2
    .subst h8
     by_cases h9:(a+Yy s) % (4*Yy s)=0<;>simp[h1,h5,h6,h7,h9]
    .simp[h1,h5,h6,h7,h8]
  .have h6:¬(0<=a/\a<=511):=by omega
   simp[h1,h5,h6]
 .simp[h1]
theorem Yml (a s b:Int):Zsi a s b=some (Zlr a s b):=by
 have hb:=Zin s;unfold Zsi Ze5 Zlr;rw[Ztb,ZZa,Zh8,ZZa,ZZa,Zta,ZZa];by_cases h1:Wd a s=true
 .obtain⟨h2,h3,h4⟩:=Zb1 h1
  by_cases h5:a < 512
  .have h6:¬a≥512:=by omega
   rw[Zft (by omega) (by omega),Ys (by omega) (by omega),Xe (by omega) (by omega),Zw4 (by omega),Zek (by omega)];by_cases h7:Xx b=0
   .simp[h1,h5,h6,h7]
   .by_cases h8:b=2
    .subst h8
     by_cases h9:(a+Yy s) % (4*Yy s)=0<;>simp[h1,h5,h6,h7,h9]
    .simp[h1,h5,h6,h7,h8]
  .have h6:a≥512:=by omega
   simp[h1,h5,h6]
 .simp[h1]
theorem Ysz {a s b:Int} (h:0<=Zlr a s b):Wd a s=true/\a < 512:=by
 unfold Zlr at h;split at h
 .rename_i h1;exact h1.1
 .omega
def Zdd (s b:Int):Nat->Int->Option (List Int)
 | 0,_=>some []
 | n+1,a=>if Zlr a s b < 0 then none else (Zdd s b n (Zlr a s b)).map (a::·)
def Zad (a s b:Int):List Int:=(Zdd s b (Xx b).toNat a).getD []
theorem Z10 (a s b:Int):Zhz a s b=some (Zad a s b):=by
 have hb:=Zmt b;unfold Zhz;rw[Zta,ZZa];have key:∀(n m:Nat) (x:Int) (out:List Int) (k:Nat),n < m->(k:Int)+n=Xx b->out.length=k->Zf4 a s b m x out (Xx b) k=some (match Zdd s b n x with|some l=>out++l|none=>[]):=by
  intro n
  induction n with
  | zero=>
   intro m x out k hm hk ho;obtain⟨m,rfl⟩:∃m',m=m'+1:=⟨m - 1,by omega⟩;show Zcc a s b _ x out (Xx b) k=_;unfold Zcc;rw[ZZi (by simp;omega)];simp[Zdd]
  | succ n ih=>
   intro m x out k hm hk ho;obtain⟨m,rfl⟩:∃m',m=m'+1:=⟨m - 1,by omega⟩;show Zcc a s b _ x out (Xx b) k=_;unfold Zcc;rw[ZZj (by simp;omega),Yml,ZZa];simp only[Zdd];by_cases h1:Zlr x s b < 0
   .rw[ZZj (by simpa using h1),ZZj h1]
   .rw[ZZi (by simpa using h1),ZZi h1,Qu (by simp;omega) (by simp;omega),ZZa,Wq (by omega),ih m _ _ (k+1) (by omega) (by omega) (by simp[ho])]
    cases Zdd s b n (Zlr x s b)<;>simp
 have:=key (Xx b).toNat FU a [] 0 (by have:=Kr;omega) (by omega) rfl;rw[show ((0:Nat):Int)=0 from rfl] at this;rw[this];unfold Zad;cases Zdd s b (Xx b).toNat a<;>simp
theorem Z17 (a s b:Int):Zh9 a s b=some (Zad a s b):=by
 have hb:=Zmt b;unfold Zh9;have key:∀(n m:Nat) (x:Int) (out:List Int),n < m->(out.length:Int)+n=Xx b->Zf0 a s b m x out=some (match Zdd s b n x with|some l=>out++l|none=>[]):=by
  intro n
  induction n with
  | zero=>
   intro m x out hm hk;obtain⟨m,rfl⟩:∃m',m=m'+1:=⟨m - 1,by omega⟩;show Zb8 a s b _ x out=_;unfold Zb8 Zdb;have h1:¬((out.length:Int) < Xx b):=by omega
   simp[Zic,h1,Zdd]
  | succ n ih=>
   intro m x out hm hk;obtain⟨m,rfl⟩:∃m',m=m'+1:=⟨m - 1,by omega⟩;show Zb8 a s b _ x out=_;unfold Zb8 Zdb;have h1:(out.length:Int) < Xx b:=by omega
   simp only[Zic,Ymu,ZZa,h1,decide_true,if_true,Zdd,ZZl];by_cases h2:Zlr x s b < 0
   .have h3:¬(Zlr x s b≥0):=by omega
    rw[ZZi h3,ZZj h2]
   .have h3:Zlr x s b≥0:=by omega
    rw[ZZj h3,ZZi h2,Qu (by simp;omega) (by simp;omega),ZZa,ih m _ _ (by omega) (by simp;omega)];cases Zdd s b n (Zlr x s b)<;>simp
 have:=key (Xx b).toNat FU a [] (by have:=Kr;omega) (by simp;omega);rw[this];unfold Zad;cases Zdd s b (Xx b).toNat a<;>simp
theorem Yla {s b:Int}:∀{n:Nat} {a:Int} {l:List Int},Zdd s b n a=some l->l.length=n/\(∀x∈l,Wd x s=true/\x < 512)/\(0 < n->l.head?=some a):=by
 intro n
 induction n with
 | zero=>intro a l h;simp only[Zdd,ZZd] at h;subst h;simp
 | succ n ih=>
  intro a l h;simp only[Zdd] at h;split at h
  .cases h
  .rename_i h1
   obtain⟨l',h2,rfl⟩:=ZZc.1 h;obtain⟨h3,h4,_⟩:=ih h2;refine⟨by simp[h3],λx hx=>?_,λ_=>rfl⟩;rcases Vau.1 hx with rfl|hx
   .exact Ysz (s:=s) (b:=b) (by omega)
   .exact h4 x hx
theorem Ygk (a s b:Int):Zad a s b=[]\/((Zad a s b).length:Int)=Xx b:=by
 unfold Zad;have hb:=Zmt b;cases h:Zdd s b (Xx b).toNat a with
 | none=>exact .inl rfl
 | some l=>
  have:=(Yla h).1;exact .inr (by simp only[Vaz];omega)
theorem Z49 {a s b x:Int} (h:x∈Zad a s b):Wd x s=true/\0<=x/\x < 512:=by
 unfold Zad at h;cases h2:Zdd s b (Xx b).toNat a with
 | none=>rw[h2] at h;simp at h
 | some l=>
  rw[h2] at h;have:=(Yla h2).2.1 x h;exact⟨this.1,(Zb1 this.1).2.1,this.2⟩
theorem Ykt (a s b:Int):(Zad a s b).length<=8:=by
 have:=Zmt b;rcases Ygk a s b with h|h
 .rw[h];simp
 .omega
def Zpw (a s b:Int):Bool:=(Zad a s b).all (λx=>decide (x / 64=atI (Zad a s b) 0 / 64))&&decide (Zad a s b≠[])
theorem Ybg {x:Int} (h0:0<=x) (h1:x < 512):Ztv x 64=x / 64:=Ybc h0 (by omega) (by omega)
theorem Yp5 (a s b:Int):Zvi a s b=some (Zpw a s b):=by
 unfold Zvi Zpw;rw[Z10,ZZa];generalize hA:Zad a s b=l;have hm:∀x∈l,0<=x/\x < 512:=λx hx=>by rw[<-hA] at hx;exact (Z49 hx).2
 have hl:l.length<=8:=by rw[<-hA];exact Ykt a s b
 have key:∀(m k:Nat),k<=l.length->l.length - k < m->Zks a s b m l (l.length:Int) k=some ((l.drop k).all (λx=>decide (x / 64=atI l 0 / 64))&&decide (l≠[])):=by
  intro m
  induction m with
  | zero=>intro k _ h;omega
  | succ m ih=>
   intro k hk hm2;show Zrd a s b _ l (l.length:Int) k=_;unfold Zrd;by_cases hc:k < l.length
   .have h0:=hm _ (Vas hc)
    have h1:=hm _ (Vas (by omega:0 < l.length));rw[ZZj (by simpa using hc),Xu hc,ZZa,show (0:Int)=((0:Nat):Int) from rfl,Xu (by omega:0 < l.length),ZZa,Ybg h0.1 h0.2,Ybg h1.1 h1.2,Qj (by omega:0 < l.length),Va4 hc,Va7];by_cases hq:(l[k]:Int) / (64:Int)=(l[0]:Int) / (64:Int)
    .rw[ZZi (by simpa using hq),Wq (by omega),ih (k+1) (by omega) (by omega),show (0:Int)=((0:Nat):Int) from rfl,Qj (by omega:0 < l.length),decide_eq_true hq,Vbz]
    .rw[ZZj (by simpa using hq),decide_eq_false hq,Vbq,Vbq]
   .rw[ZZi (by simpa using hc),Vbb (by omega)]
    simp[Vao]
 have:=key FU 0 (Vbl _) (by have:=Kr;omega);simpa using this
theorem Yo6 (a s b:Int):Zv1 a s b=some (Zpw a s b):=by
 unfold Zv1 Zpw;rw[Z17,ZZa];generalize hA:Zad a s b=l;have hm:∀x∈l,0<=x/\x < 512:=λx hx=>by rw[<-hA] at hx;exact (Z49 hx).2
 have hl:l.length<=8:=by rw[<-hA];exact Ykt a s b
 have key:∀(m k:Nat),k<=l.length->l.length - k < m->Zkx a s b m l k=some ((l.drop k).all (λx=>decide (x / 64=atI l 0 / 64))&&decide (l≠[])):=by
  intro m
  induction m with
  | zero=>intro k _ h;omega
  | succ m ih=>
   intro k hk hm2;show Zq1 a s b _ l k=_;unfold Zq1;by_cases hc:k < l.length
   .have h0:=hm _ (Vas hc)
    have h1:=hm _ (Vas (by omega:0 < l.length));rw[ZZj (by simpa using hc),Xu hc,ZZa,show (0:Int)=((0:Nat):Int) from rfl,Xu (by omega:0 < l.length),ZZa,Ybg h0.1 h0.2,Ybg h1.1 h1.2,Qj (by omega:0 < l.length),Va4 hc,Va7];by_cases hq:(l[k]:Int) / (64:Int)=(l[0]:Int) / (64:Int)
    .rw[ZZi (by simpa using hq),Wq (by omega),ih (k+1) (by omega) (by omega),show (0:Int)=((0:Nat):Int) from rfl,Qj (by omega:0 < l.length),decide_eq_true hq,Vbz]
    .rw[ZZj (by simpa using hq),decide_eq_false hq,Vbq,Vbq]
   .rw[ZZi (by simpa using hc),Vbb (by omega)]
    simp[Vao]
 have:=key FU 0 (Vbl _) (by have:=Kr;omega);simpa using this
instance:Inhabited Zf:=⟨Zf.z0⟩
def Zd1 (r:Zf):Bool:=Zpw r.addr r.size r.burst&&(decide ((r.data_.length:Int)=if r.write then Xx r.burst else 0)&&r.data_.all λv=>Xy v r.size)
def Zf.sm (r:Zf):Prop:=r.data_.length < 1048577
theorem Ygz (r:Zf) (hs:r.sm):Zww r=some (Zd1 r):=by
 unfold Zf.sm at hs;have hf:Wu r.data_ r=some (!r.data_.all λv=>Xy v r.size):=by
  unfold Wu K6;refine Z2j r.data_ (by omega) (λv=>Zv5 v r) (λv=>Xy v r.size) (λv _=>?_) _ (λm i=>rfl);unfold Zv5;rw[Zir];rfl
 unfold Zww Zqk Zd1;rw[Zta,ZZa,Yp5,ZZa,hf,ZZa,Vej];by_cases h1:Zpw r.addr r.size r.burst=true
 .by_cases h2:r.write=true
  .by_cases h3:(r.data_.length:Int)=Xx r.burst<;>simp[h1,h2,h3]
  .by_cases h3:r.data_=[]<;>simp[h1,h2,h3]
 .by_cases h2:r.write=true<;>simp[h1,h2]
theorem Yh1 (r:Zf) (hs:r.sm):Zxb r=some (Zd1 r):=by
 unfold Zf.sm at hs;unfold Zxb;rw[Yo6,ZZa];have hb:=Zmt r.burst;have key:∀(m k:Nat),k<=r.data_.length->r.data_.length - k < m->Zqe r m k=some (decide ((r.data_.length:Int)=if r.write then Xx r.burst else 0)&&(r.data_.drop k).all λv=>Xy v r.size):=by
  intro m
  induction m with
  | zero=>intro k _ h;omega
  | succ m ih=>
   intro k hk hm;show Zu4 r _ k=_;unfold Zu4;by_cases hc:k < r.data_.length
   .rw[ZZj (by simpa using hc),Xu hc,ZZa,Zbp,ZZa,Zq4,ZZa,Va4 hc,Va7]
    by_cases hq:Xy r.data_[k] r.size=true
    .rw[ZZi (by simp[hq]),Wq (by omega),ih (k+1) (by omega) (by omega)]
     simp[hq]
    .rw[ZZj (by simp[hq])]
     simp[hq]
   .rw[ZZi (by simpa using hc),Vbb (by omega),Zic]
    cases h2:r.write<;>simp only[if_true,if_false,ZZf,ZZa,Vdl,Vci]<;>generalize decide ((r.data_.length:Int)=0)=x<;>generalize decide ((r.data_.length:Int)=Xx r.burst)=y<;>cases x<;>cases y<;>rfl
 have:=key FU 0 (Vbl _) (by have:=Kr;omega);unfold Zd1;by_cases h1:Zpw r.addr r.size r.burst=true
 .rw[ZZi (by simp[h1]),show (0:Int)=((0:Nat):Int) from rfl,this]
  simp[h1]
 .rw[ZZj (by simp[h1])]
  simp[h1]
theorem Zip {r:Zf} (h:Zd1 r=true):Zpw r.addr r.size r.burst=true/\(r.data_.length:Int)=(if r.write then Xx r.burst else 0)/\∀v∈r.data_,Xy v r.size=true:=by
 simp only[Zd1,ZZg,ZZl,ZZk] at h;exact⟨h.1,h.2.1,h.2.2⟩
theorem Zrq {a s b:Int} (h:Zpw a s b=true):((Zad a s b).length:Int)=Xx b/\1<=Xx b:=by
 simp only[Zpw,ZZg,ZZl] at h;rcases Ygk a s b with h1|h1
 .exact absurd h1 h.2
 .have:0 < (Zad a s b).length:=Vao.2 h.2
  omega
theorem Y09 {r:Zf} (h:Zd1 r=true):r.sm:=by
 have:=(Zip h).2.1;have hb:=Zmt r.burst;unfold Zf.sm;split at this<;>omega
theorem Z91 (r:Zf) (hs:r.sm):Zjg r=some r:=by
 unfold Zf.sm at hs;unfold Zjg Xf;rw[Qu (by simp;omega) (by simp;omega)];rfl
theorem Z8q (r:Zf) (hs:r.sm):Zje r=some r:=by
 unfold Zf.sm at hs;unfold Zje;rw[Qu (by simp;omega) (by simp;omega)];rfl
instance:Inhabited Zb:=⟨Zb.z0⟩
def Z0 (m:Zb):Int:=if m.queue=[] then 0 else Xx (atI m.queue 0).burst
theorem Zsx (m:Zb):0<=Z0 m/\Z0 m<=8:=by
 unfold Z0;have:=Zmt (atI m.queue 0).burst;split<;>omega
def Zwu (m:Zb):Bool:=decide (m.queue.length<=4)&&(decide (0<=m.tries)&&(m.queue.all Zd1&&
 (if m.queue=[] then decide (m.beat=0)&&(decide (m.done=0)&&(decide (m.tries=0)&&(!m.parted&&!m.broken))) else decide (0<=m.done/\m.done<=Z0 m - 1)&&decide (m.done<=m.beat/\m.beat<=min (m.done+2) (Z0 m)))))
def Zb.sm (m:Zb):Prop:=m.queue.length < 1048577/\∀r∈m.queue,r.sm
structure Yv (m:Zb):Prop where
 len:m.queue.length<=4
 tries:0<=m.tries
 reqs:∀r∈m.queue,Zd1 r=true
 none:m.queue=[]->m.beat=0/\m.done=0/\m.tries=0/\m.parted=false/\m.broken=false
 some:m.queue≠[]->0<=m.done/\m.done < Z0 m/\m.done<=m.beat/\m.beat<=m.done+2/\m.beat<=Z0 m
theorem K9 {m:Zb}:Zwu m=true↔Yv m:=by
 unfold Zwu;by_cases h:m.queue=[]
 .constructor
  .intro h1
   simp only[h,if_true,ZZg,ZZl,Vb2] at h1;exact⟨by simp[h],h1.2.1,by simp[h],λ_=>⟨h1.2.2.2.1,h1.2.2.2.2.1,h1.2.2.2.2.2.1,h1.2.2.2.2.2.2.1,h1.2.2.2.2.2.2.2⟩,λh2=>absurd h h2⟩
  .intro h1
   obtain⟨h2,h3,h4,h5,h6⟩:=h1.none h;simp[h,h2,h3,h4,h5,h6]
 .constructor
  .intro h1
   rw[ZZi h] at h1;simp only[ZZg,ZZl,ZZk] at h1;exact⟨h1.1,h1.2.1,h1.2.2.1,λh2=>absurd h2 h,λ_=>by omega⟩
  .intro h1
   have h2:=h1.some h;rw[ZZi h];simp only[ZZg,ZZl,ZZk];exact⟨h1.len,h1.tries,h1.reqs,by omega,by omega⟩
theorem Yv.sm {m:Zb} (h:Yv m):m.sm:=⟨by have:=h.len;omega,λr hr=>Y09 (h.reqs r hr)⟩
theorem Zyc (m:Zb):Zb0 m=some (Z0 m):=by
 unfold Zb0 Z0;by_cases h:m.queue=[]
 .simp[h]
 .have h1:0 < m.queue.length:=Vao.2 h
  rw[ZZi (by simpa using h),ZZi h,Xr (by omega) (by omega),ZZa,Zta];rfl
theorem Zyx (m:Zb):Zc5 m=some (Z0 m):=by
 unfold Zc5 Z0;by_cases h:m.queue=[]
 .simp[h]
 .have h1:0 < m.queue.length:=Vao.2 h
  rw[ZZi (by simpa using h),ZZi h,Xr (by omega) (by omega),ZZa,Zic];rfl
theorem Zby (m:Zb) (hs:m.sm):Kk m=some (Zwu m):=by
 have hf:X2 m.queue=some (!m.queue.all Zd1):=by
  unfold X2 Qt;refine Z2j m.queue (by have:=hs.1;omega) Zgm Zd1 (λr hr=>?_) _ (λm i=>rfl);unfold Zgm;rw[Ygz r (hs.2 r hr)];rfl
 have hb:=Zsx m;have hJ:Wt m false=some (if m.queue=[] then decide (m.beat=0)&&(decide (m.done=0)&&(decide (m.tries=0)&&(!m.parted&&!m.broken))) else decide (0<=m.done/\m.done<=Z0 m - 1)&&decide (m.done<=m.beat/\m.beat<=min (m.done+2) (Z0 m))):=by
  unfold Wt;rw[Zyc,ZZa,ZZa,X3,ZZa,X3,ZZa,Xe (by omega) (by omega)];by_cases h:m.queue=[]
  .rw[ZZi (by simp),ZZj (by simpa using h),ZZj h]
   by_cases h1:m.beat=0<;>by_cases h2:m.done=0<;>by_cases h3:m.tries=0<;>by_cases h4:m.parted=true<;>simp[h1,h2,h3,h4]
  .rw[ZZi (by simp),ZZi (by simpa using h),ZZi h]
   by_cases h1:0<=m.done/\m.done<=Z0 m - 1
   .rw[Ys (by omega) (by omega),Zcn]
    simp[h1]
   .simp[h1]
 unfold Kk Zwu;rw[hf,ZZa];by_cases h1:(m.queue.length:Int) > 4
 .have h2:¬m.queue.length<=4:=by omega
  simp[h1,h2,Wt]
 .have h2:m.queue.length<=4:=by omega
  by_cases h3:m.tries < 0
  .have h4:¬0<=m.tries:=by omega
   simp[h1,h2,h3,h4,Wt]
  .have h4:0<=m.tries:=by omega
   rw[ZZi (by simpa using h1),ZZi (by simpa using h3)];by_cases h5:m.queue.all Zd1=true
   .rw[h5,Va5,hJ]
    simp only[h2,h4,decide_true,Vbz]
   .have h6:m.queue.all Zd1=false:=by simpa using h5
    rw[h6,Vbi];simp[Wt]
theorem Zfu (m:Zb) (hs:m.sm):Zbm m=some (Zwu m):=by
 have hb:=Zsx m;have hJ:Zan m false=some (if m.queue=[] then decide (m.beat=0)&&(decide (m.done=0)&&(decide (m.tries=0)&&(!m.parted&&!m.broken))) else decide (0<=m.done/\m.done<=Z0 m - 1)&&decide (m.done<=m.beat/\m.beat<=min (m.done+2) (Z0 m))):=by
  unfold Zan;rw[Zyx,ZZa,ZZa,Xk,ZZa,Xk,ZZa,Xe (by omega) (by omega)];by_cases h:m.queue=[]
  .rw[ZZi (by simp),ZZj (by simpa using h),ZZj h]
   by_cases h1:m.beat=0<;>by_cases h2:m.done=0<;>by_cases h3:m.tries=0<;>by_cases h4:m.parted=true<;>simp[h1,h2,h3,h4]
  .rw[ZZi (by simp),ZZi (by simpa using h),ZZi h]
   by_cases h1:0<=m.done/\m.done<=Z0 m - 1
   .rw[Ys (by omega) (by omega),Zcn]
    simp[h1]
   .simp[h1]
 unfold Zbm;have hl:=hs.1;have key:∀(n k:Nat),k<=m.queue.length->m.queue.length - k < n->Ziy m n k=some (decide (m.queue.length<=4)&&(decide (0<=m.tries)&&((m.queue.drop k).all Zd1&&
 (if m.queue=[] then decide (m.beat=0)&&(decide (m.done=0)&&(decide (m.tries=0)&&(!m.parted&&!m.broken))) else decide (0<=m.done/\m.done<=Z0 m - 1)&&decide (m.done<=m.beat/\m.beat<=min (m.done+2) (Z0 m)))))):=by
  intro n
  induction n with
  | zero=>intro k _ h;omega
  | succ n ih=>
   intro k hk hm;show Zpi m _ k=_;unfold Zpi;by_cases hc:k < m.queue.length
   .rw[ZZj (by simpa using hc),Xu hc,ZZa,Yh1 _ (hs.2 _ (Vas hc)),ZZa,Va4 hc,Va7]
    by_cases hq:Zd1 m.queue[k]=true
    .rw[ZZi (by simp[hq]),Wq (by omega),ih (k+1) (by omega) (by omega)]
     simp[hq]
    .rw[ZZj (by simp[hq])]
     simp[hq]
   .rw[ZZi (by simpa using hc),Vbb (by omega)]
    by_cases h1:(m.queue.length:Int) > 4
    .have h2:¬m.queue.length<=4:=by omega
     simp[h1,h2,Zan]
    .have h2:m.queue.length<=4:=by omega
     by_cases h3:m.tries < 0
     .have h4:¬0<=m.tries:=by omega
      simp[h1,h2,h3,h4,Zan]
     .have h4:0<=m.tries:=by omega
      rw[ZZi (by simpa using h1),decide_eq_false h3,hJ];simp only[h2,h4,decide_true,Vbz,Vdl]
 have:=key FU 0 (Vbl _) (by have:=Kr;omega);simpa [Zwu] using this
theorem Zp7 (m:Zb) (hs:m.sm):Zfz m=some m:=by
 unfold Zfz;refine (Yld 64 (by decide) m.queue hs.1 Zjg (λr hr=>Z91 r (hs.2 r hr)) (λv=>some {m with queue:=v}) (Znx m) (λn v i=>rfl)).trans ?_;rfl
theorem Zmr (m:Zb) (hs:m.sm):Zd8 m=some m:=by
 unfold Zd8;refine (Yld 64 (by decide) m.queue hs.1 Zje (λr hr=>Z8q r (hs.2 r hr)) (λv=>some {m with queue:=v}) (Zl4 m) (λn v i=>rfl)).trans ?_;rfl
def J0 (m:Zb) (r:Zf):Zb:=if Zd1 r=true/\m.queue.length≠4 then {m with queue:=m.queue++[r]} else m
def Zp4 (m:Zb):Bool:=decide (m.beat < Z0 m)
def X7 (m:Zb) (b:Int):Int:=if 0<=b/\b<=Z0 m - 1 then atI (Zad (atI m.queue 0).addr (atI m.queue 0).size (atI m.queue 0).burst) b else -1
def X6 (m:Zb):Zb:=if m.beat < Z0 m/\m.beat≠m.done+2 then {m with beat:=m.beat+1} else m
def Zbq (m:Zb):Zb:=if m.beat=m.done then m else {m with beat:=m.beat - 1}
def Jh (m:Zb):Zb:=if m.beat=m.done then m else if m.done+1=Z0 m then Zb.mk m.queue.tail 0 0 0 false false else Zb.mk m.queue m.beat (m.done+1) 0 false m.broken
theorem Jd {m:Zb} (h:Yv m):0<=m.done/\m.done<=8/\0<=m.beat/\m.beat<=8:=by
 have hb:=Zsx m;by_cases hq:m.queue=[]
 .have:=h.none hq;omega
 .have:=h.some hq;omega
theorem Zvw {m:Zb} (h:Yv m) (hq:m.queue≠[]):Zd1 (atI m.queue 0)=true/\Z0 m=Xx (atI m.queue 0).burst/\1<=Z0 m:=by
 have h1:0 < m.queue.length:=Vao.2 hq;have h2:Zd1 (atI m.queue 0)=true:=h.reqs _ (Zj5 (by omega) (by omega));have h3:Z0 m=Xx (atI m.queue 0).burst:=by unfold Z0;rw[ZZi hq]
 exact⟨h2,h3,by rw[h3];exact (Zrq (Zip h2).1).2⟩
theorem Ypv {m:Zb} {b:Int} (h:Yv m) (h0:0<=b) (h1:b < Z0 m):X7 m b∈Zad (atI m.queue 0).addr (atI m.queue 0).size (atI m.queue 0).burst/\Wd (X7 m b) (atI m.queue 0).size=true/\0<=X7 m b/\X7 m b < 512:=by
 have hq:m.queue≠[]:=by
  intro hq;unfold Z0 at h1;rw[ZZj hq] at h1;omega
 obtain⟨h2,h3,h4⟩:=Zvw h hq;have h5:=(Zrq (Zip h2).1).1;have h6:X7 m b=atI (Zad (atI m.queue 0).addr (atI m.queue 0).size (atI m.queue 0).burst) b:=by
  unfold X7;rw[ZZj (by omega)]
 have h7:=Zj5 (xs:=Zad (atI m.queue 0).addr (atI m.queue 0).size (atI m.queue 0).burst) h0 (by omega);rw[h6];have h8:=Z49 h7;exact⟨h7,h8.1,h8.2.1,h8.2.2⟩
theorem Zeo {m:Zb} (b:Int) (h:Yv m):Zeb m b=some (X7 m b):=by
 have hb:=Zsx m;unfold Zeb Zld;rw[Zby m h.sm,ZZa,K9.2 h,Zyc,ZZa,X3,ZZa,Xe (by omega) (by omega)];by_cases h1:0<=b/\b<=Z0 m - 1
 .have hq:m.queue≠[]:=by
   intro hq;unfold Z0 at h1;rw[ZZj hq] at h1;omega
  obtain⟨h2,h3,h4⟩:=Zvw h hq;have h5:=(Zrq (Zip h2).1).1;have h6:0 < m.queue.length:=Vao.2 hq;rw[Xr (by omega) (by omega),ZZa,Z10,ZZa,Xr h1.1 (by omega)];simp[h1,X7]
 .simp[h1,X7]
theorem Zif {m:Zb} (b:Int) (h:Yv m):Zha m b=some (X7 m b):=by
 have hb:=Zsx m;unfold Zha Zlf;rw[Zfu m h.sm,ZZa,K9.2 h,Zyx,ZZa,Xk,ZZa,Xe (by omega) (by omega)];by_cases h1:0<=b/\b<=Z0 m - 1
 .have hq:m.queue≠[]:=by
   intro hq;unfold Z0 at h1;rw[ZZj hq] at h1;omega
  obtain⟨h2,h3,h4⟩:=Zvw h hq;have h5:=(Zrq (Zip h2).1).1;have h6:0 < m.queue.length:=Vao.2 hq;rw[Xr (by omega) (by omega),ZZa,Z17,ZZa,Xr h1.1 (by omega)];simp[h1,X7]
 .simp[h1,X7]
theorem Z69 {m:Zb} (h:Yv m):Zm6 m=some (Zp4 m):=by
 unfold Zm6 Zp4;rw[Zby m h.sm,ZZa,K9.2 h,Zyc];rfl
theorem Z7c {m:Zb} (h:Yv m):Znc m=some (Zp4 m):=by
 unfold Znc Zp4;rw[Zfu m h.sm,ZZa,K9.2 h,Zyx];rfl
theorem Yqh {m:Zb} {r:Zf} (h:Yv m) (hr:r.sm):∃b,Zvy m r=some (J0 m r,b):=by
 have hl:=h.len;unfold Zvy Zgh J0;rw[Zp7 m h.sm,ZZa,Zby m h.sm,ZZa,K9.2 h,Ygz r hr,ZZa,Z91 r hr,ZZa,Qu (by simp;omega) (by simp;omega),ZZa];by_cases h1:Zd1 r=true
 .by_cases h2:m.queue.length=4
  .simp[h1,h2]
  .have h3:¬((m.queue.length:Int)=4):=by omega
   simp[h1,h2,h3]
 .simp[h1]
theorem Yqu {m:Zb} {r:Zf} (h:Yv m) (hr:r.sm):∃b,Zwe m r=some (J0 m r,b):=by
 have hl:=h.len;unfold Zwe Zf9 J0;rw[Zmr m h.sm,ZZa,Zfu m h.sm,ZZa,K9.2 h,Yh1 r hr,ZZa,Z8q r hr,ZZa,Qu (by simp;omega) (by simp;omega),ZZa];by_cases h1:Zd1 r=true
 .by_cases h2:m.queue.length=4
  .simp[h1,h2]
  .have h3:¬((m.queue.length:Int)=4):=by omega
   simp[h1,h2,h3]
 .simp[h1]
theorem Ymf {m:Zb} (h:Yv m):∃b,Zr5 m=some (X6 m,b):=by
 have hb:=Jd h;unfold Zr5 Zjf X6;rw[Zp7 m h.sm,ZZa,Z69 h,ZZa,Ys (a:=m.done) (by omega) (by omega),Ys (by omega) (by omega)];unfold Zp4;by_cases h1:m.beat < Z0 m
 .by_cases h2:m.beat=m.done+2<;>simp[h1,h2]
 .simp[h1]
theorem Ymi {m:Zb} (h:Yv m):∃b,Ztk m=some (X6 m,b):=by
 have hb:=Jd h;unfold Ztk Zi4 X6;rw[Zmr m h.sm,ZZa,Z7c h,ZZa,Ys (a:=m.done) (by omega) (by omega),Ys (by omega) (by omega)];unfold Zp4;by_cases h1:m.beat < Z0 m
 .by_cases h2:m.beat=m.done+2<;>simp[h1,h2]
 .simp[h1]
theorem Ynz {m:Zb} (h:Yv m):∃b,Zva m=some (Zbq m,b):=by
 have hb:=Jd h;unfold Zva Zl2 Zbq;rw[Zp7 m h.sm,ZZa,Zby m h.sm,ZZa,K9.2 h,Xe (by omega) (by omega)];by_cases h1:m.beat=m.done<;>simp[h1]
theorem Yqv {m:Zb} (h:Yv m):∃b,Zvl m=some (Zbq m,b):=by
 have hb:=Jd h;unfold Zvl Zlw Zbq;rw[Zmr m h.sm,ZZa,Zfu m h.sm,ZZa,K9.2 h,Xe (by omega) (by omega)];by_cases h1:m.beat=m.done<;>simp[h1]
theorem Zym {α:Type} (xs:List α) (h:xs≠[]) (hl:xs.length < 1048577):J9 xs 1 (xs.length:Int)=some xs.tail:=by
 have h1:0 < xs.length:=Vao.2 h;unfold J9;rw[ZZj ⟨by omega,by omega,by omega⟩]
 congr 1
 rw[Vbh (by simp),<-List.drop_one];rfl
theorem Zg4 {m:Zb} (h:Yv m) (hb:m.beat≠m.done):m.queue≠[]:=by
 intro hq;have:=h.none hq;omega
theorem Ysw {m:Zb} (h:Yv m):∃b,Zyr m=some (Jh m,b):=by
 have hb:=Jd h;have hl:=h.len;unfold Zyr Zo2 Jh;rw[Zp7 m h.sm,ZZa,Zby m h.sm,ZZa,K9.2 h,Ys (by omega) (by omega),Zyc,ZZa];have e:Z0 {m with done:=m.done+1}=Z0 m:=rfl;rw[e];by_cases h1:m.beat=m.done
 .simp[h1]
 .rw[Zym _ (Zg4 h h1) (by omega),ZZa]
  by_cases h2:m.done+1=Z0 m<;>simp[h1,h2]
theorem Ysl {m:Zb} (h:Yv m):∃b,Zyk m=some (Jh m,b):=by
 have hb:=Jd h;have hl:=h.len;unfold Zyk Zny Jh;rw[Zmr m h.sm,ZZa,Zfu m h.sm,ZZa,K9.2 h,Ys (by omega) (by omega),Zyx,ZZa];by_cases h1:m.beat=m.done
 .simp[h1]
 .rw[Zym _ (Zg4 h h1) (by omega),ZZa]
  by_cases h2:m.done+1=Z0 m<;>simp[h1,h2]
theorem Yce {m:Zb} {r:Zf} (h:m.queue≠[]):atI (m.queue++[r]) 0=atI m.queue 0:=by
 cases hq:m.queue with
 | nil=>exact absurd hq h
 | cons a l=>rfl
theorem Yxu {m:Zb} {r:Zf} (h:Yv m):Yv (J0 m r):=by
 unfold J0;split
 .rename_i h1
  have hl:=h.len;have Yk:m.queue++[r]≠[]:=by simp
  refine⟨by simp;omega,h.tries,λx hx=>?_,λhx=>absurd hx Yk,λ_=>?_⟩
  .rcases Var.1 hx with hx|hx
   .exact h.reqs x hx
   .rw[List.mem_singleton.1 hx];exact h1.1
  .by_cases hq:m.queue=[]
   .obtain⟨h2,h3,h4,h5,h6⟩:=h.none hq
    have hm:Z0 {m with queue:=m.queue++[r]}=Xx r.burst:=by
     unfold Z0;rw[ZZi Yk];simp[hq,atI]
    have:=(Zrq (Zip h1.1).1).2;rw[hm];simp only[h2,h3];omega
   .have h2:=h.some hq
    have hm:Z0 {m with queue:=m.queue++[r]}=Z0 m:=by
     unfold Z0;rw[ZZi Yk,ZZi hq];simp only[Yce hq]
    rw[hm];exact h2
 .exact h
theorem Yuv {m:Zb} (h:Yv m):Yv (X6 m):=by
 unfold X6;split
 .rename_i h1
  have hq:m.queue≠[]:=by
   intro hq;unfold Z0 at h1;rw[ZZj hq] at h1;have:=Jd h;omega
  have h2:=h.some hq;refine⟨h.len,h.tries,h.reqs,λhx=>absurd hx hq,λ_=>?_⟩;have hm:Z0 {m with beat:=m.beat+1}=Z0 m:=rfl;rw[hm];simp only;omega
 .exact h
theorem Yg5 {m:Zb} (h:Yv m):Yv (Zbq m):=by
 unfold Zbq;split
 .exact h
 .rename_i h1
  have hq:=Zg4 h h1;have h2:=h.some hq;refine⟨h.len,h.tries,h.reqs,λhx=>absurd hx hq,λ_=>?_⟩;have hm:Z0 {m with beat:=m.beat - 1}=Z0 m:=rfl;rw[hm];simp only;omega
theorem Y1j {m:Zb} (h:Yv m):Yv (Jh m):=by
 unfold Jh;split
 .exact h
 .rename_i h1
  have hq:=Zg4 h h1;have h2:=h.some hq;split
  .have hr:∀r∈m.queue.tail,Zd1 r=true:=λr hr=>h.reqs r (List.mem_of_mem_tail hr)
   refine⟨by have:=h.len;simp;omega,by simp,hr,λ_=>by simp,λhx=>?_⟩;have h3:Yv (Zb.mk m.queue.tail 0 0 0 false false)->True:=λ_=>trivial;have h4:0 < m.queue.tail.length:=Vao.2 hx;have h5:Zd1 (atI m.queue.tail 0)=true:=hr _ (Zj5 (by omega) (by omega));have h6:=(Zrq (Zip h5).1).2;have hm:Z0 (Zb.mk m.queue.tail 0 0 0 false false)=Xx (atI m.queue.tail 0).burst:=by
    unfold Z0;rw[ZZi hx]
   rw[hm];simp only;omega
  .rename_i h3
   refine⟨h.len,by simp,h.reqs,λhx=>absurd hx hq,λ_=>?_⟩;have hm:Z0 (Zb.mk m.queue m.beat (m.done+1) 0 false m.broken)=Z0 m:=rfl;rw[hm];simp only;omega
theorem Y5s {a b:Int} {k:Nat} (h0:0<=a) (h1:a < 2^k) (hb:0<=b) (hk:b*2^k+a < 9223372036854775808):orW a (b*2^k)=a+b*2^k:=by
 obtain⟨a,rfl⟩:=Vc7 h0;obtain⟨b,rfl⟩:=Vc7 hb;have e1:(b:Int)*2^k=((b*2^k:Nat):Int):=by simp
 rw[e1] at hk ⊢;have h1':a < 2^k:=by
  have:((a:Nat):Int) < ((2^k:Nat):Int):=by simpa using h1
  exact Int.ofNat_lt.1 this
 have h2:a+b*2^k < 18446744073709551616:=by omega
 unfold orW;show IntKind.i64.wrap (((BitVec.ofInt 64 ((a:Nat):Int) ||| BitVec.ofInt 64 ((b*2^k:Nat):Int)).toNat:Nat):Int)=_;rw[Vcw,Vcw,BitVec.toNat_or,Vc3,Vc3,Vdf (by omega),Vdf (by omega)];have h3:a ||| b*2^k=a+b*2^k:=by
  rw[Nat.or_comm,<-Nat.shiftLeft_eq,<-Nat.shiftLeft_add_eq_or_of_lt h1',Vdh]
 rw[h3,Zzv (by omega) (by omega)];simp
theorem Y21 {a:Int} (h0:0<=a) (h1:a < 9223372036854775808):andW a 255=a % 256:=by
 obtain⟨a,rfl⟩:=Vc7 h0;unfold andW;show IntKind.i64.wrap (((BitVec.ofInt 64 ((a:Nat):Int) &&& BitVec.ofInt 64 ((255:Nat):Int)).toNat:Nat):Int)=_;rw[Vcw,Vcw,BitVec.toNat_and,Vc3,Vc3,Vdf (by omega),Vdf (by omega)];have h3:a &&& 255=a % 256:=Nat.and_two_pow_sub_one_eq_mod a 8;rw[h3,Zzv (by omega) (by omega)];omega
theorem Y5u {a:Int} {k:Nat} (hk:k<=64) (h0:0<=a) (h1:a*2^k < 9223372036854775808):Yev a (k:Int)=a*2^k:=by
 unfold Yev;have:min ((k:Int).toNat) IntKind.i64.bits=k:=by
  show min ((k:Int).toNat) 64=k;omega
 rw[this];have:0<=a*2^k:=Veg h0 (Int.pow_nonneg (by omega));exact Zzv (by omega) h1
theorem Y5n {a:Int} {k:Nat} (hk:k<=64) (h0:0<=a):shrW a (k:Int)=a / 2^k:=by
 unfold shrW;have:min ((k:Int).toNat) IntKind.i64.bits=k:=by
  show min ((k:Int).toNat) 64=k;omega
 rw[this,Int.fdiv_eq_ediv_of_nonneg _ (Int.pow_nonneg (by omega))]
def Zcx (n:Int):Bool:=decide (0<=n/\n<=255)
def Z3l (mem:List Int):Bool:=decide (mem.length<=512)&&mem.all Zcx
def Zlu (mem:List Int) (a s:Int):Bool:=Z3l mem&&(Wd a s&&decide (a<=(mem.length:Int) - Yy s))
theorem Z98 (mem:List Int) (a s:Int) (hl:mem.length < 1048577):Zuu mem a s=some (Zlu mem a s):=by
 have hb:=Zin s;have hf:W0 mem=some (!mem.all Zcx):=by
  unfold W0 Jc;refine Z2j mem (by omega) Zya Zcx (λr hr=>?_) _ (λm i=>rfl);unfold Zya;rw[X3];rfl
 unfold Zuu Zlu Z3l;rw[hf,ZZa,Ztb,ZZa,Zh8,ZZa,Xe (by omega) (by omega)];by_cases h1:mem.length<=512
 .have h2:(mem.length:Int)<=512:=by omega
  by_cases h3:mem.all Zcx=true
  .by_cases h4:Wd a s=true<;>simp only[h1,h2,h3,h4,decide_true,if_true,Va5,Vbi,Vbz,Vce,Vbq,ZZf,if_false]
  .simp[h1,h2,h3]
 .have h2:¬(mem.length:Int)<=512:=by omega
  simp[h1,h2]
theorem Z82 (mem:List Int) (hl:mem.length < 1048577):Zp8 mem=some (Z3l mem):=by
 unfold Zp8 Z3l;have key:∀(n k:Nat),k<=mem.length->mem.length - k < n->Zk7 mem n k=some (decide (mem.length<=512)&&(mem.drop k).all Zcx):=by
  intro n
  induction n with
  | zero=>intro k _ h;omega
  | succ n ih=>
   intro k hk hm;show Zqw mem _ k=_;unfold Zqw;by_cases hc:k < mem.length
   .rw[ZZj (by simpa using hc),Xu hc,ZZa,Xk,ZZa,Va4 hc,Va7]
    by_cases hq:0<=mem[k]/\mem[k]<=255
    .rw[ZZi (by simp[hq]),Wq (by omega),ih (k+1) (by omega) (by omega)]
     simp[hq,Zcx]
    .rw[ZZj (by simp[hq])]
     simp[hq,Zcx]
   .rw[ZZi (by simpa using hc),Vbb (by omega)]
    by_cases h1:mem.length<=512
    .have h2:(mem.length:Int)<=512:=by omega
     simp[h1,h2]
    .have h2:¬(mem.length:Int)<=512:=by omega
     simp[h1,h2]
 have:=key FU 0 (Vbl _) (by have:=Kr;omega);simpa using this
theorem Ycu (mem:List Int) (a s:Int) (hl:mem.length < 1048577):Zt3 mem a s=some (Zlu mem a s):=by
 have hb:=Zin s;unfold Zt3 Zlu;rw[Z82 mem hl,ZZa,Ztu,ZZa,Zbl,ZZa,Xe (by omega) (by omega)];by_cases h3:Z3l mem=true
 .by_cases h4:Wd a s=true<;>simp only[h3,h4,if_true,Vbz,Vbq,ZZf,if_false]
 .simp[h3]
def Zh4 (mem:List Int):Nat->Int->Int
 | 0,_=>0
 | n+1,a=>atI mem a+256*Zh4 mem n (a+1)
def Z6m:Nat->List Int->Int->Int->List Int
 | 0,l,_,_=>l
 | n+1,l,a,v=>Z6m n (l.set a.toNat (v % 256)) (a+1) (v / 256)
theorem Y4p:∀(n:Nat) (l:List Int) (a v:Int),(Z6m n l a v).length=l.length:=by
 intro n
 induction n with
 | zero=>intro l a v;rfl
 | succ n ih=>intro l a v;simp only[Z6m,ih,Vbg]
theorem Yw6:∀(n:Nat) (l:List Int) (a v:Int),l.all Zcx=true->(Z6m n l a v).all Zcx=true:=by
 intro n
 induction n with
 | zero=>intro l a v h;exact h
 | succ n ih=>
  intro l a v h;refine ih _ _ _ ?_;rw[ZZk] at h ⊢;intro x hx;rcases Vcb hx with hx|rfl
  .exact h x hx
  .have h1:0<=v % 256:=Vc0 _ (by omega)
   have h2:v % 256 < 256:=Vcn _ (by omega);simp[Zcx];omega
theorem Ylu (mem:List Int):∀(n:Nat) (a:Int),Zh4 mem (n+1) a=Zh4 mem n a+256^n*atI mem (a+n):=by
 intro n
 induction n with
 | zero=>intro a;simp[Zh4]
 | succ n ih=>
  intro a;rw[Zh4,ih (a+1),Zh4];rw[Int.mul_add,<-Int.mul_assoc,show (256:Int)*256^n=256^(n+1) by rw[Int.pow_succ,Vc2],show a+1+(n:Int)=a+((n+1:Nat):Int) by omega];omega
theorem Yvz {mem:List Int} (h:mem.all Zcx=true):∀(n:Nat) (a:Int),0<=a->a+n<=(mem.length:Int)->0<=Zh4 mem n a/\Zh4 mem n a < 256^n:=by
 intro n
 induction n with
 | zero=>intro a _ _;simp[Zh4]
 | succ n ih=>
  intro a h0 h1;have h2:=ih (a+1) (by omega) (by omega);have h3:=ZZk.1 h _ (Zj5 h0 (by omega:a < (mem.length:Int)));simp only[Zcx,ZZl] at h3;simp only[Zh4];have e:(256:Int)^(n+1)=256*256^n:=by rw[Int.pow_succ,Vc2]
  rw[e];omega
def Z9q (mem:List Int) (a s:Int):Int:=Zh4 mem (Yy s).toNat a
def Z9i (mem:List Int) (a s v:Int):List Int:=Z6m (Yy s).toNat mem a v
theorem Zsg {mem:List Int} {a s:Int} (h:Zlu mem a s=true):mem.length<=512/\mem.all Zcx=true/\0 < Yy s/\0<=a/\a+Yy s<=(mem.length:Int):=by
 simp only[Zlu,Z3l,ZZg,ZZl] at h;have:=Zb1 h.2.1;exact⟨h.1.1,h.1.2,this.1,this.2.1,by omega⟩
theorem Yq0 (k:Nat) (h:k<=4):(256:Int)^k=2^(8*k)/\(256:Int)^k<=4294967296:=by
 have:k=0\/k=1\/k=2\/k=3\/k=4:=by omega
 rcases this with rfl|rfl|rfl|rfl|rfl<;>decide
theorem Ys7 {mem:List Int} {a s:Int} (h:Zlu mem a s=true):Zx2 mem a s=some (Z9q mem a s,true):=by
 obtain⟨h1,h2,h3,h4,h5⟩:=Zsg h;have hb:=Zin s;unfold Zx2 Z9q;rw[Z98 mem a s (by omega),ZZa,h,ZZi (by simp),Zh8,ZZa];have key:∀(r n k:Nat),r < n->(k:Int)+r=Yy s->Zn2 mem a s n (Zh4 mem k a) (Yy s) k=some (Zh4 mem (k+r) a,true):=by
  intro r
  induction r with
  | zero=>
   intro n k hn hk;obtain⟨n,rfl⟩:∃m',n=m'+1:=⟨n - 1,by omega⟩;show Zgq mem a s _ (Zh4 mem k a) (Yy s) k=_;unfold Zgq;rw[ZZi (by simp;omega)];rfl
  | succ r ih=>
   intro n k hn hk;obtain⟨n,rfl⟩:∃m',n=m'+1:=⟨n - 1,by omega⟩;show Zgq mem a s _ (Zh4 mem k a) (Yy s) k=_;unfold Zgq;have h6:0<=a+(k:Int):=by omega
   have h7:a+(k:Int) < (mem.length:Int):=by omega
   have h8:=ZZk.1 h2 _ (Zj5 h6 h7);simp only[Zcx,ZZl] at h8;have h9:=Yvz h2 k a h4 (by omega);have hp:=Yq0 k (by omega);have hp1:(0:Int) < 2^(8*k):=Int.pow_pos (by omega);have h10:atI mem (a+k)*2^(8*k)<=255*4294967296:=by
    rw[<-hp.1];exact Int.mul_le_mul h8.2 hp.2 (by rw[hp.1];omega) (by omega)
   rw[ZZj (by simp;omega),Ys (by omega) (by omega),Xr h6 h7,ZZa,Zft (by omega) (by omega),Y2q (by omega),ZZa,show (8:Int)*(k:Int)=((8*k:Nat):Int) by omega,Y5u (by omega) h8.1 (by omega),Y5s h9.1 (by rw[<-hp.1];exact h9.2) h8.1 (by have:=h9.2;rw[hp.1] at this;have:=hp.2;rw[hp.1] at this;omega),Wq (by omega)];have e:Zh4 mem k a+atI mem (a+k)*2^(8*k)=Zh4 mem (k+1) a:=by
    rw[Ylu,hp.1,Vc2]
   rw[e,ih n (k+1) (by omega) (by omega),show k+1+r=k+(r+1) by omega]
 have:=key (Yy s).toNat FU 0 (by have:=Kr;omega) (by omega);simpa [Zh4] using this
theorem Yut {mem:List Int} {a s:Int} (h:Zlu mem a s=true):Zyv mem a s=some (Z9q mem a s,true):=by
 obtain⟨h1,h2,h3,h4,h5⟩:=Zsg h;have hb:=Zin s;unfold Zyv Z9q;rw[Ycu mem a s (by omega),ZZa,h,ZZi (by simp),Zbl,ZZa,Xe (by omega) (by omega)];have key:∀(r n j:Nat) (v:Int),r < n->(r:Int)<=Yy s->j+r<=4->0<=v->v < 256^j->Zoe mem a s n v ((r:Int) - 1)=some (v*256^r+Zh4 mem r a,true):=by
  intro r
  induction r with
  | zero=>
   intro n j v hn hk _ _ _;obtain⟨n,rfl⟩:∃m',n=m'+1:=⟨n - 1,by omega⟩;show Zfv mem a s _ v _=_;unfold Zfv;rw[ZZi (by simp)];simp[Zh4]
  | succ r ih=>
   intro n j v hn hk hj hv hv2;obtain⟨n,rfl⟩:∃m',n=m'+1:=⟨n - 1,by omega⟩;show Zfv mem a s _ v _=_;unfold Zfv;have h6:0<=a+(r:Int):=by omega
   have h7:a+(r:Int) < (mem.length:Int):=by omega
   have h8:=ZZk.1 h2 _ (Zj5 h6 h7);simp only[Zcx,ZZl] at h8;have hp:=(Yq0 j (by omega)).2;have e1:(256:Int)^(r+1)=256^r*256:=Int.pow_succ ..;have e3:(256:Int)^(j+1)=256^j*256:=Int.pow_succ ..;have e2:(((r+1:Nat):Int) - 1)=(r:Int):=by omega
   rw[e2,ZZj (by simp),Ys (by omega) (by omega),Xr h6 h7,ZZa,Zft (by omega) (by omega),Ys (by omega) (by omega),Xe (by omega) (by omega),ih n (j+1) _ (by omega) (by omega) (by omega) (by omega) (by rw[e3];omega)];rw[Ylu,Int.add_mul,e1,Vc2 (256^r) 256,<-Int.mul_assoc,Vc2 (256^r) (atI mem (a+r))]
   congr 2
   omega
 have:=key (Yy s).toNat FU 0 0 (by have:=Kr;omega) (by omega) (by omega) (by omega) (by simp);rw[show ((Yy s).toNat:Int)=Yy s by omega] at this;simpa using this
theorem Zu0 (xs:List Int) (h:xs.length < 1048577):Xf xs=some xs:=by
 unfold Xf;rw[Qu (by simp;omega) (by simp;omega)];rfl
theorem Z4d (xs:List Int) (h:xs.length < 1048577):X8 8 [] xs=some xs:=by
 rw[Qu (by simp;omega) (by simp;omega)];rfl
theorem Ysd {mem:List Int} {a s v:Int} (h:Zlu mem a s=true) (hv:Xy v s=true):Zx6 mem a s v=some (Z9i mem a s v,true):=by
 obtain⟨h1,h2,h3,h4,h5⟩:=Zsg h;have hb:=Zin s;have hl:=Z1f s;simp only[Xy,ZZl] at hv;unfold Zx6 Zoi Z9i;rw[Zu0 mem (by omega),ZZa,Z98 mem a s (by omega),ZZa,h,ZZi (by simp),Zir,ZZa,Zh8,ZZa];have hn:Xy v s=true:=by simp[Xy,hv]
 rw[hn,ZZi (by simp)];have key:∀(r n k:Nat) (l:List Int),r < n->(k:Int)+r=Yy s->l.length=mem.length->Zo4 mem a s v n l (Yy s) k=some (Z6m r l (a+k) (v / 256^k),true):=by
  intro r
  induction r with
  | zero=>
   intro n k l hn hk _;obtain⟨n,rfl⟩:∃m',n=m'+1:=⟨n - 1,by omega⟩;show Zf2 mem a s v _ l (Yy s) k=_;unfold Zf2;rw[ZZi (by simp;omega)];rfl
  | succ r ih=>
   intro n k l hn hk hl2;obtain⟨n,rfl⟩:∃m',n=m'+1:=⟨n - 1,by omega⟩;show Zf2 mem a s v _ l (Yy s) k=_;unfold Zf2;have h6:0<=a+(k:Int):=by omega
   have h7:a+(k:Int) < (l.length:Int):=by omega
   have hp:=Yq0 k (by omega);have hp1:(0:Int) < 256^k:=Int.pow_pos (by omega);have h8:0<=v / 256^k:=Int.ediv_nonneg hv.1 (by omega);have h9:v / 256^k<=v:=Int.ediv_le_self _ hv.1;rw[ZZj (by simp;omega),Zft (by omega) (by omega),Y2q (by omega),ZZa,Ys (a:=a) (by omega) (by omega),Xr h6 h7,ZZa,Wz,ZZa,show (8:Int)*(k:Int)=((8*k:Nat):Int) by omega,Y5n (by omega) hv.1,<-hp.1,Y21 h8 (by omega),Wq (by omega),ih n (k+1) _ (by omega) (by omega) (by simp[hl2])];simp only[Z6m];rw[Int.ediv_ediv_of_nonneg (by omega),<-Int.pow_succ,show a+((k+1:Nat):Int)=a+k+1 by omega]
 have:=key (Yy s).toNat FU 0 mem (by have:=Kr;omega) (by omega) rfl;simpa using this
theorem Yuc {mem:List Int} {a s v:Int} (h:Zlu mem a s=true) (hv:Xy v s=true):Zyu mem a s v=some (Z9i mem a s v,true):=by
 obtain⟨h1,h2,h3,h4,h5⟩:=Zsg h;have hb:=Zin s;have hl:=Z1f s;unfold Zyu Zn3 Z9i;rw[Z4d mem (by omega),ZZa,Ycu mem a s (by omega),ZZa,h,ZZi (by simp),Zbp,ZZa,Zq4,ZZa,hv,ZZi (by simp)];simp only[Xy,ZZl] at hv;have key:∀(r n k:Nat) (l:List Int) (x:Int),r < n->(k:Int)+r=Yy s->l.length=mem.length->0<=x->x < 9223372036854775808->Zop mem a s v n x l k=some (Z6m r l (a+k) x,true):=by
  intro r
  induction r with
  | zero=>
   intro n k l x hn hk _ _ _;obtain⟨n,rfl⟩:∃m',n=m'+1:=⟨n - 1,by omega⟩;show Zgj mem a s v _ x l k=_;unfold Zgj;rw[Zbl,ZZa,ZZi (by simp;omega)];rfl
  | succ r ih=>
   intro n k l x hn hk hl2 hx hx2;obtain⟨n,rfl⟩:∃m',n=m'+1:=⟨n - 1,by omega⟩;show Zgj mem a s v _ x l k=_;unfold Zgj;have h6:0<=a+(k:Int):=by omega
   have h7:a+(k:Int) < (l.length:Int):=by omega
   rw[Zbl,ZZa,ZZj (by simp;omega),Ys (a:=a) (by omega) (by omega),Xr h6 h7,ZZa,Wz,ZZa,Zek hx,Ybc hx hx2 (by omega),Wq (by omega),ih n (k+1) _ _ (by omega) (by omega) (by simp[hl2]) (by omega) (by omega)];simp only[Z6m];rw[show a+((k+1:Nat):Int)=a+k+1 by omega]
 have:=key (Yy s).toNat FU 0 mem v (by have:=Kr;omega) (by omega) rfl hv.1 (by omega);simpa using this
def Zo.sm (d:Zo):Prop:=d.regs.length < 1048577/\d.fifo.length < 1048577
def Yeq (d:Zo):Bool:=decide (d.regs.length=4)&&(d.regs.all (λv=>Xy v 2)&&(Xy d.timer 2&&(decide (d.fifo.length<=4)&&d.fifo.all λv=>Xy v 2)))
theorem Ygr (d:Zo) (hs:d.sm):Zw7 d=some (Yeq d):=by
 have hf:∀xs:List Int,xs.length < 1048577->X1 xs=some (!xs.all λv=>Xy v 2):=by
  intro xs hl;unfold X1 K5;refine Z2j xs (by omega) Zve (λv=>Xy v 2) (λr hr=>?_) _ (λm i=>rfl);unfold Zve;rw[Zir];rfl
 unfold Zw7 Yeq;rw[hf _ hs.1,ZZa,hf _ hs.2,ZZa,Zir,ZZa];by_cases h1:d.regs.length=4
 .have h2:(d.regs.length:Int)=4:=by omega
  by_cases h3:d.fifo.length<=4
  .have h4:(d.fifo.length:Int)<=4:=by omega
   cases h5:(d.regs.all λv=>Xy v 2)<;>cases h6:(d.fifo.all λv=>Xy v 2)<;>cases h7:Xy d.timer 2<;>simp[h1,h2,h3,h4]
  .have h4:¬(d.fifo.length:Int)<=4:=by omega
   simp[h1,h2,h3,h4]
 .have h2:¬(d.regs.length:Int)=4:=by omega
  simp[h1,h2]
theorem Z99 (xs:List Int) (hl:xs.length < 1048577):Zps xs=some (xs.all λv=>Xy v 2):=by
 unfold Zps;have key:∀(n k:Nat),k<=xs.length->xs.length - k < n->Zlb xs n k=some ((xs.drop k).all λv=>Xy v 2):=by
  intro n
  induction n with
  | zero=>intro k _ h;omega
  | succ n ih=>
   intro k hk hm;show Zrc xs _ k=_;unfold Zrc;by_cases hc:k < xs.length
   .rw[ZZj (by simpa using hc),Xu hc,ZZa,Zbp,ZZa,Zq4,ZZa,Va4 hc,Va7]
    by_cases hq:Xy xs[k] 2=true
    .rw[ZZi (by simp[hq]),Wq (by omega),ih (k+1) (by omega) (by omega)]
     simp[hq]
    .rw[ZZj (by simp[hq])]
     simp[hq]
   .rw[ZZi (by simpa using hc),Vbb (by omega)]
    rfl
 have:=key FU 0 (Vbl _) (by have:=Kr;omega);simpa using this
theorem Yhk (d:Zo) (hs:d.sm):Zwk d=some (Yeq d):=by
 unfold Zwk Yeq;rw[Z99 _ hs.1,ZZa,Z99 _ hs.2,ZZa,Zbp,ZZa,Zq4,ZZa];by_cases h1:d.regs.length=4
 .have h2:(d.regs.length:Int)=4:=by omega
  by_cases h3:d.fifo.length<=4
  .have h4:(d.fifo.length:Int)<=4:=by omega
   cases h5:(d.regs.all λv=>Xy v 2)<;>cases h6:(d.fifo.all λv=>Xy v 2)<;>cases h7:Xy d.timer 2<;>simp[h1,h2,h3,h4]
  .have h4:¬(d.fifo.length:Int)<=4:=by omega
   cases h5:(d.regs.all λv=>Xy v 2)<;>cases h7:Xy d.timer 2<;>simp[h1,h2,h3,h4]
 .have h2:¬(d.regs.length:Int)=4:=by omega
  simp[h1,h2]
structure Z72 (d:Zo):Prop where
 regs:d.regs.length=4
 nums:∀v∈d.regs,Xy v 2=true
 timer:Xy d.timer 2=true
 len:d.fifo.length<=4
 fifo:∀v∈d.fifo,Xy v 2=true
theorem Yi0 {d:Zo}:Yeq d=true↔Z72 d:=by
 simp only[Yeq,ZZg,ZZl,ZZk];constructor
 .intro h;exact⟨h.1,h.2.1,h.2.2.1,h.2.2.2.1,h.2.2.2.2⟩
 .intro h;exact⟨h.regs,h.nums,h.timer,h.len,h.fifo⟩
theorem Z72.sm {d:Zo} (h:Z72 d):d.sm:=⟨by have:=h.regs;omega,by have:=h.len;omega⟩
theorem Ydj (d:Zo) (hs:d.sm):Zsu d=some d:=by
 unfold Zsu;rw[Zu0 _ hs.1,ZZa,Zu0 _ hs.2];rfl
theorem Ybw (d:Zo) (hs:d.sm):Zsc d=some d:=by
 unfold Zsc;rw[Z4d _ hs.1,ZZa,Z4d _ hs.2];rfl
def Zbk (d:Zo) (w:Bool) (a v:Int):Zo×Int×Bool:=
 if (w&&!Xy v 2)=true then (d,0,false) else
 if a=16 then (if w then ({d with timer:=v},v,true) else ({d with timer:=(d.timer+1) % 4294967296},d.timer,true)) else
 if a=20 then (if w then (if d.fifo.length < 4 then ({d with fifo:=d.fifo++[v]},v,true) else (d,0,false)) else (if d.fifo=[] then (d,0,false) else ({d with fifo:=d.fifo.tail},atI d.fifo 0,true))) else
 if (0<=a/\a < 16)/\a % 4=0 then (if w then ({d with regs:=d.regs.set (a / 4).toNat v},v,true) else (d,atI d.regs (a / 4),true)) else (d,0,false)
theorem num2 {v:Int} (h:Xy v 2=true):0<=v/\v < 4294967296:=by
 simpa [Xy,Zgp] using h
theorem Yyu {d:Zo} (w:Bool) (a v:Int) (h:Z72 d):Z1a d w a v=some (Zbk d w a v):=by
 have ht:=num2 h.timer;have hl:=h.len;have hr:=h.regs;unfold Z1a;rw[Ydj d h.sm,ZZa,Ygr d h.sm,ZZa,Yi0.2 h,Zir,ZZa];have hJ:Zdr d w a v d false=some (if a=16 then (if w then ({d with timer:=v},v,true) else ({d with timer:=(d.timer+1) % 4294967296},d.timer,true)) else
 if a=20 then (if w then (if d.fifo.length < 4 then ({d with fifo:=d.fifo++[v]},v,true) else (d,0,false)) else (if d.fifo=[] then (d,0,false) else ({d with fifo:=d.fifo.tail},atI d.fifo 0,true))) else
 if (0<=a/\a < 16)/\a % 4=0 then (if w then ({d with regs:=d.regs.set (a / 4).toNat v},v,true) else (d,atI d.regs (a / 4),true)) else (d,0,false)):=by
  unfold Zdr Zqm Zj4 Zka Zj6;by_cases h16:a=16
  .subst h16
   rw[Z8v,ZZa,show Zgp 2=4294967296 from rfl,Zw4 (by omega),Ys (by omega) (by omega),Zek (by omega)];cases w<;>simp
  .by_cases h20:a=20
   .subst h20
    cases w with
    | true=>
     by_cases h3:d.fifo.length < 4
     .have h4:(d.fifo.length:Int) < 4:=by omega
      rw[Qu (by simp;omega) (by simp;omega)];simp[h3,h4]
     .have h4:¬(d.fifo.length:Int) < 4:=by omega
      simp[h3,h4]
    | false=>
     by_cases h3:d.fifo=[]
     .simp[h3]
     .have h4:0 < d.fifo.length:=Vao.2 h3
      have h5:(d.fifo.length:Int) > 0:=by omega
      rw[Xr (by omega) (by omega),ZZa,Zym _ h3 (by omega),ZZa,Zu0 _ (by simp;omega)];simp[h3,h5]
   .by_cases h3:(0<=a/\a < 16)/\a % 4=0
    .obtain⟨⟨h4,h5⟩,h6⟩:=h3
     have h7:¬a≥16:=by omega
     have h8:¬a < 0:=by omega
     rw[Ybc h4 (by omega) (by omega),Xr (xs:=d.regs) (by omega) (by omega),ZZa,ZZa,Wz,Zek h4];cases w<;>simp[h16,h20,h4,h5,h6,h7,h8]
    .by_cases h4:a≥16
     .have h5:¬a < 16:=by omega
      cases w<;>simp[h16,h20,h4,h5]
     .by_cases h5:a < 0
      .have h6:¬0<=a:=by omega
       cases w<;>simp[h16,h20,h4,h5,h6]
      .have h6:a % 4≠0:=λh=>h3 ⟨by omega,h⟩
       rw[Zek (by omega)];cases w<;>simp[h16,h20,h4,h5,h6]
 unfold Zbk;cases w with
 | false=>simp only[Va5,ZZf,if_false,Vbq];exact hJ
 | true=>
  by_cases hv:Xy v 2=true
  .simp only[hv,Va5,ZZf,if_false,if_true,Vc5]
   exact hJ
  .simp[hv,Zdr]
theorem Yyb {d:Zo} (w:Bool) (a v:Int) (h:Z72 d):Z1h d w a v=some (Zbk d w a v):=by
 have ht:=num2 h.timer;have hl:=h.len;have hr:=h.regs;unfold Z1h;rw[Ybw d h.sm,ZZa,Yhk d h.sm,ZZa,Yi0.2 h,Zbp,ZZa,Zq4,ZZa];have hJ:∀_:Zam a 4=0,Zae d w a v d false=some (if a=16 then (if w then ({d with timer:=v},v,true) else ({d with timer:=(d.timer+1) % 4294967296},d.timer,true)) else
 if a=20 then (if w then (if d.fifo.length < 4 then ({d with fifo:=d.fifo++[v]},v,true) else (d,0,false)) else (if d.fifo=[] then (d,0,false) else ({d with fifo:=d.fifo.tail},atI d.fifo 0,true))) else
 if (0<=a/\a < 16)/\a % 4=0 then (if w then ({d with regs:=d.regs.set (a / 4).toNat v},v,true) else (d,atI d.regs (a / 4),true)) else (d,0,false)):=by
  intro Z3z;unfold Zae Zqq Zqc Zj1 Zj2;rw[Xk,ZZa,ZZa];by_cases h16:a=16
  .subst h16
   rw[Zbp,ZZa,show Zgp 2=4294967296 from rfl,Zw4 (by omega),Ys (by omega) (by omega),Zek (by omega)];cases w<;>simp
  .by_cases h20:a=20
   .subst h20
    cases w with
    | true=>
     by_cases h3:d.fifo.length < 4
     .have h4:(d.fifo.length:Int) < 4:=by omega
      rw[Qu (by simp;omega) (by simp;omega)];simp[h3,h4]
     .have h4:¬(d.fifo.length:Int) < 4:=by omega
      simp[h3,h4]
    | false=>
     by_cases h3:d.fifo=[]
     .simp[h3]
     .have h4:0 < d.fifo.length:=Vao.2 h3
      have h5:(d.fifo.length:Int) > 0:=by omega
      rw[Xr (xs:=d.fifo) (by omega) (by omega),ZZa,Zym _ h3 (by omega),ZZa];simp[h3,h5]
   .by_cases h3:0<=a/\a < 16
    .rw[Zek h3.1] at Z3z
     have h4:0<=a/\a<=12:=by omega
     rw[Ybc h3.1 (by omega) (by omega),Xr (xs:=d.regs) (by omega) (by omega),ZZa,ZZa,Wz];cases w<;>simp[h16,h20,h3,h4,Z3z]
    .have h4:¬(0<=a/\a<=12):=by omega
     cases w<;>simp[h16,h20,h3,h4]
 unfold Zbk;by_cases Z3z:Zam a 4=0
 .rw[ZZi (by simp),ZZi (by simp[Z3z])]
  cases w with
  | false=>simp only[ZZf,if_false,Vbq];exact hJ Z3z
  | true=>
   by_cases hv:Xy v 2=true
   .simp only[hv,Va5,ZZf,if_false,if_true,Vc5]
    exact hJ Z3z
   .simp[hv,Zae]
 .have h16:a≠16:=λh=>Z3z (by subst h;rfl)
  have h20:a≠20:=λh=>Z3z (by subst h;rfl);have h3:¬((0<=a/\a < 16)/\a % 4=0):=λh=>Z3z (by rw[Zek h.1.1];exact h.2);rw[ZZi (by simp),ZZj (by simp[Z3z])];simp only[h16,h20,h3,if_false,Zae,if_true];split<;>rfl
theorem Y6w {xs:List Int} {p:Int->Prop} (h:∀x∈xs,p x) {k:Nat} {v:Int} (hv:p v):∀x∈xs.set k v,p x:=by
 intro x hx;rcases Vcb hx with hx|rfl
 .exact h x hx
 .exact hv
theorem Y3h {d:Zo} {w:Bool} {a v:Int} (h:Z72 d):Z72 (Zbk d w a v).1/\((Zbk d w a v).2.2=true->Xy (Zbk d w a v).2.1 2=true):=by
 have ht:=num2 h.timer;have hl:=h.len;unfold Zbk;split
 .exact⟨h,by simp⟩
 .rename_i hw
  have hv:w=true->Xy v 2=true:=by
   intro h1;rw[h1] at hw;simpa using hw
  split
  .split
   .rename_i h1
    exact⟨⟨h.regs,h.nums,hv h1,h.len,h.fifo⟩,λ_=>hv h1⟩
   .refine⟨⟨h.regs,h.nums,?_,h.len,h.fifo⟩,λ_=>h.timer⟩
    have:Zgp 2=4294967296:=rfl;simp only[Xy,this,ZZl];omega
  .split
   .split
    .rename_i h1
     split
     .rename_i h2
      refine⟨⟨h.regs,h.nums,h.timer,by simp;omega,λx hx=>?_⟩,λ_=>hv h1⟩;rcases Var.1 hx with hx|hx
      .exact h.fifo x hx
      .rw[List.mem_singleton.1 hx];exact hv h1
     .exact⟨h,by simp⟩
    .split
     .exact⟨h,by simp⟩
     .rename_i h2
      have h4:0 < d.fifo.length:=Vao.2 h2;refine⟨⟨h.regs,h.nums,h.timer,by simp;omega,λx hx=>h.fifo x (List.mem_of_mem_tail hx)⟩,λ_=>h.fifo _ (Zj5 (by omega) (by omega))⟩
   .split
    .rename_i h3
     split
     .rename_i h1
      exact⟨⟨by simp[h.regs],Y6w h.nums (hv h1),h.timer,h.len,h.fifo⟩,λ_=>hv h1⟩
     .refine⟨h,λ_=>h.nums _ (Zj5 (by omega) (by have:=h.regs;omega))⟩
    .exact⟨h,by simp⟩
def Y0 (a:Int):Int:=if a < 0\/224<=a then 0 else if a < 128 then 1 else if a < 192 then 2 else 3
theorem Zzt (a:Int):Zpr a=some (Y0 a):=by
 unfold Zpr Zlq Y0;by_cases h1:a < 0
 .simp[h1]
 .by_cases h2:a≥224
  .simp[h1,h2]
  .by_cases h3:a < 128
   .simp[h1,h2,h3]
   .by_cases h4:a < 192<;>simp[h1,h2,h3,h4]
theorem Z9e (a:Int):Zvm a=some (Y0 a):=by
 rw[<-Zzt];rfl
def Zj.sm (m:Zj):Prop:=m.mem.length < 1048577/\m.dev.sm
def Z0m (m:Zj):Bool:=decide (m.mem.length=192)&&(m.mem.all Zcx&&Yeq m.dev)
structure Zet (m:Zj):Prop where
 len:m.mem.length=192
 bytes:m.mem.all Zcx=true
 dev:Z72 m.dev
theorem Zw2 {m:Zj}:Z0m m=true↔Zet m:=by
 simp only[Z0m,ZZg,ZZl,Yi0];constructor
 .intro h;exact⟨h.1,h.2.1,h.2.2⟩
 .intro h;exact⟨h.len,h.bytes,h.dev⟩
theorem Zet.sm {m:Zj} (h:Zet m):m.sm:=⟨by have:=h.len;omega,h.dev.sm⟩
theorem Z85 (m:Zj) (hs:m.sm):Zgz m=some (Z0m m):=by
 unfold Zgz Z0m;rw[Z98 m.mem 0 0 hs.1,ZZa,Ygr m.dev hs.2,ZZa];by_cases h1:m.mem.length=192
 .have h2:(m.mem.length:Int)=192:=by omega
  have h3:Zlu m.mem 0 0=m.mem.all Zcx:=by
   simp[Zlu,Z3l,h1,Wd,Yy]
  rw[h3];cases h4:m.mem.all Zcx<;>simp[h1,h2]
 .have h2:¬(m.mem.length:Int)=192:=by omega
  simp[h1,h2]
theorem Z95 (m:Zj) (hs:m.sm):Zpx m=some (Z0m m):=by
 unfold Zpx Z0m;rw[Z82 m.mem hs.1,ZZa,Yhk m.dev hs.2,ZZa];by_cases h1:m.mem.length=192
 .have h2:(m.mem.length:Int)=192:=by omega
  have h3:Z3l m.mem=m.mem.all Zcx:=by
   simp[Z3l,h1]
  rw[h3];cases h4:m.mem.all Zcx<;>simp[h1,h2]
 .have h2:¬(m.mem.length:Int)=192:=by omega
  simp[h1,h2]
theorem Zxn (m:Zj) (hs:m.sm):Zh5 m=some m:=by
 unfold Zh5;rw[Zu0 _ hs.1,ZZa,Ydj _ hs.2];rfl
theorem Ydh (m:Zj) (hs:m.sm):Zto m=some m:=by
 unfold Zto;rw[Z4d _ hs.1,ZZa,Ybw _ hs.2];rfl
def Zey (m:Zj) (w:Bool) (a s v:Int):Zj×Int×Int:=
 if (Wd a s&&!(w&&!Xy v s))=true then
  (if Y0 a=1\/Y0 a=2 then (if w then ({m with mem:=Z9i m.mem a s v},v,0) else (m,Z9q m.mem a s,0))
  else if Y0 a=3/\s=2 then (if (Zbk m.dev w (a - 192) v).2.2=true then ({m with dev:=(Zbk m.dev w (a - 192) v).1},(Zbk m.dev w (a - 192) v).2.1,0) else (m,0,1))
  else (m,0,1))
 else (m,0,1)
theorem Y2g {a:Int} (h:Y0 a=1\/Y0 a=2):0<=a/\a < 192:=by
 unfold Y0 at h
 repeat' split at h
 all_goals omega
theorem Yky {a:Int} (h:Y0 a=3):192<=a/\a < 224:=by
 unfold Y0 at h
 repeat' split at h
 all_goals omega
theorem Yel {m:Zj} {a s:Int} (h:Zet m) (ha:Wd a s=true) (hs:Y0 a=1\/Y0 a=2):Zlu m.mem a s=true:=by
 have h1:=Y2g hs;have h2:=h.len;have h3:=Zb1 ha;have h4:a+Yy s<=192:=by
  have h5:=(Zro s).1 h3.1;have h6:s=0\/s=1\/s=2:=by omega
  have h7:=h3.2.2;rcases h6 with rfl|rfl|rfl<;>simp[Yy] at h7 ⊢<;>omega
 simp only[Zlu,Z3l,ZZg,ZZl];exact⟨⟨by omega,h.bytes⟩,ha,by omega⟩
theorem Yo9 {m:Zj} (w:Bool) (a s v:Int) (h:Zet m):Zv4 m w a s v=some (Zey m w a s v):=by
 unfold Zv4 Zey;rw[Zxn m h.sm,ZZa,Z85 m h.sm,ZZa,Zw2.2 h,Ztb,ZZa,Zir,ZZa,ZZi (by simp)];by_cases ha:Wd a s=true
 .rw[ha,ZZi (by simp)]
  have hJ:(w=true->Xy v s=true)->K1 m w a s v m false=some (if Y0 a=1\/Y0 a=2 then (if w then ({m with mem:=Z9i m.mem a s v},v,0) else (m,Z9q m.mem a s,0))
  else if Y0 a=3/\s=2 then (if (Zbk m.dev w (a - 192) v).2.2=true then ({m with dev:=(Zbk m.dev w (a - 192) v).1},(Zbk m.dev w (a - 192) v).2.1,0) else (m,0,1))
  else (m,0,1)):=by
   intro hw;unfold K1;rw[ZZi (by simp),Zzt,ZZa];unfold Zk3 Zku Zdl;rw[Zxn m h.sm,ZZa];by_cases h1:Y0 a=1\/Y0 a=2
   .have h3:¬Y0 a=3:=by omega
    have hf:=Yel h ha h1;cases w with
    | true=>
     rw[Ysd hf (hw rfl),ZZa];rcases h1 with h1|h1<;>simp[h1,h3]
    | false=>
     rw[Ys7 hf,ZZa];rcases h1 with h1|h1<;>simp[h1,h3]
   .have h2:¬Y0 a=1:=λh=>h1 (.inl h)
    have h4:¬Y0 a=2:=λh=>h1 (.inr h);by_cases h3:Y0 a=3
    .have h5:=Yky h3
     rw[Xe (by omega) (by omega),Yyu w _ v h.dev,ZZa];by_cases h6:s=2
     .by_cases h7:(Zbk m.dev w (a - 192) v).2.2=true<;>simp[h3,h6,h7]
     .simp[h3,h6]
    .simp[h2,h3,h4]
  cases w with
  | false=>
   simp only[ZZf,if_false,Vbq,Vbi,Vci,if_true];exact hJ (by simp)
  | true=>
   by_cases hv:Xy v s=true
   .simp only[hv,Va5,if_true,Vc5,Vbi,Vci]
    exact hJ (λ_=>hv)
   .simp[hv,K1]
 .simp[ha,K1]
theorem Z8s {m:Zj} (w:Bool) (a s v:Int) (h:Zet m):Zp0 m w a s v=some (Zey m w a s v):=by
 unfold Zp0 Zey;rw[Ydh m h.sm,ZZa,Z95 m h.sm,ZZa,Zw2.2 h,Ztu,ZZa,Zbp,ZZa,Zq4,ZZa,ZZi (by simp)];by_cases ha:Wd a s=true
 .rw[ha,ZZi (by simp)]
  have hJ:(w=true->Xy v s=true)->Ky m w a s v m false=some (if Y0 a=1\/Y0 a=2 then (if w then ({m with mem:=Z9i m.mem a s v},v,0) else (m,Z9q m.mem a s,0))
  else if Y0 a=3/\s=2 then (if (Zbk m.dev w (a - 192) v).2.2=true then ({m with dev:=(Zbk m.dev w (a - 192) v).1},(Zbk m.dev w (a - 192) v).2.1,0) else (m,0,1))
  else (m,0,1)):=by
   intro hw;unfold Ky;rw[ZZi (by simp),Z9e,ZZa];unfold Zk1 Zk5;by_cases h1:Y0 a=1\/Y0 a=2
   .have h3:¬Y0 a=3:=by omega
    have hf:=Yel h ha h1;cases w with
    | true=>
     rw[Yuc hf (hw rfl),ZZa];rcases h1 with h1|h1<;>simp[h1,h3]
    | false=>
     rw[Yut hf,ZZa];rcases h1 with h1|h1<;>simp[h1,h3]
   .have h2:¬Y0 a=1:=λh=>h1 (.inl h)
    have h4:¬Y0 a=2:=λh=>h1 (.inr h);by_cases h3:Y0 a=3
    .have h5:=Yky h3
     rw[Xe (by omega) (by omega),Yyb w _ v h.dev,ZZa];by_cases h6:s=2
     .by_cases h7:(Zbk m.dev w (a - 192) v).2.2=true<;>simp[h3,h6,h7]
     .simp[h3,h6]
    .simp[h2,h3,h4]
  cases w with
  | false=>
   simp only[ZZf,if_false,Vbq,Vbi,Vci,if_true];exact hJ (by simp)
  | true=>
   by_cases hv:Xy v s=true
   .simp only[hv,Va5,if_true,Vc5,Vbi,Vci]
    exact hJ (λ_=>hv)
   .simp[hv,Ky]
 .simp[ha,Ky]
theorem Y0p (s:Int) (h:0 < Yy s):(256:Int)^(Yy s).toNat=Zgp s:=by
 have h1:=(Zro s).1 h;have:s=0\/s=1\/s=2:=by omega
 rcases this with rfl|rfl|rfl<;>decide
theorem Yfz {m:Zj} {w:Bool} {a s v:Int} (h:Zet m) (hs:Wd a s=true):Zet (Zey m w a s v).1/\Xy (Zey m w a s v).2.1 s=true/\((Zey m w a s v).2.2=0\/(Zey m w a s v).2.2=1):=by
 have hp:=Zb1 hs;have hz:Xy 0 s=true:=by
  have h1:=(Zro s).1 hp.1;have:s=0\/s=1\/s=2:=by omega
  rcases this with rfl|rfl|rfl<;>decide
 unfold Zey;split
 .rename_i h1
  split
  .rename_i h2
   have hf:=Yel h hs h2;split
   .rename_i hw
    have hv:Xy v s=true:=by
     rw[hw] at h1;simpa [hs] using h1
    exact⟨⟨by simp only[Z9i,Y4p,h.len],Yw6 _ _ _ _ h.bytes,h.dev⟩,hv,.inl rfl⟩
   .obtain⟨h3,h4,h5,h6,h7⟩:=Zsg hf
    have h8:=Yvz h4 (Yy s).toNat a h6 (by omega);rw[Y0p s h5] at h8;exact⟨h,by simp only[Xy,Z9q];exact decide_eq_true h8,.inl rfl⟩
  .split
   .rename_i h3
    split
    .rename_i h4
     have h5:=Y3h (w:=w) (a:=a - 192) (v:=v) h.dev;have h6:=h5.2 h4;rw[h3.2];exact⟨⟨h.len,h.bytes,h5.1⟩,h6,.inl rfl⟩
    .exact⟨h,hz,.inr rfl⟩
   .exact⟨h,hz,.inr rfl⟩
 .exact⟨h,hz,.inr rfl⟩
def Y3 (p:Option Bool) (P:Prop):Prop:=∃r,p=some r/\(r=true↔P)
theorem Y3.of {b:Bool} {P:Prop} (h:b=true↔P):Y3 (some b) P:=⟨b,rfl,h⟩
theorem Y3.iff {p:Option Bool} {P Q:Prop} (h:Y3 p P) (e:P↔Q):Y3 p Q:=by
 obtain⟨r,h1,h2⟩:=h;exact⟨r,h1,h2.trans e⟩
theorem Y3.yes {P:Prop} (h:P):Y3 (some true) P:=⟨true,rfl,by simp[h]⟩
theorem Y3.no {P:Prop} (h:¬P):Y3 (some false) P:=⟨false,rfl,by simp[h]⟩
theorem Y3.eq {p q:Option Bool} {P:Prop} (h:Y3 p P) (h':Y3 q P):∃r,p=some r/\q=some r/\(r=true↔P):=by
 obtain⟨r,h1,h2⟩:=h;obtain⟨r',h3,h4⟩:=h';have:r=r':=by
  cases r<;>cases r'<;>simp_all
 subst this;exact⟨r,h1,h3,h2⟩
theorem Y3.bnd {x:Option Bool} {P Q:Prop} {f:Bool->Option Bool} (h:Y3 x P) (h1:P->Y3 (f true) Q) (h2:¬P->Y3 (f false) Q):Y3 (x.bind f) Q:=by
 obtain⟨r,rfl,hr⟩:=h;rw[ZZa];cases r with
 | true=>exact h1 (hr.1 rfl)
 | false=>exact h2 (λhp=>by simpa using hr.2 hp)
theorem Y3.and {x y:Option Bool} {P Q:Prop} (h:Y3 x P) (h1:P->Y3 y Q):Y3 (x.bind λr=>if r=true then y else some false) (P/\Q):=by
 refine h.bnd (λhp=>?_) (λhp=>?_)
 .rw[ZZj rfl];exact (h1 hp).iff ⟨λq=>⟨hp,q⟩,λq=>q.2⟩
 .rw[ZZi (by simp)];exact .no λq=>hp q.1
section
variable {σ:Type}
theorem Zyo {n:Nat} (hn:n < 4611686018427387904) {P:Nat->Prop} {Q:Prop} (st:Nat->σ) {B:(σ->Int->Option Bool)->σ->Int->Option Bool} {L:Nat->σ->Int->Option Bool} (hL:∀m s i,L (m+1) s i=B (L m) s i)
  (hs:∀k,k < n->(P k/\∀κ,B κ (st k) (k:Int)=κ (st (k+1)) (Zq (k:Int) 1))\/(¬P k/\∀κ,B κ (st k) (k:Int)=some false))
  (hf:(∀k,k < n->P k)->∃r,(∀κ,B κ (st n) (n:Int)=some r)/\(r=true↔Q)):Y3 (L FU (st 0) 0) ((∀k,k < n->P k)/\Q):=by
 have key:∀(m k:Nat),k<=n->n - k < m->(∀j,j < k->P j)->Y3 (L m (st k) (k:Int)) ((∀j,j < n->P j)/\Q):=by
  intro m
  induction m with
  | zero=>intro k _ h;omega
  | succ m ih=>
   intro k hk hm hp;rw[hL];by_cases hc:k < n
   .rcases hs k hc with⟨h1,h2⟩|⟨h1,h2⟩
    .rw[h2,Wq (by omega)]
     refine ih (k+1) (by omega) (by omega) λj hj=>?_;by_cases hjk:j=k
     .subst hjk;exact h1
     .exact hp j (by omega)
    .rw[h2];exact .no λq=>h1 (q.1 k hc)
   .have:k=n:=by omega
    subst this;obtain⟨r,hr,hq⟩:=hf hp;rw[hr];exact .of ⟨λh=>⟨hp,hq.1 h⟩,λh=>hq.2 h.2⟩
 have:=key FU 0 (Vbl _) (by have:=Kr;omega) (λj hj=>by omega);simpa using this
theorem Zp6 {n:Nat} (hn:n < 4611686018427387904) {P:Nat->Prop} {Q:Prop} {B:(Int->Option Bool)->Int->Option Bool} {L:Nat->Int->Option Bool} (hL:∀m i,L (m+1) i=B (L m) i)
  (hs:∀k,k < n->(P k/\∀κ,B κ (k:Int)=κ (Zq (k:Int) 1))\/(¬P k/\∀κ,B κ (k:Int)=some false))
  (hf:(∀k,k < n->P k)->∃r,(∀κ,B κ (n:Int)=some r)/\(r=true↔Q)):Y3 (L FU 0) ((∀k,k < n->P k)/\Q):=
 Zyo (σ:=Unit) hn (λ_=>()) (B:=λκ _ i=>B (κ ()) i) (L:=λm _ i=>L m i) (λm _ i=>hL m i) (λk hk=>(hs k hk).imp (λh=>⟨h.1,λκ=>h.2 _⟩) λh=>⟨h.1,λκ=>h.2 _⟩)
  (λh=>by obtain⟨r,h1,h2⟩:=hf h;exact⟨r,λκ=>h1 _,h2⟩)
end
instance:Inhabited Zn:=⟨Zn.z0⟩
instance:Inhabited Zh:=⟨Zh.z0⟩
def Ym (m:Zb):Bool:=decide (m.queue≠[])&&((atI m.queue 0).lock&&!m.broken)
def K4 (b:Za) (i:Int):Int:=(if b.addr.live=true/\b.addr.who=i then 1 else 0)+(if b.data_.live=true/\b.data_.who=i then 1 else 0)
structure Zxp (c:Zl) (b:Za) (i:Int):Prop where
 right:Yv (atI b.m i)
 tries:(atI b.m i).tries<=c.maxRetry
 bucket:Y8 (atI b.buckets i) (atI c.masters i)=true
 split:0<=atI b.splits i/\atI b.splits i<=c.maxSplit
def Zah (b:Za) (x:Zh):Prop:=Zv b.conf x.who=true/\(1<=x.by_/\x.by_<=3)/\atI b.splits x.who=0
def K2 (b:Za):Prop:=if b.addr.live=true then b.addr.beat=(atI b.m b.addr.who).beat - 1/\b.addr.left=0/\b.addr.resp=0/\b.addr.second=false else b.addr=Zh.z0
def Kj (b:Za):Prop:=if b.data_.live=true then
  (b.data_.beat=(atI b.m b.data_.who).done/\(0<=b.data_.left/\b.data_.left<=b.conf.maxWait+2)/\(0<=b.data_.resp/\b.data_.resp<=3))/\
  (b.data_.resp=2->(atI b.m b.data_.who).tries < b.conf.maxRetry)/\(b.data_.resp=3->(atI b.m b.data_.who).parted=false/\b.data_.who≠b.holder)/\
  (b.data_.second=true->b.data_.left=0/\b.data_.resp≠0/\b.addr.live=false)
 else b.data_=Zh.z0
def Zjo (b:Za):Prop:=(∀i,Zv b.conf i=true->(atI b.m i).beat > 0->Ym (atI b.m i)=true->b.holder=i)/\
 (if b.holder=-1 then b.held=0 else Zv b.conf b.holder=true/\Ym (atI b.m b.holder)=true/\atI b.splits b.holder=0/\(0<=b.held/\b.held<=b.conf.lockMost))
def Z6a (c:Zl) (now:Int) (d:Zn):Prop:=(0<=d.cycle/\d.cycle < now)/\Zv c d.who=true/\Wd d.addr d.size=true/\d.addr < 512/\Xy d.value d.size=true/\(d.resp=0\/d.resp=1)
def Z6n (b:Za):Prop:=(∀d∈b.log,Z6a b.conf b.now d)/\b.log.Pairwise λx y=>x.cycle < y.cycle
structure Zm2 (b:Za):Prop where
 conf:Wa b.conf=true
 now:0<=b.now/\b.now<=4000
 ml:b.m.length=b.conf.masters.length
 bl:b.buckets.length=b.conf.masters.length
 sl:b.splits.length=b.conf.masters.length
 mst:∀i,Zv b.conf i=true->Zxp b.conf b i
 arb:Za4 b.arb b.conf=true
 last:b.last=-1\/Zv b.conf b.last=true
 model:Zet b.model
 picks:0<=b.picks/\b.picks<=b.now
 alive:b.addr.live=true->Zah b b.addr
 dlive:b.data_.live=true->Zah b b.data_
 fly:∀i,Zv b.conf i=true->(atI b.m i).beat - (atI b.m i).done=K4 b i
 addr:K2 b
 data:Kj b
 held:Zjo b
 log:Z6n b
structure Za.sm (b:Za):Prop where
 conf:b.conf.masters.length < 1048577
 ml:b.m.length < 1048577
 mst:∀x∈b.m,x.sm
 bl:b.buckets.length < 1048577
 sl:b.splits.length < 1048577
 model:b.model.sm
 log:b.log.length < 1048577
theorem mas {c:Zl} {k:Nat} (h:k < c.masters.length):Zv c (k:Int)=true:=by simp[Zv,h]
theorem Yv5 {c:Zl} {i:Int} (h:Zv c i=true):∃k:Nat,i=(k:Int)/\k < c.masters.length:=by
 simp only[Zv,ZZl] at h;exact⟨i.toNat,by omega,by omega⟩
theorem Zy6 {c:Zl} {P:Int->Prop}:(∀i,Zv c i=true->P i)↔∀k:Nat,k < c.masters.length->P (k:Int):=by
 constructor
 .intro h k hk;exact h _ (mas hk)
 .intro h i hi
  obtain⟨k,rfl,hk⟩:=Yv5 hi;exact h k hk
theorem Wf {b:Za} (hl:b.m.length=b.conf.masters.length) {i:Int} (h:Zv b.conf i=true):idx b.m i=some (atI b.m i):=by
 simp only[Zv,ZZl] at h;exact Xr h.1 (by omega)
theorem Ya8 {b:Za} (hl:b.buckets.length=b.conf.masters.length) {i:Int} (h:Zv b.conf i=true):idx b.buckets i=some (atI b.buckets i):=by
 simp only[Zv,ZZl] at h;exact Xr h.1 (by omega)
theorem Zqo {b:Za} (hl:b.splits.length=b.conf.masters.length) {i:Int} (h:Zv b.conf i=true):idx b.splits i=some (atI b.splits i):=by
 simp only[Zv,ZZl] at h;exact Xr h.1 (by omega)
theorem Z2o {c:Zl} {i:Int} (h:Zv c i=true):idx c.masters i=some (atI c.masters i):=by
 simp only[Zv,ZZl] at h;exact Xr h.1 h.2
theorem mem_m {b:Za} (hl:b.m.length=b.conf.masters.length) {i:Int} (h:Zv b.conf i=true):atI b.m i∈b.m:=by
 simp only[Zv,ZZl] at h;exact Zj5 h.1 (by omega)
theorem Yfu (x:Zh):((x.live == false)&&(decide (x.who=0)&&(decide (x.beat=0)&&((x.first == false)&&(decide (x.by_=0)&&(decide (x.left=0)&&(decide (x.resp=0)&&((x.second == false)&&true))))))))=true↔x=Zh.z0:=by
 obtain⟨a1,a2,a3,a4,a5,a6,a7,a8⟩:=x;simp only[ZZg,beq_iff_eq,ZZl,Zh.mk.injEq,and_true]
theorem Z6d (m:Zb):Zrr m=some (Ym m):=by
 unfold Zrr Ym;by_cases h:m.queue=[]
 .simp[h]
 .have h1:0 < m.queue.length:=Vao.2 h
  rw[Xr (by omega) (by omega),ZZa,ZZj (by simp;omega)];cases h2:(atI m.queue 0).lock<;>simp[h]
theorem Zwi (b:Za) (hs:b.sm) (hc:Wa b.conf=true):Y3 (Zgd b) (b.m.length=b.conf.masters.length/\b.buckets.length=b.conf.masters.length/\b.splits.length=b.conf.masters.length/\∀i,Zv b.conf i=true->Zxp b.conf b i):=by
 unfold Zgd;by_cases h1:b.m.length=b.conf.masters.length
 .rw[ZZi (by simp;omega)]
  by_cases h2:b.buckets.length=b.conf.masters.length
  .rw[ZZi (by simp;omega)]
   unfold Qs;by_cases h3:b.splits.length=b.conf.masters.length
   .rw[ZZi (by simp;omega)]
    have:=Zar hc;refine (Zp6 (n:=b.m.length) (P:=λk=>Zxp b.conf b (k:Int)) (Q:=True) (by omega) (B:=Zb6 b) (λm i=>rfl) (λk hk=>?_) λ_=>⟨true,λκ=>?_,by simp⟩).iff ?_
    .have hm:=mas (c:=b.conf) (k:=k) (by omega)
     have hms:=hs.mst _ (mem_m h1 hm);unfold Zb6;simp only[ZZj (show decide ((k:Int) < (b.m.length:Int))=true by simpa using hk),Wf h1 hm,Ya8 h2 hm,Zqo h3 hm,Z2o hm,ZZa,Zby _ hms,Z7e,X3];by_cases e1:Zwu (atI b.m (k:Int))=true
     .by_cases e2:(atI b.m (k:Int)).tries<=b.conf.maxRetry
      .by_cases e3:Y8 (atI b.buckets (k:Int)) (atI b.conf.masters (k:Int))=true
       .by_cases e4:0<=atI b.splits (k:Int)/\atI b.splits (k:Int)<=b.conf.maxSplit
        .refine .inl ⟨⟨K9.1 e1,e2,e3,e4⟩,λκ=>?_⟩
         have e5:¬(atI b.m (k:Int)).tries > b.conf.maxRetry:=by omega
         simp[e1,e3,e4,e5]
        .refine .inr ⟨λh=>e4 h.split,λκ=>?_⟩
         simp[e1,e3,e4]
       .refine .inr ⟨λh=>e3 h.bucket,λκ=>?_⟩
        simp[e1,e3]
      .refine .inr ⟨λh=>e2 h.tries,λκ=>?_⟩
       have e5:(atI b.m (k:Int)).tries > b.conf.maxRetry:=by omega
       simp[e1,e5]
     .refine .inr ⟨λh=>e1 (K9.2 h.right),λκ=>?_⟩
      simp[e1]
    .unfold Zb6
     rw[ZZi (by simp)]
    .rw[and_true,h1,<-Zy6]
     exact⟨λh=>⟨rfl,h2,h3,h⟩,λh=>h.2.2.2⟩
   .rw[ZZj (by simp;omega)]
    exact .no λh=>h3 h.2.2.1
  .rw[ZZj (by simp;omega)]
   unfold Qs;rw[ZZj rfl];exact .no λh=>h2 h.2.1
 .rw[ZZj (by simp;omega)]
  unfold Qs;rw[ZZj rfl];exact .no λh=>h1 h.1
theorem Y13 (b:Za):Zrw b=some ([b.addr,b.data_].filter (·.live)):=by
 unfold Zrw;have:Wj [b.addr,b.data_]=some ([b.addr,b.data_].filter (·.live)):=by
  unfold Wj Q0;exact Yu9 [b.addr,b.data_] Zh.z0 (by simp) Zoo (·.live) (λa _=>rfl) _ (λm i=>rfl) _ (λm v i j=>rfl)
 rw[this];rfl
def Zfp:List Zh->List Int->List Int
 | [],l=>l
 | x::xs,l=>Zfp xs (l.set x.who.toNat (atI l x.who+1))
theorem Y2h:∀(xs:List Zh) (x:Zh) (l:List Int),Zfp (xs++[x]) l=(Zfp xs l).set x.who.toNat (atI (Zfp xs l) x.who+1):=by
 intro xs
 induction xs with
 | nil=>intro x l;rfl
 | cons y xs ih=>intro x l;exact ih x _
theorem Yqa:∀(xs:List Zh) (l:List Int),(Zfp xs l).length=l.length:=by
 intro xs
 induction xs with
 | nil=>intro l;rfl
 | cons y xs ih=>intro l;rw[Zfp,ih,Vbg]
theorem Y5p:∀(xs:List Zh) (l:List Int) (i:Int),0<=i->i < (l.length:Int)->(∀x∈xs,0<=x.who/\x.who < (l.length:Int))->atI (Zfp xs l) i=atI l i+(xs.countP λx=>decide (x.who=i):Nat):=by
 intro xs
 induction xs with
 | nil=>intro l i _ _ _;simp[Zfp]
 | cons y xs ih=>
  intro l i h0 h1 hx;have hy:=hx y (Vaa ..);rw[Zfp,ih _ i h0 (by simpa using h1) (λx hxm=>by simpa using hx x (Vac _ hxm)),List.countP_cons];by_cases h:y.who=i
  .subst h
   rw[Zpv _ hy.1 hy.2];simp;omega
  .rw[Ylm _ hy.1 h0 h]
   simp[h]
theorem Y0q (b:Za) (i:Int):(([b.addr,b.data_].filter (·.live)).countP λx=>decide (x.who=i):Nat)=K4 b i:=by
 unfold K4;by_cases h1:b.addr.live=true<;>by_cases h2:b.data_.live=true<;>by_cases h3:b.addr.who=i<;>by_cases h4:b.data_.who=i<;>simp[h1,h2,h3,h4]
theorem Y3y {b:Za} {P:Zh->Prop}:(∀k (h:k < ([b.addr,b.data_].filter (·.live)).length),P (([b.addr,b.data_].filter (·.live))[k]))↔(b.addr.live=true->P b.addr)/\(b.data_.live=true->P b.data_):=by
 have:(∀k (h:k < ([b.addr,b.data_].filter (·.live)).length),P (([b.addr,b.data_].filter (·.live))[k]))↔∀x∈[b.addr,b.data_].filter (·.live),P x:=by
  constructor
  .intro h x hx
   obtain⟨k,hk,rfl⟩:=Vbs hx;exact h k hk
  .intro h k hk;exact h _ (Vas hk)
 rw[this];constructor
 .intro h;exact⟨λh1=>h _ (by simp[h1]),λh1=>h _ (by simp[h1])⟩
 .intro h x hx
  simp only[Vb5,Vau,List.not_mem_nil,or_false] at hx;rcases hx with⟨rfl|rfl,hx⟩
  .exact h.1 hx
  .exact h.2 hx
theorem Yf4 (b:Za):Y3 (Qn b false) (b.data_.second=true->b.data_.left=0/\b.data_.resp≠0/\b.addr.live=false):=by
 unfold Qn;rw[ZZi (by simp)];by_cases h1:b.data_.second=true
 .rw[ZZi (by simp[h1])]
  by_cases h2:b.data_.left=0
  .rw[ZZj (by simpa using h2)]
   by_cases h3:b.data_.resp=0
   .rw[ZZi (by simpa using h3)];exact .no λh=>(h h1).2.1 h3
   .rw[ZZj (by simpa using h3)]
    exact .of (by simp[h1,h2,h3])
  .rw[ZZi (by simpa using h2)];exact .no λh=>h2 (h h1).1
 .rw[ZZj (by simpa using h1)];exact .yes λh=>absurd h h1
theorem Qk {c:Zl} (hc:Wa c=true):(0<=c.maxRetry/\c.maxRetry<=3)/\(0<=c.maxWait/\c.maxWait<=3)/\(1<=c.lockMost/\c.lockMost<=40)/\(1<=c.maxSplit/\c.maxSplit<=12):=by
 simp only[Wa,ZZg,ZZl] at hc;have h3:=hc.1.2;have h4:Zis c≠0:=λh=>h3 (by unfold Zag;rw[ZZj h]);have h5:1<=c.lockMost/\c.lockMost<=40:=by
  unfold Zag at h3;rw[ZZi h4] at h3;by_cases h6:1<=c.lockMost/\c.lockMost<=40
  .exact h6
  .rw[ZZi h6] at h3;exact absurd rfl h3
 have h6:(0<=c.maxRetry/\c.maxRetry<=3)/\(0<=c.maxWait/\c.maxWait<=3):=by
  unfold Zis at h4;by_cases h7:(0<=c.maxRetry/\c.maxRetry<=3)/\(0<=c.maxWait/\c.maxWait<=3)
  .exact h7
  .rw[ZZi h7] at h4;exact absurd rfl h4
 exact⟨h6.1,h6.2,h5,hc.1.1.2⟩
theorem Yxs (b:Za) (hc:Wa b.conf=true) (h1:b.m.length=b.conf.masters.length) (hl:b.data_.live=true->Zah b b.data_):Y3 (Xh b false) (Kj b):=by
 have hw:=(Qk hc).2.1;unfold Xh Kj;rw[ZZi (by simp)];by_cases hd:b.data_.live=true
 .obtain⟨hm,hby,hsp⟩:=hl hd
  rw[ZZi (by simp[hd]),Wf h1 hm,ZZa,ZZj hd,X3,ZZa,X3,ZZa,Ys (by omega) (by omega)];have hJ6:∀v,Y3 (Zbr b (atI b.m b.data_.who) v) (v=false/\(b.data_.resp=3->(atI b.m b.data_.who).parted=false/\b.data_.who≠b.holder)/\(b.data_.second=true->b.data_.left=0/\b.data_.resp≠0/\b.addr.live=false)):=by
   intro v;unfold Zbr;cases v with
   | true=>rw[ZZj rfl];exact .no λh=>by simp at h
   | false=>
    rw[ZZi (by simp)];by_cases h3:b.data_.resp=3
    .rw[ZZj (by simpa using h3)]
     by_cases h4:(atI b.m b.data_.who).parted=true
     .rw[ZZj h4]
      unfold Qn;rw[ZZj rfl];exact .no λh=>by have:=(h.2.1 h3).1;rw[h4] at this;cases this
     .rw[ZZi h4]
      by_cases h5:b.data_.who=b.holder
      .rw[decide_eq_true h5]
       unfold Qn;rw[ZZj rfl];exact .no λh=>(h.2.1 h3).2 h5
      .rw[decide_eq_false h5]
       exact (Yf4 b).iff ⟨λh=>⟨rfl,λ_=>⟨by simpa using h4,h5⟩,h⟩,λh=>h.2.2⟩
    .rw[ZZi (by simpa using h3)]
     exact (Yf4 b).iff ⟨λh=>⟨rfl,λh6=>absurd h6 h3,h⟩,λh=>h.2.2⟩
  have hJ5:∀v,Y3 (Jv b (atI b.m b.data_.who) v) (v=false/\(b.data_.resp=2->(atI b.m b.data_.who).tries < b.conf.maxRetry)/\(b.data_.resp=3->(atI b.m b.data_.who).parted=false/\b.data_.who≠b.holder)/\(b.data_.second=true->b.data_.left=0/\b.data_.resp≠0/\b.addr.live=false)):=by
   intro v;unfold Jv;cases v with
   | true=>rw[ZZj rfl];exact .no λh=>by simp at h
   | false=>
    rw[ZZi (by simp)];by_cases h3:b.data_.resp=2
    .rw[ZZj (by simpa using h3)]
     refine (hJ6 _).iff ?_;simp[h3]
    .rw[ZZi (by simpa using h3)]
     refine (hJ6 _).iff ?_;simp[h3]
  by_cases h3:b.data_.beat=(atI b.m b.data_.who).done
  .rw[ZZi (by simpa using h3)]
   by_cases h4:0<=b.data_.left/\b.data_.left<=b.conf.maxWait+2
   .rw[ZZi (by simpa using h4)]
    refine (hJ5 _).iff ?_;simp[h3,h4]
   .rw[ZZj (by rw[decide_eq_false h4];rfl)]
    exact (hJ5 _).iff ⟨λh=>by simp at h,λh=>absurd h.1.2.1 h4⟩
  .rw[ZZj (by simpa using h3)]
   exact (hJ5 _).iff ⟨λh=>by simp at h,λh=>absurd h.1.1 h3⟩
 .rw[ZZj (by simpa using hd),ZZi hd]
  exact .of (Yfu _)
theorem Y0f {l:List Int} {N:Int} (hN:0<=N) (h:∀v∈l,0<=v/\v<=N) (i:Int):0<=atI l i/\atI l i<=N:=by
 unfold atI;rw[Vaw];cases hg:l[i.toNat]? with
 | none=>exact⟨Vd8 _,hN⟩
 | some v=>exact h v (Vaf hg)
theorem Y3q:∀(xs:List Zh) (l:List Int) (N:Int),0<=N->(∀v∈l,0<=v/\v<=N)->∀v∈Zfp xs l,0<=v/\v<=N+xs.length:=by
 intro xs
 induction xs with
 | nil=>intro l N _ h v hv;have:=h v hv;simpa using this
 | cons x xs ih=>
  intro l N hN h v hv;have h2:=Y0f hN h x.who;have:=ih (l.set x.who.toNat (atI l x.who+1)) (N+1) (by omega) (λy hy=>by
   rcases Vcb hy with hy|rfl
   .have:=h y hy;omega
   .omega) v hv
  simp only[Vag];omega
theorem Yew (b:Za) (hc:Wa b.conf=true) (h1:b.m.length=b.conf.masters.length) (h3:b.splits.length=b.conf.masters.length) (hr:∀i,Zv b.conf i=true->Yv (atI b.m i)):
  Y3 (Zcp b) (((b.addr.live=true->Zah b b.addr)/\(b.data_.live=true->Zah b b.data_))/\(∀i,Zv b.conf i=true->(atI b.m i).beat - (atI b.m i).done=K4 b i)/\K2 b/\Kj b):=by
 have Yp:=Zar hc;have Yb:=Zcg hc;unfold Zcp;rw[Zwq (by omega) (by omega),ZZa,Y13,ZZa];generalize hLs:[b.addr,b.data_].filter (·.live)=ls;have hls:ls.length<=2:=by
  rw[<-hLs];exact Vb6 (Vbt ..) (by simp)
 have Y46:∀x:Zh,Zv b.conf x.who=true->0<=x.who/\x.who < (b.m.length:Int):=λx h=>by
  simp only[Zv,ZZl] at h;omega
 have hL2:(∀x∈ls,Zv b.conf x.who=true)->((b.addr.live=true->Zah b b.addr)/\(b.data_.live=true->Zah b b.data_))->Y3 (Zbo b FU (Zfp ls (List.replicate b.m.length 0)) 0) ((∀i,Zv b.conf i=true->(atI b.m i).beat - (atI b.m i).done=K4 b i)/\K2 b/\Kj b):=by
  intro hml Y47;have hfa:∀i,Zv b.conf i=true->atI (Zfp ls (List.replicate b.m.length 0)) i=K4 b i:=by
   intro i hi;simp only[Zv,ZZl] at hi;rw[Y5p _ _ i hi.1 (by simp;omega) (λx hx=>by have:=Y46 x (hml x hx);simpa using this),<-Y0q,hLs];have:atI (List.replicate b.m.length (0:Int)) i=0:=by
    unfold atI;rw[Vaw,Vd4];split<;>rfl
   rw[this];simp
  have hQ:∃r,(∀κ,Wm b κ (Zfp ls (List.replicate b.m.length 0)) (b.m.length:Int)=some r)/\(r=true↔K2 b/\Kj b):=by
   obtain⟨r,h4,h5⟩:=Yxs b hc h1 Y47.2;have Yrp:Xh b true=some false:=by unfold Xh;rw[ZZj rfl]
   by_cases ha:b.addr.live=true
   .obtain⟨hm,hby,hsp⟩:=Y47.1 ha
    have hrb:=Jd (hr _ hm);by_cases e1:b.addr.beat=(atI b.m b.addr.who).beat - 1/\b.addr.left=0/\b.addr.resp=0/\b.addr.second=false
    .refine⟨r,λκ=>?_,?_⟩
     .unfold Wm
      obtain⟨f1,f2,f3,f4⟩:=e1;rw[ZZi (by simp),ZZj ha,Wf h1 hm,ZZa,Xe (by omega) (by omega)];simp only[f1,f2,f3,f4,ha,ne_eq,not_true_eq_false,decide_false,ZZf,if_false,Va5,h4]
     .rw[h5];unfold K2;rw[ZZj ha];exact⟨λh=>⟨e1,h⟩,λh=>h.2⟩
    .refine⟨false,λκ=>?_,?_⟩
     .unfold Wm
      rw[ZZi (by simp),ZZj ha,Wf h1 hm,ZZa,Xe (by omega) (by omega)];by_cases f1:b.addr.beat=(atI b.m b.addr.who).beat - 1
      .by_cases f2:b.addr.left=0
       .by_cases f3:b.addr.resp=0
        .have f4:b.addr.second=true:=by
          cases hs:b.addr.second with
          | true=>rfl
          | false=>exact absurd ⟨f1,f2,f3,hs⟩ e1
         rw[ZZi (by simpa using f1),ZZi (by simpa using f2),ZZi (by simpa using f3),ZZj f4,Yrp]
        .rw[ZZi (by simpa using f1),ZZi (by simpa using f2),ZZj (by simpa using f3),Yrp]
       .rw[ZZi (by simpa using f1),ZZj (by simpa using f2),Yrp]
      .rw[ZZj (by simpa using f1),Yrp]
     .unfold K2;rw[ZZj ha];simp[e1]
   .by_cases e1:b.addr=Zh.z0
    .refine⟨r,λκ=>?_,?_⟩
     .unfold Wm
      rw[ZZi (by simp),ZZi ha,ZZj (by simpa using ha),(Yfu b.addr).2 e1];exact h4
     .rw[h5];unfold K2;rw[ZZi ha];exact⟨λh=>⟨e1,h⟩,λh=>h.2⟩
    .refine⟨false,λκ=>?_,?_⟩
     .unfold Wm
      rw[ZZi (by simp),ZZi ha,ZZj (by simpa using ha)];have:((b.addr.live == false)&&(decide (b.addr.who=0)&&(decide (b.addr.beat=0)&&((b.addr.first == false)&&(decide (b.addr.by_=0)&&(decide (b.addr.left=0)&&(decide (b.addr.resp=0)&&((b.addr.second == false)&&true))))))))=false:=by
       rw[<-Bool.not_eq_true,Yfu];exact e1
      rw[this,Vbi,Yrp]
     .unfold K2;rw[ZZi ha];simp[e1]
  obtain⟨r,Zw,Z6⟩:=hQ;refine (Zyo (σ:=List Int) (n:=b.m.length) (by omega) (P:=λk=>(atI b.m (k:Int)).beat - (atI b.m (k:Int)).done=K4 b (k:Int)) (Q:=K2 b/\Kj b) (λ_=>Zfp ls (List.replicate b.m.length 0)) (B:=Wm b) (L:=Zbo b) (λm s i=>rfl) (λk hk=>?_) λ_=>⟨r,Zw,Z6⟩).iff ?_
  .have hm:=mas (c:=b.conf) (k:=k) (by omega)
   have hrb:=Jd (hr _ hm);have Ke:=Yqa ls (List.replicate b.m.length 0);rw[Vdg] at Ke;have hi:idx (Zfp ls (List.replicate b.m.length 0)) (k:Int)=some (K4 b (k:Int)):=by
    rw[Xr (by omega) (by omega),hfa _ hm]
   by_cases e1:(atI b.m (k:Int)).beat - (atI b.m (k:Int)).done=K4 b (k:Int)
   .refine .inl ⟨e1,λκ=>?_⟩
    unfold Wm;rw[ZZj (by simpa using hk),Wf h1 hm,ZZa,hi,ZZa,Xe (by omega) (by omega),ZZi (by simpa using e1)]
   .refine .inr ⟨e1,λκ=>?_⟩
    unfold Wm;rw[ZZj (by simpa using hk),Wf h1 hm,ZZa,hi,ZZa,Xe (by omega) (by omega),ZZj (by simpa using e1)]
  .rw[h1,<-Zy6 (P:=λi=>(atI b.m i).beat - (atI b.m i).done=K4 b i)]
 have hlv:(∀k,k < ls.length->Zah b (atI ls (k:Int)))↔((b.addr.live=true->Zah b b.addr)/\(b.data_.live=true->Zah b b.data_)):=by
  rw[<-Y3y (P:=Zah b),hLs];constructor
  .intro h k hk;have:=h k hk;rwa [Qj hk] at this
  .intro h k hk;rw[Qj hk];exact h k hk
 have hstep:∀k,k < ls.length->(Zah b (atI ls (k:Int))/\∀κ,Wn b κ (Zfp (ls.take k) (List.replicate b.m.length 0)) ls (ls.length:Int) (k:Int)=κ (Zfp (ls.take (k+1)) (List.replicate b.m.length 0)) ls (ls.length:Int) (Zq (k:Int) 1))\/(¬Zah b (atI ls (k:Int))/\∀κ,Wn b κ (Zfp (ls.take k) (List.replicate b.m.length 0)) ls (ls.length:Int) (k:Int)=some false):=by
  intro k hk;have Ke:=Yqa (ls.take k) (List.replicate b.m.length 0);rw[Vdg] at Ke;have hJ3:∀κ x,Ko b κ x (Zfp (ls.take k) (List.replicate b.m.length 0)) ls (ls.length:Int) (k:Int) true=some false:=λκ x=>by unfold Ko;rw[ZZj rfl]
  by_cases e1:Zv b.conf (atI ls (k:Int)).who=true
  .by_cases e2:1<=(atI ls (k:Int)).by_/\(atI ls (k:Int)).by_<=3
   .by_cases e3:atI b.splits (atI ls (k:Int)).who=0
    .refine .inl ⟨⟨e1,e2,e3⟩,λκ=>?_⟩
     unfold Wn;have hw:=Y46 _ e1;rw[ZZj (by simpa using hk),Xr (by omega) (by omega),ZZa,Jm _ _ Yb,ZZa,e1,ZZi (by simp),X3,ZZa,ZZi (by simpa using e2),Zqo h3 e1,ZZa,e3];unfold Ko;have hb:=Y0f (by omega) (Y3q (ls.take k) (List.replicate b.m.length 0) 0 (by omega) (λv hv=>by rw[List.eq_of_mem_replicate hv];omega)) (atI ls (k:Int)).who;have hk2:(ls.take k).length<=2:=by rw[Vbv];omega
     rw[ZZi (by simp),Xr hw.1 (by omega),ZZa,Ys (a:=atI (Zfp (ls.take k) (List.replicate b.m.length 0)) (atI ls (k:Int)).who) (by omega) (by omega),Wz,ZZa,List.take_succ_eq_append_getElem hk,Y2h,Qj hk]
    .refine .inr ⟨λh=>e3 h.2.2,λκ=>?_⟩
     unfold Wn;rw[ZZj (by simpa using hk),Xr (by omega) (by omega),ZZa,Jm _ _ Yb,ZZa,e1,ZZi (by simp),X3,ZZa,ZZi (by simpa using e2),Zqo h3 e1,ZZa,decide_eq_true e3,hJ3]
   .refine .inr ⟨λh=>e2 h.2.1,λκ=>?_⟩
    unfold Wn;rw[ZZj (by simpa using hk),Xr (by omega) (by omega),ZZa,Jm _ _ Yb,ZZa,e1,ZZi (by simp),X3,ZZa,ZZj (by rw[decide_eq_false e2];rfl),hJ3]
  .refine .inr ⟨λh=>e1 h.1,λκ=>?_⟩
   unfold Wn;rw[ZZj (by simpa using hk),Xr (by omega) (by omega),ZZa,Jm _ _ Yb,ZZa,ZZj (by simpa using e1),hJ3]
 have hl1:=Zyo (σ:=List Int×List Zh×Int) (n:=ls.length) (by omega) (P:=λk=>Zah b (atI ls (k:Int)))
  (Q:=(∀i,Zv b.conf i=true->(atI b.m i).beat - (atI b.m i).done=K4 b i)/\K2 b/\Kj b)
  (λk=>(Zfp (ls.take k) (List.replicate b.m.length 0),ls,(ls.length:Int))) (B:=λκ s i=>Wn b (λv l n i=>κ (v,l,n) i) s.1 s.2.1 s.2.2 i) (L:=λm s i=>Zd4 b m s.1 s.2.1 s.2.2 i) (λm s i=>rfl)
  (λk hk=>(hstep k hk).imp (λh=>⟨h.1,λκ=>h.2 _⟩) λh=>⟨h.1,λκ=>h.2 _⟩)
 have hml:(∀k,k < ls.length->Zah b (atI ls (k:Int)))->∀x∈ls,Zv b.conf x.who=true:=by
  intro h x hx;obtain⟨k,hk,rfl⟩:=Vbs hx;have:=(h k hk).1
  rwa [Qj hk] at this
 have hl2:=hl1 λQ4=>by
  obtain⟨r,Zw,Z6⟩:=hL2 (hml Q4) (hlv.1 Q4);refine⟨r,λκ=>?_,Z6⟩;unfold Wn;rw[ZZi (by simp),Vby];exact Zw
 simp only[List.take_zero,Zfp] at hl2;exact hl2.iff (by rw[hlv])
theorem Yki (b:Za) (hc:Wa b.conf=true) (h1:b.m.length=b.conf.masters.length) (h3:b.splits.length=b.conf.masters.length):Y3 (Zej b) (Zjo b):=by
 have Yp:=Zar hc;have Yb:=Zcg hc;unfold Zej Zjo;refine (Zp6 (n:=b.m.length) (by omega) (P:=λk=>(atI b.m (k:Int)).beat > 0->Ym (atI b.m (k:Int))=true->b.holder=(k:Int))
  (Q:=if b.holder=-1 then b.held=0 else Zv b.conf b.holder=true/\Ym (atI b.m b.holder)=true/\atI b.splits b.holder=0/\(0<=b.held/\b.held<=b.conf.lockMost))
  (B:=Zfg b) (λm i=>rfl) (λk hk=>?_) λ_=>?_).iff ?_
 .have hm:=mas (c:=b.conf) (k:=k) (by omega)
  unfold Zfg;simp only[ZZj (show decide ((k:Int) < (b.m.length:Int))=true by simpa using hk),Wf h1 hm,ZZa,Z6d];by_cases e1:(atI b.m (k:Int)).beat > 0
  .by_cases e2:Ym (atI b.m (k:Int))=true
   .by_cases e3:b.holder=(k:Int)
    .exact .inl ⟨λ_ _=>e3,λκ=>by simp[e1,e2,e3]⟩
    .exact .inr ⟨λh=>e3 (h e1 e2),λκ=>by simp[e1,e2,e3]⟩
   .exact .inl ⟨λ_ h=>absurd h e2,λκ=>by simp[e1,e2]⟩
  .exact .inl ⟨λh=>absurd h e1,λκ=>by simp[e1]⟩
 .unfold Zfg
  simp only[Int.lt_irrefl,decide_false,ZZf,if_false];by_cases e1:b.holder=-1
  .exact⟨decide (b.held=0),λκ=>by simp[e1],by simp[e1]⟩
  .simp only[e1,decide_false,ZZf,if_false,Jm _ _ Yb,ZZa]
   by_cases e2:Zv b.conf b.holder=true
   .simp only[e2,if_true,Wf h1 e2,Zqo h3 e2,ZZa,Z6d,X3]
    by_cases e3:Ym (atI b.m b.holder)=true
    .by_cases e4:atI b.splits b.holder=0
     .exact⟨decide (0<=b.held/\b.held<=b.conf.lockMost),λκ=>by simp only[e3,e4,decide_true,if_true],by simp[e3,e4]⟩
     .exact⟨false,λκ=>by simp[e3,e4],by simp[e4]⟩
    .exact⟨false,λκ=>by simp[e3],by simp[e3]⟩
   .exact⟨false,λκ=>by simp[e2],by simp[e2]⟩
 .rw[h1,<-Zy6 (P:=λi=>(atI b.m i).beat > 0->Ym (atI b.m i)=true->b.holder=i)]
def Zdi (l:List Zn):Nat->Int
 | 0=>-1
 | k+1=>(atI l (k:Int)).cycle
theorem Ypn {l:List Zn}:(l.Pairwise λx y=>x.cycle < y.cycle)↔∀k,k+1 < l.length->(atI l (k:Int)).cycle < (atI l ((k+1:Nat):Int)).cycle:=by
 constructor
 .intro h k hk
  rw[Qj (by omega),Qj hk];exact Vdy.1 h k (k+1) (by omega) hk (by omega)
 .intro h
  rw[Vdy];have key:∀(d i:Nat) (hj:i+d+1 < l.length),(l[i]'(by omega)).cycle < (l[i+d+1]'hj).cycle:=by
   intro d
   induction d with
   | zero=>
    intro i hj;have:=h i hj;rw[Qj (by omega),Qj hj] at this;exact this
   | succ d ih=>
    intro i hj;have h4:=ih i (by omega);have h5:=h (i+d+1) (by omega);rw[Qj (by omega),Qj (by omega)] at h5;exact Int.lt_trans h4 h5
  intro i j hi hj hij;have:=key (j - i - 1) i (by omega);have e:i+(j - i - 1)+1=j:=by omega
  simp only[e] at this;exact this
theorem Yve {b:Za}:Z6n b↔∀k,k < b.log.length->Z6a b.conf b.now (atI b.log (k:Int))/\Zdi b.log k < (atI b.log (k:Int)).cycle:=by
 unfold Z6n;constructor
 .intro h k hk
  have h1:=h.1 _ (Zj5 (xs:=b.log) (i:=(k:Int)) (by omega) (by omega));refine⟨h1,?_⟩;cases k with
  | zero=>have:=h1.1.1;simp only[Zdi];omega
  | succ k=>exact Ypn.1 h.2 k hk
 .intro h
  refine⟨λd hd=>?_,Ypn.2 λk hk=>?_⟩
  .obtain⟨k,hk,rfl⟩:=Vbs hd
   have:=(h k hk).1
   rwa [Qj hk] at this
  .exact (h (k+1) hk).2
def doneQ (c:Zl) (now:Int) (d:Zn):Prop:=d.cycle < now/\Zv c d.who=true/\Wd d.addr d.size=true/\d.addr < 512/\Xy d.value d.size=true/\(d.resp=0\/d.resp=1)
theorem Y25 {b:Za}:Z6n b↔∀k,k < b.log.length->doneQ b.conf b.now (atI b.log (k:Int))/\Zdi b.log k < (atI b.log (k:Int)).cycle:=by
 rw[Yve];constructor
 .intro h k hk
  have:=h k hk;exact⟨⟨this.1.1.2,this.1.2⟩,this.2⟩
 .intro h
  have h0:∀k,k<=b.log.length->-1<=Zdi b.log k:=by
   intro k
   induction k with
   | zero=>intro _;simp[Zdi]
   | succ k ih=>
    intro hk;have h1:=ih (by omega);have h2:=(h k (by omega)).2;simp only[Zdi];omega
  intro k hk;have h1:=h k hk;have h2:=h0 k (by omega);exact⟨⟨⟨by omega,h1.1.1⟩,h1.1.2⟩,h1.2⟩
theorem Yed (b:Za) (hc:Wa b.conf=true) (hl:b.log.length < 1048577) (hn:0<=b.now/\b.now<=4000):Y3 (Zcr b) (Z6n b):=by
 have Yb:=Zcg hc;unfold Zcr;have:=Zyo (σ:=Int) (n:=b.log.length) (by omega) (P:=λk=>doneQ b.conf b.now (atI b.log (k:Int))/\Zdi b.log k < (atI b.log (k:Int)).cycle) (Q:=True)
  (Zdi b.log) (B:=Zdn b) (L:=Zd5 b) (λm s i=>rfl) (λk hk=>?_) λ_=>⟨true,λκ=>?_,by simp⟩
 .exact this.iff (by rw[and_true,Y25])
 .have e0:Zdi b.log (k+1)=(atI b.log (k:Int)).cycle:=rfl
  rw[e0];unfold Zdn;simp only[ZZj (show decide ((k:Int) < (b.log.length:Int))=true by simpa using hk),Xr (xs:=b.log) (i:=(k:Int)) (by omega) (by omega),ZZa,Jm _ _ Yb,Ztb,Zir];generalize atI b.log (k:Int)=d;by_cases e1:Zdi b.log k < d.cycle
  .have e1':¬d.cycle<=Zdi b.log k:=by omega
   by_cases e2:d.cycle < b.now
   .have e2':¬d.cycle≥b.now:=by omega
    by_cases e3:Zv b.conf d.who=true
    .by_cases e4:Wd d.addr d.size=true
     .by_cases e5:d.addr < 512
      .have e5':¬d.addr≥512:=by omega
       by_cases e6:Xy d.value d.size=true
       .by_cases e7:d.resp=0
        .exact .inl ⟨⟨⟨e2,e3,e4,e5,e6,.inl e7⟩,e1⟩,λκ=>by simp[e1',e2',e3,e4,e5',e6,e7]⟩
        .by_cases e8:d.resp=1
         .exact .inl ⟨⟨⟨e2,e3,e4,e5,e6,.inr e8⟩,e1⟩,λκ=>by simp[e1',e2',e3,e4,e5',e6,e8]⟩
         .exact .inr ⟨λh=>by have:=h.1.2.2.2.2.2;omega,λκ=>by simp[e1',e2',e3,e4,e5',e6,e7,e8]⟩
       .exact .inr ⟨λh=>e6 h.1.2.2.2.2.1,λκ=>by simp[e1',e2',e3,e4,e5',e6]⟩
      .have e5':d.addr≥512:=by omega
       exact .inr ⟨λh=>e5 h.1.2.2.2.1,λκ=>by simp[e1',e2',e3,e4,e5']⟩
     .exact .inr ⟨λh=>e4 h.1.2.2.1,λκ=>by simp[e1',e2',e3,e4]⟩
    .exact .inr ⟨λh=>e3 h.1.2.1,λκ=>by simp[e1',e2',e3]⟩
   .have e2':d.cycle≥b.now:=by omega
    exact .inr ⟨λh=>e2 h.1.1,λκ=>by simp[e1',e2']⟩
  .have e1':d.cycle<=Zdi b.log k:=by omega
   exact .inr ⟨λh=>e1 h.2,λκ=>by simp[e1']⟩
 .unfold Zdn
  rw[ZZi (by simp)]
theorem Yms (b:Za) (hs:b.sm):Y3 (Zrj b) (Zm2 b):=by
 unfold Zrj;rw[Z3q _ hs.conf,ZZa];by_cases hc:Wa b.conf=true
 .rw[ZZj hc,X3,ZZa]
  by_cases hn:0<=b.now/\b.now<=4000
  .rw[ZZj (decide_eq_true hn)]
   have Y48:b.m.length=b.conf.masters.length->b.buckets.length=b.conf.masters.length->b.splits.length=b.conf.masters.length->(∀i,Zv b.conf i=true->Zxp b.conf b i)->
     Y3 ((Zgz b.model).bind λr133=>if r133=true then (Yu b.picks 0 b.now).bind λr140=>if r140=true then (Zcp b).bind λr143=>if r143=true then (Zej b).bind λr146=>if r146=true then (Zcr b).bind λr149=>some r149 else some false else some false else some false else some false)
      (Zet b.model/\(0<=b.picks/\b.picks<=b.now)/\(((b.addr.live=true->Zah b b.addr)/\(b.data_.live=true->Zah b b.data_))/\(∀i,Zv b.conf i=true->(atI b.m i).beat - (atI b.m i).done=K4 b i)/\K2 b/\Kj b)/\Zjo b/\Z6n b):=by
    intro h1 h2 h3 hm;rw[Z85 _ hs.model];refine Y3.and (Y3.of Zw2) λ_=>?_;rw[X3];refine Y3.and (Y3.of (decide_eq_true_iff)) λ_=>?_;refine Y3.and (Yew b hc h1 h3 λi hi=>(hm i hi).right) λ_=>?_;refine Y3.and (Yki b hc h1 h3) λ_=>?_;obtain⟨r,h4,h5⟩:=Yed b hc hs.log hn;rw[h4];exact .of h5
   have hw:Y3 (Znr b.arb b.conf) (Za4 b.arb b.conf=true):=by rw[Z56 _ _ hs.conf];exact .of Iff.rfl
   by_cases hla:b.last=-1
   .simp only[hla,decide_true,if_true]
    refine (Y3.and (Zwi b hs hc) λhm=>Y3.and hw λ_=>Y48 hm.1 hm.2.1 hm.2.2.1 hm.2.2.2).iff ⟨λh=>?_,λh=>?_⟩
    .obtain⟨⟨h1,h2,h3,h4⟩,h5,h6,h7,⟨⟨h8,h9⟩,h10,h11,h12⟩,h13,h14⟩:=h
     exact⟨hc,hn,h1,h2,h3,h4,h5,.inl hla,h6,h7,h8,h9,h10,h11,h12,h13,h14⟩
    .exact⟨⟨h.ml,h.bl,h.sl,h.mst⟩,h.arb,h.model,h.picks,⟨⟨h.alive,h.dlive⟩,h.fly,h.addr,h.data⟩,h.held,h.log⟩
   .have e:decide (b.last=-1)=false:=decide_eq_false hla
    simp only[e,ZZf,if_false];have hi:Y3 (Jf b.conf b.last) (Zv b.conf b.last=true):=by rw[Jm _ _ hs.conf];exact .of Iff.rfl
    refine (Y3.and (Zwi b hs hc) λhm=>Y3.and hw λ_=>Y3.and hi λ_=>Y48 hm.1 hm.2.1 hm.2.2.1 hm.2.2.2).iff ⟨λh=>?_,λh=>?_⟩
    .obtain⟨⟨h1,h2,h3,h4⟩,h5,hx,h6,h7,⟨⟨h8,h9⟩,h10,h11,h12⟩,h13,h14⟩:=h
     exact⟨hc,hn,h1,h2,h3,h4,h5,.inr hx,h6,h7,h8,h9,h10,h11,h12,h13,h14⟩
    .exact⟨⟨h.ml,h.bl,h.sl,h.mst⟩,h.arb,h.last.resolve_left hla,h.model,h.picks,⟨⟨h.alive,h.dlive⟩,h.fly,h.addr,h.data⟩,h.held,h.log⟩
  .rw[ZZi (by simpa using hn)]
   exact .no λh=>hn h.now
 .rw[ZZi hc]
  exact .no λh=>hc h.conf
theorem Y2d (b:Za) (i:Int):Zvf b i=some (K4 b i):=by
 unfold Zvf Zl3 Zls K4;by_cases h1:b.addr.live=true<;>by_cases h2:b.data_.live=true<;>by_cases h3:b.addr.who=i<;>by_cases h4:b.data_.who=i<;>simp[h1,h2,h3,h4]<;>rfl
theorem Ym3 (n:Int):∃w,Zst n=some w/\((!(w.toList == ByteArray.empty.toList))=true↔(0<=n/\n<=3)):=by
 unfold Zst;rw[Xk,ZZa];by_cases h:0<=n/\n<=3
 .have:n=0\/n=1\/n=2\/n=3:=by omega
  rcases this with rfl|rfl|rfl|rfl<;>exact⟨_,rfl,by rw[Yln,Yln];decide⟩
 .rw[ZZj (by rw[decide_eq_false h];rfl)]
  exact⟨_,rfl,by simp[h]⟩
theorem Zj3 {b:Za} (h1:b.m.length=b.conf.masters.length) (Yb:b.conf.masters.length < 1048577) (i:Int):Z5 i 0 (Y6 (b.m.length:Int) 1)=some (Zv b.conf i):=by
 rw[Xk,h1,Z4l i Yb]
theorem Ykg (b:Za) (hs:b.sm) (hc:Wa b.conf=true) (h1:b.m.length=b.conf.masters.length) (h3:b.splits.length=b.conf.masters.length) (hm:∀i,Zv b.conf i=true->Zxp b.conf b i):
  Y3 (Zcw b b.addr false) ((b.addr.live=true->Zah b b.addr)/\K2 b):=by
 have Yb:=Zcg hc;have hJ1:Q5 b b.addr false true=some false:=by unfold Q5;rw[ZZj rfl]
 unfold Zcw K2;by_cases ha:b.addr.live=true
 .rw[ZZi (by simp[ha]),ZZj ha,Zj3 h1 Yb,ZZa,Xk,ZZa]
  by_cases e1:Zv b.conf b.addr.who=true
  .rw[e1,ZZi (by simp)]
   by_cases e2:1<=b.addr.by_/\b.addr.by_<=3
   .rw[ZZi (by simpa using e2),Zqo h3 e1,ZZa]
    have hsp:=(hm _ e1).split;by_cases e3:atI b.splits b.addr.who=0
    .rw[decide_eq_false (by omega)]
     have hrb:=Jd (hm _ e1).right;unfold Q5;rw[ZZi (by simp),Wf h1 e1,ZZa,ZZj (by simp),Xe (by omega) (by omega)];by_cases f1:b.addr.beat=(atI b.m b.addr.who).beat - 1
     .by_cases f2:b.addr.left=0
      .by_cases f3:b.addr.resp=0
       .rw[ZZj (by simpa using f1),ZZj (by simpa using f2),ZZj (by simpa using f3)]
        refine .of ⟨λh=>⟨λ_=>⟨e1,e2,e3⟩,f1,f2,f3,by simpa using h⟩,λh=>by simpa using h.2.2.2.2⟩
       .rw[ZZj (by simpa using f1),ZZj (by simpa using f2),ZZi (by simpa using f3)]
        exact .no λh=>f3 h.2.2.2.1
      .rw[ZZj (by simpa using f1),ZZi (by simpa using f2)]
       exact .no λh=>f2 h.2.2.1
     .rw[ZZi (by simpa using f1)]
      exact .no λh=>f1 h.2.1
    .rw[decide_eq_true (by omega),hJ1]
     exact .no λh=>e3 (h.1 ha).2.2
   .rw[ZZj (by rw[decide_eq_false e2];rfl),hJ1]
    exact .no λh=>e2 (h.1 ha).2.1
  .rw[ZZj (by simpa using e1),hJ1]
   exact .no λh=>e1 (h.1 ha).1
 .rw[ZZj (by simpa using ha),ZZi ha]
  exact (Y3.of (Yfu _)).iff ⟨λh=>⟨λh2=>absurd h2 ha,h⟩,λh=>h.2⟩
theorem Yi4 (b:Za) (hs:b.sm) (hc:Wa b.conf=true) (h1:b.m.length=b.conf.masters.length) (h3:b.splits.length=b.conf.masters.length) (hm:∀i,Zv b.conf i=true->Zxp b.conf b i):
  Y3 (Zcw b b.data_ true) ((b.data_.live=true->Zah b b.data_)/\Kj b):=by
 have Yb:=Zcg hc;have hw:=(Qk hc).2.1;have hJ1:Q5 b b.data_ true true=some false:=by unfold Q5;rw[ZZj rfl]
 unfold Zcw Kj;by_cases ha:b.data_.live=true
 .rw[ZZi (by simp[ha]),ZZj ha,Zj3 h1 Yb,ZZa,Xk,ZZa]
  by_cases e1:Zv b.conf b.data_.who=true
  .rw[e1,ZZi (by simp)]
   by_cases e2:1<=b.data_.by_/\b.data_.by_<=3
   .rw[ZZi (by simpa using e2),Zqo h3 e1,ZZa]
    have hsp:=(hm _ e1).split;by_cases e3:atI b.splits b.data_.who=0
    .rw[decide_eq_false (by omega)]
     have hrb:=Jd (hm _ e1).right;have hJ2:Y3 (Yj b b.data_ true (atI b.m b.data_.who) false) ((b.data_.beat=(atI b.m b.data_.who).done/\(0<=b.data_.left/\b.data_.left<=b.conf.maxWait+2)/\(0<=b.data_.resp/\b.data_.resp<=3))/\(b.data_.second=true->b.data_.left=0/\b.data_.resp≠0)):=by
      unfold Yj;obtain⟨w,hw1,hw2⟩:=Ym3 b.data_.resp;rw[ZZi (by simp),Xk,ZZa,hw1,ZZa,Ys (by omega) (by omega)];by_cases f1:b.data_.beat=(atI b.m b.data_.who).done
      .rw[ZZj (by simpa using f1)]
       by_cases f2:0<=b.data_.left/\b.data_.left<=b.conf.maxWait+2
       .rw[ZZj (by simpa using f2)]
        by_cases f3:0<=b.data_.resp/\b.data_.resp<=3
        .rw[ZZj (hw2.2 f3)]
         by_cases f4:b.data_.second=true
         .rw[ZZi (by simp[f4])]
          by_cases f5:b.data_.resp=0
          .rw[ZZi (by simpa using f5)]
           exact .no λh=>(h.2 f4).2 f5
          .rw[ZZj (by simpa using f5)]
           refine .of ⟨λh=>⟨⟨f1,f2,f3⟩,λ_=>⟨by simpa using h,f5⟩⟩,λh=>by simpa using (h.2 f4).1⟩
         .rw[ZZj (by simpa using f4)]
          exact .yes ⟨⟨f1,f2,f3⟩,λh=>absurd h f4⟩
        .rw[ZZi (λh=>f3 (hw2.1 h))]
         exact .no λh=>f3 h.1.2.2
       .rw[ZZi (by rw[decide_eq_false f2];simp)]
        exact .no λh=>f2 h.1.2.1
      .rw[ZZi (by simpa using f1)]
       exact .no λh=>f1 h.1.1
     have Yzs:Yj b b.data_ true (atI b.m b.data_.who) true=some false:=by unfold Yj;rw[ZZj rfl]
     have hS:Y3 (if b.data_.second=true then Yj b b.data_ true (atI b.m b.data_.who) b.addr.live else Yj b b.data_ true (atI b.m b.data_.who) false)
       ((b.data_.beat=(atI b.m b.data_.who).done/\(0<=b.data_.left/\b.data_.left<=b.conf.maxWait+2)/\(0<=b.data_.resp/\b.data_.resp<=3))/\(b.data_.second=true->b.data_.left=0/\b.data_.resp≠0/\b.addr.live=false)):=by
      by_cases f4:b.data_.second=true
      .rw[ZZj f4]
       by_cases f5:b.addr.live=true
       .rw[f5,Yzs]
        exact .no λh=>by have:=(h.2 f4).2.2;cases this
       .have f6:b.addr.live=false:=by simpa using f5
        rw[f6];exact hJ2.iff ⟨λh=>⟨h.1,λh2=>⟨(h.2 h2).1,(h.2 h2).2,rfl⟩⟩,λh=>⟨h.1,λh2=>⟨(h.2 h2).1,(h.2 h2).2.1⟩⟩⟩
      .rw[ZZi f4]
       exact hJ2.iff ⟨λh=>⟨h.1,λh2=>absurd h2 f4⟩,λh=>⟨h.1,λh2=>absurd h2 f4⟩⟩
     have hT:Y3 (if decide (b.data_.resp=3)=true then if (atI b.m b.data_.who).parted=true then Yj b b.data_ true (atI b.m b.data_.who) true else if decide (b.holder=b.data_.who)=true then Yj b b.data_ true (atI b.m b.data_.who) true else if b.data_.second=true then Yj b b.data_ true (atI b.m b.data_.who) b.addr.live else Yj b b.data_ true (atI b.m b.data_.who) false
       else if b.data_.second=true then Yj b b.data_ true (atI b.m b.data_.who) b.addr.live else Yj b b.data_ true (atI b.m b.data_.who) false)
       ((b.data_.resp=3->(atI b.m b.data_.who).parted=false/\b.data_.who≠b.holder)/\(b.data_.beat=(atI b.m b.data_.who).done/\(0<=b.data_.left/\b.data_.left<=b.conf.maxWait+2)/\(0<=b.data_.resp/\b.data_.resp<=3))/\(b.data_.second=true->b.data_.left=0/\b.data_.resp≠0/\b.addr.live=false)):=by
      by_cases f3:b.data_.resp=3
      .rw[ZZj (by simpa using f3)]
       by_cases f4:(atI b.m b.data_.who).parted=true
       .rw[ZZj f4,Yzs]
        exact .no λh=>by have:=(h.1 f3).1;rw[f4] at this;cases this
       .rw[ZZi f4]
        by_cases f5:b.holder=b.data_.who
        .rw[ZZj (by simpa using f5),Yzs]
         exact .no λh=>(h.1 f3).2 f5.symm
        .rw[ZZi (by simpa using f5)]
         exact hS.iff ⟨λh=>⟨λ_=>⟨by simpa using f4,λh2=>f5 h2.symm⟩,h⟩,λh=>h.2⟩
      .rw[ZZi (by simpa using f3)]
       exact hS.iff ⟨λh=>⟨λh2=>absurd h2 f3,h⟩,λh=>h.2⟩
     unfold Q5;rw[ZZi (by simp),Wf h1 e1,ZZa,ZZi (by simp)];by_cases f2:b.data_.resp=2
     .rw[ZZj (by simpa using f2)]
      by_cases f3:(atI b.m b.data_.who).tries≥b.conf.maxRetry
      .rw[ZZj (by simpa using f3),Yzs]
       exact .no λh=>by have:=h.2.2.1 f2;omega
      .rw[ZZi (by simpa using f3)]
       exact hT.iff ⟨λh=>⟨λ_=>⟨e1,e2,e3⟩,h.2.1,λ_=>by omega,h.1,h.2.2⟩,λh=>⟨h.2.2.2.1,h.2.1,h.2.2.2.2⟩⟩
     .rw[ZZi (by simpa using f2)]
      exact hT.iff ⟨λh=>⟨λ_=>⟨e1,e2,e3⟩,h.2.1,λh2=>absurd h2 f2,h.1,h.2.2⟩,λh=>⟨h.2.2.2.1,h.2.1,h.2.2.2.2⟩⟩
    .rw[decide_eq_true (by omega),hJ1]
     exact .no λh=>e3 (h.1 ha).2.2
   .rw[ZZj (by rw[decide_eq_false e2];rfl),hJ1]
    exact .no λh=>e2 (h.1 ha).2.1
  .rw[ZZj (by simpa using e1),hJ1]
   exact .no λh=>e1 (h.1 ha).1
 .rw[ZZj (by simpa using ha),ZZi ha]
  exact (Y3.of (Yfu _)).iff ⟨λh=>⟨λh2=>absurd h2 ha,h⟩,λh=>h.2⟩
theorem Yfq (b:Za) (hc:Wa b.conf=true) (h1:b.m.length=b.conf.masters.length) (h3:b.splits.length=b.conf.masters.length) (hm:∀i,Zv b.conf i=true->Zxp b.conf b i):Y3 (Zpk b) (Zjo b):=by
 have Yp:=Zar hc;have Yb:=Zcg hc;unfold Zpk Zjo;refine (Zp6 (n:=b.m.length) (by omega) (P:=λk=>(atI b.m (k:Int)).beat > 0->Ym (atI b.m (k:Int))=true->b.holder=(k:Int))
  (Q:=if b.holder=-1 then b.held=0 else Zv b.conf b.holder=true/\Ym (atI b.m b.holder)=true/\atI b.splits b.holder=0/\(0<=b.held/\b.held<=b.conf.lockMost))
  (B:=Zjb b) (λm i=>rfl) (λk hk=>?_) λ_=>?_).iff ?_
 .have hmk:=mas (c:=b.conf) (k:=k) (by omega)
  have hr:=(hm _ hmk).right;unfold Zjb;simp only[ZZj (show decide ((k:Int) < (b.m.length:Int))=true by simpa using hk),Wf h1 hmk,ZZa];by_cases e1:(atI b.m (k:Int)).beat > 0
  .have hq:(atI b.m (k:Int)).queue≠[]:=by
    intro hq;have:=hr.none hq;omega
   have hq2:0 < (atI b.m (k:Int)).queue.length:=Vao.2 hq;rw[Xr (xs:=(atI b.m (k:Int)).queue) (by omega) (by omega)];simp only[ZZa,e1,decide_true,if_true];by_cases e2:(atI (atI b.m (k:Int)).queue 0).lock=true
   .by_cases e4:(atI b.m (k:Int)).broken=true
    .exact .inl ⟨λ_ h=>by simp[Ym,e4] at h,λκ=>by simp[e2,e4]⟩
    .by_cases e3:b.holder=(k:Int)
     .exact .inl ⟨λ_ _=>e3,λκ=>by simp[e2,e3,e4]⟩
     .exact .inr ⟨λh=>e3 (h trivial (by simp[Ym,hq,e2,e4])),λκ=>by simp[e2,e3,e4]⟩
   .exact .inl ⟨λ_ h=>by simp[Ym,e2] at h,λκ=>by simp[e2]⟩
  .exact .inl ⟨λh=>absurd h e1,λκ=>by simp[e1]⟩
 .unfold Zjb
  simp only[Int.lt_irrefl,decide_false,ZZf,if_false];by_cases e1:b.holder=-1
  .exact⟨decide (b.held=0),λκ=>by simp[e1],by simp[e1]⟩
  .simp only[e1,decide_false,ZZf,if_false,Zj3 h1 Yb,ZZa,Xk]
   have hJt:Zbn b true=some false:=by unfold Zbn;rw[ZZj rfl]
   by_cases e2:Zv b.conf b.holder=true
   .simp only[e2,Va5,ZZf,if_false]
    by_cases e5:0<=b.held/\b.held<=b.conf.lockMost
    .have hJ:Y3 (Zbn b false) (Ym (atI b.m b.holder)=true/\atI b.splits b.holder=0):=by
      unfold Zbn;rw[ZZi (by simp),Wf h1 e2,ZZa];by_cases hq:(atI b.m b.holder).queue=[]
      .rw[ZZi (by simp[hq])]
       exact .no λh=>by simp[Ym,hq] at h
      .have hq2:0 < (atI b.m b.holder).queue.length:=Vao.2 hq
       rw[ZZj (by simp;omega),Xr (xs:=(atI b.m b.holder).queue) (by omega) (by omega),ZZa,Zqo h3 e2,ZZa];by_cases e6:(atI (atI b.m b.holder).queue 0).lock=true
       .rw[ZZj e6]
        by_cases e7:(atI b.m b.holder).broken=true
        .rw[ZZi (by simp[e7])]
         exact .no λh=>by simp[Ym,e7] at h
        .rw[ZZj (by simp[e7])]
         exact .of (by simp[Ym,hq,e6,e7])
       .rw[ZZi e6]
        exact .no λh=>by simp[Ym,e6] at h
     obtain⟨r,Zw,Z6⟩:=hJ;refine⟨r,λκ=>by rw[decide_eq_true e5,Va5,Zw],?_⟩;rw[Z6];exact⟨λh=>⟨trivial,h.1,h.2,e5⟩,λh=>⟨h.2.1,h.2.2.1⟩⟩
    .refine⟨false,λκ=>by rw[decide_eq_false e5,Vbi,hJt],by simp[e5]⟩
   .exact⟨false,λκ=>by simp[e2,hJt],by simp[e2]⟩
 .rw[h1,<-Zy6 (P:=λi=>(atI b.m i).beat > 0->Ym (atI b.m i)=true->b.holder=i)]
def doneR (c:Zl) (d:Zn):Prop:=Zv c d.who=true/\Wd d.addr d.size=true/\d.addr < 512/\Xy d.value d.size=true/\(d.resp=0\/d.resp=1)
theorem Ydd {b:Za} (h1:b.m.length=b.conf.masters.length) (Yb:b.conf.masters.length < 1048577) (d:Zn):(doneR b.conf d/\∀x:Option Bool,((Z5 d.who 0 (Y6 (b.m.length:Int) 1)).bind λr530=>if (!r530)=true then some false else (Zba d.addr d.size).bind λr538=>if (!r538)=true then some false else (Z5 d.addr 0 511).bind λr544=>if (!r544)=true then some false else (Qo d.size).bind λr552=>(Z5 d.value 0 (Y6 r552 1)).bind λr554=>if (!r554)=true then some false else (Z5 d.resp 0 1).bind λr560=>if (!r560)=true then some false else x)=x)
  \/ (¬doneR b.conf d/\∀x:Option Bool,((Z5 d.who 0 (Y6 (b.m.length:Int) 1)).bind λr530=>if (!r530)=true then some false else (Zba d.addr d.size).bind λr538=>if (!r538)=true then some false else (Z5 d.addr 0 511).bind λr544=>if (!r544)=true then some false else (Qo d.size).bind λr552=>(Z5 d.value 0 (Y6 r552 1)).bind λr554=>if (!r554)=true then some false else (Z5 d.resp 0 1).bind λr560=>if (!r560)=true then some false else x)=some false):=by
 simp only[Zj3 h1 Yb,Ztu,Zbp,Zq4,Xk d.addr,Xk d.resp,ZZa];by_cases e3:Zv b.conf d.who=true
 .by_cases e4:Wd d.addr d.size=true
  .have e0:=(Zb1 e4).2.1
   by_cases e5:d.addr < 512
   .have e5':0<=d.addr/\d.addr<=511:=by omega
    by_cases e6:Xy d.value d.size=true
    .by_cases e7:d.resp=0\/d.resp=1
     .have e7':0<=d.resp/\d.resp<=1:=by omega
      exact .inl ⟨⟨e3,e4,e5,e6,e7⟩,λx=>by simp[e3,e4,e5',e6,e7']⟩
     .have e7':¬(0<=d.resp/\d.resp<=1):=by omega
      exact .inr ⟨λh=>e7 h.2.2.2.2,λx=>by simp only[e3,e4,e5',e6,decide_eq_false e7',Va5,Vbi,ZZf,if_false,if_true,and_self,decide_true]⟩
    .exact .inr ⟨λh=>e6 h.2.2.2.1,λx=>by simp[e3,e4,e5',e6]⟩
   .have e5':¬(0<=d.addr/\d.addr<=511):=by omega
    exact .inr ⟨λh=>e5 h.2.2.1,λx=>by simp only[e3,e4,decide_eq_false e5',Va5,Vbi,ZZf,if_false,if_true]⟩
  .exact .inr ⟨λh=>e4 h.2.1,λx=>by simp[e3,e4]⟩
 .exact .inr ⟨λh=>e3 h.1,λx=>by simp[e3]⟩
theorem Yjy (b:Za) (hc:Wa b.conf=true) (h1:b.m.length=b.conf.masters.length) (hl:b.log.length < 1048577) (hn:0<=b.now/\b.now<=4000):Y3 (Zsk b) (Z6n b):=by
 have Yb:=Zcg hc;unfold Zsk;have:=Zp6 (n:=b.log.length) (by omega) (P:=λk=>Z6a b.conf b.now (atI b.log (k:Int))/\(0 < k->Zdi b.log k < (atI b.log (k:Int)).cycle)) (Q:=True)
  (B:=Zle b) (L:=Zo1 b) (λm i=>rfl) (λk hk=>?_) λ_=>⟨true,λκ=>?_,by simp⟩
 .refine this.iff ?_
  rw[and_true,Yve];constructor
  .intro h k hk
   refine⟨(h k hk).1,?_⟩;cases k with
   | zero=>have:=(h 0 hk).1.1.1;simp only[Zdi];omega
   | succ k=>exact (h (k+1) hk).2 (by omega)
  .intro h k hk
   exact⟨(h k hk).1,λ_=>(h k hk).2⟩
 .unfold Zle
  simp only[ZZj (show decide ((k:Int) < (b.log.length:Int))=true by simpa using hk),Xr (xs:=b.log) (i:=(k:Int)) (by omega) (by omega),ZZa,Xk (atI b.log (k:Int)).cycle,Xe (a:=b.now) (b:=1) (by omega) (by omega)];by_cases e1:0<=(atI b.log (k:Int)).cycle/\(atI b.log (k:Int)).cycle < b.now
  .have e1':0<=(atI b.log (k:Int)).cycle/\(atI b.log (k:Int)).cycle<=b.now - 1:=by omega
   simp only[e1',and_self,decide_true,Va5,ZZf,if_false];cases k with
   | zero=>
    simp only[show ¬(((0:Nat):Int) > 0) by omega,decide_false,ZZf,if_false];rcases Ydd h1 Yb (atI b.log ((0:Nat):Int)) with⟨h2,h3⟩|⟨h2,h3⟩
    .exact .inl ⟨⟨⟨e1,h2⟩,λh=>by omega⟩,λκ=>h3 _⟩
    .exact .inr ⟨λh=>h2 h.1.2,λκ=>h3 _⟩
   | succ k=>
    have ek:((k+1:Nat):Int) - 1=(k:Int):=by omega
    simp only[show ((k+1:Nat):Int) > 0 by omega,decide_true,if_true,Xe (a:=((k+1:Nat):Int)) (b:=1) (by omega) (by omega),ek,Xr (xs:=b.log) (i:=(k:Int)) (by omega) (by omega),ZZa];by_cases e2:(atI b.log (k:Int)).cycle < (atI b.log ((k+1:Nat):Int)).cycle
    .have e2':¬(atI b.log ((k+1:Nat):Int)).cycle<=(atI b.log (k:Int)).cycle:=by omega
     simp only[e2',decide_false,ZZf,if_false];rcases Ydd h1 Yb (atI b.log ((k+1:Nat):Int)) with⟨h2,h3⟩|⟨h2,h3⟩
     .exact .inl ⟨⟨⟨e1,h2⟩,λh=>e2⟩,λκ=>h3 _⟩
     .exact .inr ⟨λh=>h2 h.1.2,λκ=>h3 _⟩
    .have e2':(atI b.log ((k+1:Nat):Int)).cycle<=(atI b.log (k:Int)).cycle:=by omega
     exact .inr ⟨λh=>e2 (h.2 (by omega)),λκ=>by simp only[e2',decide_true,if_true]⟩
  .have e1':¬(0<=(atI b.log (k:Int)).cycle/\(atI b.log (k:Int)).cycle<=b.now - 1):=by omega
   exact .inr ⟨λh=>e1 h.1.1,λκ=>by simp only[decide_eq_false e1',Vbi,if_true]⟩
 .unfold Zle
  rw[ZZi (by simp)]
theorem Yl9 (b:Za) (hs:b.sm):Y3 (Zma b) (Zm2 b):=by
 have hJt:W3 b true=some false:=by unfold W3;rw[ZZj rfl]
 unfold Zma;rw[Zpq _ hs.conf,ZZa];by_cases hc:Wa b.conf=true
 .have Yp:=Zar hc
  rw[hc,ZZi (by simp),Xk,ZZa];by_cases hn:0<=b.now/\b.now<=4000
  .rw[ZZi (by simpa using hn)]
   by_cases h1:b.m.length=b.conf.masters.length
   .rw[ZZi (by simp;omega)]
    by_cases h2:b.buckets.length=b.conf.masters.length
    .rw[ZZi (by simp;omega)]
     by_cases h3:b.splits.length=b.conf.masters.length
     .rw[ZZi (by simp;omega),Z6w _ _ hs.conf,ZZa]
      by_cases h4:Za4 b.arb b.conf=true
      .rw[h4,ZZi (by simp),Xk,ZZa,Xe (by omega) (by omega)]
       by_cases h5:b.last=-1\/Zv b.conf b.last=true
       .have h5':-1<=b.last/\b.last<=(b.conf.masters.length:Int) - 1:=by
         rcases h5 with h5|h5
         .omega
         .simp only[Zv,ZZl] at h5;omega
        rw[ZZi (by simpa using h5'),Z95 _ hs.model,ZZa];by_cases h6:Z0m b.model=true
        .rw[h6,ZZi (by simp)]
         by_cases h7:0<=b.picks
         .rw[ZZi (by simpa using h7)]
          by_cases h8:b.picks<=b.now
          .rw[decide_eq_false (by omega)]
           unfold W3;rw[ZZi (by simp)];have Yzt:=Zp6 (n:=b.conf.masters.length) (by omega) (P:=λk=>Zxp b.conf b (k:Int)/\(atI b.m (k:Int)).beat - (atI b.m (k:Int)).done=K4 b (k:Int))
            (Q:=((b.data_.live=true->Zah b b.data_)/\Kj b)/\((b.addr.live=true->Zah b b.addr)/\K2 b)/\Zjo b/\Z6n b) (B:=Zn6 b) (L:=Zqi b) (λm i=>rfl) (λk hk=>?_) λhP=>?_
           .refine Yzt.iff ⟨λh=>?_,λh=>?_⟩
            .obtain⟨h9,h10,h11,h12,h13⟩:=h
             have hm:=(Zy6 (c:=b.conf) (P:=λi=>Zxp b.conf b i/\(atI b.m i).beat - (atI b.m i).done=K4 b i)).2 h9;exact⟨hc,hn,h1,h2,h3,λi hi=>(hm i hi).1,h4,h5,Zw2.1 h6,⟨h7,h8⟩,h11.1,h10.1,λi hi=>(hm i hi).2,h11.2,h10.2,h12,h13⟩
            .exact⟨λk hk=>⟨h.mst _ (mas hk),h.fly _ (mas hk)⟩,⟨h.dlive,h.data⟩,⟨h.alive,h.addr⟩,h.held,h.log⟩
           .have hm:=mas (c:=b.conf) (k:=k) hk
            have hms:=hs.mst _ (mem_m h1 hm);have hme:=Zg3 (Zkf hc hm);unfold Zn6;simp only[ZZj (show decide ((k:Int) < (b.conf.masters.length:Int))=true by simpa using hk),Wf h1 hm,Ya8 h2 hm,Zqo h3 hm,Z2o hm,ZZa,Zqg _ ⟨hme.1,hme.2.1⟩,Xk,Y2d];unfold Z81;simp only[Zpq _ hs.conf,hc,if_true,ZZa,Zfu _ hms];by_cases e1:Zwu (atI b.m (k:Int))=true
            .by_cases e2:(atI b.m (k:Int)).tries<=b.conf.maxRetry
             .by_cases e3:Y8 (atI b.buckets (k:Int)) (atI b.conf.masters (k:Int))=true
              .by_cases e4:0<=atI b.splits (k:Int)/\atI b.splits (k:Int)<=b.conf.maxSplit
               .have hrb:=Jd (K9.1 e1)
                rw[Xe (by omega) (by omega)];by_cases e5:(atI b.m (k:Int)).beat - (atI b.m (k:Int)).done=K4 b (k:Int)
                .refine .inl ⟨⟨⟨K9.1 e1,e2,e3,e4⟩,e5⟩,λκ=>?_⟩
                 simp[e1,e2,e3,e4,e5]
                .refine .inr ⟨λh=>e5 h.2,λκ=>?_⟩
                 simp[e1,e2,e3,e4,e5]
               .refine .inr ⟨λh=>e4 h.1.split,λκ=>?_⟩
                simp[e1,e2,e3,e4]
              .refine .inr ⟨λh=>e3 h.1.bucket,λκ=>?_⟩
               simp[e1,e2,e3]
             .refine .inr ⟨λh=>e2 h.1.tries,λκ=>?_⟩
              simp[e1,e2]
            .refine .inr ⟨λh=>e1 (K9.2 h.1.right),λκ=>?_⟩
             simp[e1]
           .have hm:=(Zy6 (c:=b.conf) (P:=λi=>Zxp b.conf b i/\(atI b.m i).beat - (atI b.m i).done=K4 b i)).2 hP
            have hm1:∀i,Zv b.conf i=true->Zxp b.conf b i:=λi hi=>(hm i hi).1;have hT:Y3 ((Zcw b b.data_ true).bind λr903=>if r903=true then (Zcw b b.addr false).bind λr908=>if r908=true then (Zpk b).bind λr912=>if r912=true then (Zsk b).bind λr916=>some r916 else some false else some false else some false)
              (((b.data_.live=true->Zah b b.data_)/\Kj b)/\((b.addr.live=true->Zah b b.addr)/\K2 b)/\Zjo b/\Z6n b):=by
             refine Y3.and (Yi4 b hs hc h1 h3 hm1) λ_=>?_;refine Y3.and (Ykg b hs hc h1 h3 hm1) λ_=>?_;refine Y3.and (Yfq b hc h1 h3 hm1) λ_=>?_;obtain⟨r,h9,h10⟩:=Yjy b hc h1 hs.log hn;rw[h9];exact .of h10
            obtain⟨r,h9,h10⟩:=hT;refine⟨r,λκ=>?_,h10⟩;unfold Zn6;rw[ZZi (by simp)];exact h9
          .rw[decide_eq_true (by omega),hJt]
           exact .no λh=>h8 h.picks.2
         .rw[ZZj (by simpa using h7),hJt]
          exact .no λh=>h7 h.picks.1
        .rw[ZZj (by simpa using h6),hJt]
         exact .no λh=>h6 (Zw2.2 h.model)
       .have h5':¬(-1<=b.last/\b.last<=(b.conf.masters.length:Int) - 1):=by
         intro h6;apply h5;simp only[Zv,ZZl];omega
        rw[ZZj (by rw[decide_eq_false h5'];rfl),hJt];exact .no λh=>h5 h.last
      .rw[ZZj (by simpa using h4),hJt]
       exact .no λh=>h4 h.arb
     .rw[ZZj (by simp;omega),hJt]
      exact .no λh=>h3 h.sl
    .rw[ZZj (by simp;omega),hJt]
     exact .no λh=>h2 h.bl
   .rw[ZZj (by simp;omega),hJt]
    exact .no λh=>h1 h.ml
  .rw[ZZj (by rw[decide_eq_false hn];rfl),hJt]
   exact .no λh=>hn h.now
 .rw[ZZj (by simpa using hc),hJt]
  exact .no λh=>hc h.conf
theorem Ye3 (b:Za) (hs:b.sm):∃r,Zrj b=some r/\Zma b=some r/\(r=true↔Zm2 b):=(Yms b hs).eq (Yl9 b hs)
def Ziu (l:List Int) (k:Int):Int:=if l=[]\/k < 0 then 0 else atI l (k % (l.length:Int))
def Zqs (c:Zl) (s:Zi) (k:Int):Int:=max 0 (min (Ziu s.waits k) c.maxWait)
def Zhu (s:Zi) (k:Int):Int:=if Ziu s.says k=2\/Ziu s.says k=3 then Ziu s.says k else 0
def Zib (c:Zl) (s:Zi) (k:Int):Int:=max 1 (min (max 0 (min (Ziu s.waits k) 99)+1) c.maxSplit)
def Zky (b:Za):Zg:=
 Zg.mk b.now (if b.addr.live then X7 (atI b.m b.addr.who) b.addr.beat else -1) (if b.addr.live then (if b.addr.first then 2 else 3) else 0) (if b.addr.live then b.addr.who else -1)
  (if b.data_.live then X7 (atI b.m b.data_.who) b.data_.beat else -1) (if b.data_.live then b.data_.who else -1) true 0 (-1)
def Zbd (s:Zi) (t:Int):List Zm:=s.posts.filter λp=>decide (p.at_=t)
def Kv (b:Za) (p:Zm):Za:=if Zv b.conf p.who=true then {b with m:=b.m.set p.who.toNat (J0 (atI b.m p.who) p.req)} else b
def Xw (b:Za) (ps:List Zm):Za:=ps.foldl Kv b
def Xj (b:Za):Za:={b with splits:=b.splits.map λn=>max (n - 1) 0,buckets:=List.zipWith Zrz b.buckets b.conf.masters}
def Jt (b:Za):Za:=if b.holder=-1 then b else {b with held:=min (b.held+1) b.conf.lockMost}
def Yy3 (b:Za):Za:={b with holder:=-1,held:=0}
def Wh (b:Za) (x:Zh):Za:=
 if x.by_=1 then {b with m:=b.m.set x.who.toNat (Zbq (atI b.m x.who)),buckets:=b.buckets.set x.who.toNat (Zze (atI b.buckets x.who) (atI b.conf.masters x.who))}
 else if x.by_=2 then {b with m:=b.m.set x.who.toNat (Zbq (atI b.m x.who)),arb:=Zzh b.arb b.conf x.who}
 else {b with m:=b.m.set x.who.toNat (Zbq (atI b.m x.who))}
def Zrg (m:Zb) (k:Int):Int:=if (atI m.queue 0).write then atI (atI m.queue 0).data_ k else 0
def doG (b:Za) (x:Zh):Zj×Int×Int:=Zey b.model (atI (atI b.m x.who).queue 0).write (X7 (atI b.m x.who) x.beat) (atI (atI b.m x.who).queue 0).size (Zrg (atI b.m x.who) x.beat)
def Ygm (b:Za) (x:Zh):Zn:=Zn.mk b.now x.who (atI (atI b.m x.who).queue 0).write (X7 (atI b.m x.who) x.beat) (atI (atI b.m x.who).queue 0).size (if x.resp=0 then (doG b x).2.1 else 0) x.resp
def Zgi (b:Za) (x:Zh):Za:=
 {b with model:=if x.resp=0 then (doG b x).1 else b.model,log:=b.log++[Ygm b x],m:=b.m.set x.who.toNat (Jh (atI b.m x.who)),holder:=if b.holder=x.who/\(atI b.m x.who).done+1=Z0 (atI b.m x.who) then -1 else b.holder,held:=if b.holder=x.who/\(atI b.m x.who).done+1=Z0 (atI b.m x.who) then 0 else b.held}
def Ya (b:Za) (s:Zi):Za×Bool×Int:=
 if b.data_.live=false then (b,true,0)
 else if b.data_.left > 0 then ({b with data_:={b.data_ with left:=b.data_.left - 1}},false,0)
 else if b.data_.resp≠0/\b.data_.second=false then
  (if b.addr.live then {Wh {b with data_:={b.data_ with second:=true}} b.addr with addr:=Zh.z0} else {b with data_:={b.data_ with second:=true}},false,b.data_.resp)
 else if b.data_.resp=2 then (Wh {b with data_:=Zh.z0,m:=b.m.set b.data_.who.toNat {atI b.m b.data_.who with tries:=(atI b.m b.data_.who).tries+1}} b.data_,true,b.data_.resp)
 else if b.data_.resp=3 then (Wh {b with data_:=Zh.z0,m:=b.m.set b.data_.who.toNat {atI b.m b.data_.who with parted:=true},splits:=b.splits.set b.data_.who.toNat (Zib b.conf s b.picks)} b.data_,true,b.data_.resp)
 else (Zgi {b with data_:=Zh.z0} b.data_,true,b.data_.resp)
def Xg (b:Za):Za:=if b.holder≠-1/\b.held=b.conf.lockMost then Yy3 {b with m:=b.m.set b.holder.toNat {atI b.m b.holder with broken:=true}} else b
def Zdh (b:Za) (s:Zi) (x:Zh):Int×Int:=
 if (atI b.m x.who).broken=true\/Y0 (X7 (atI b.m x.who) x.beat)=0 then (1,0) else
 (if Zhu s b.picks=2/\Y0 (X7 (atI b.m x.who) x.beat)≠3/\(atI b.m x.who).tries < b.conf.maxRetry then 2
  else if Zhu s b.picks=3/\Y0 (X7 (atI b.m x.who) x.beat)=2/\(atI b.m x.who).parted=false/\x.who≠b.holder then 3 else (doG b x).2.2,if Y0 (X7 (atI b.m x.who) x.beat)=3 then Zqs b.conf s b.picks+2 else Zqs b.conf s b.picks)
def Q2 (b:Za) (s:Zi):Za:=if b.addr.live then {b with data_:={b.addr with left:=(Zdh b s b.addr).2,resp:=(Zdh b s b.addr).1},addr:=Zh.z0,picks:=b.picks+1} else b
def Ki (b:Za) (i:Int):Bool:=Zp4 (atI b.m i)&&(decide (atI b.splits i=0)&&(decide (b.holder=-1)||decide (b.holder=i)))
def Qw (b:Za):List Bool:=(List.range b.m.length).map λk:Nat=>Ki b (k:Int)
def Zaz (b:Za) (k:Nat):Bool:=Ki b (k:Int)&&(Zgo (atI b.buckets (k:Int)) (atI b.conf.masters (k:Int))).2
def Zaf (b:Za):Int×Int×Za:=
 if b.holder≠-1/\Ki b b.holder=true then (b.holder,3,b)
 else match (List.range b.m.length).find? (Zaz b) with
  | some k=>((k:Int),1,{b with buckets:=b.buckets.set k (Zgo (atI b.buckets (k:Int)) (atI b.conf.masters (k:Int))).1})
  | none=>if b.holder≠-1 then (-1,0,b) else ((Zc7 b.arb b.conf (Qw b)).2,2,{b with arb:=(Zc7 b.arb b.conf (Qw b)).1})
def Z6x (b:Za) (who by_:Int):Za:=
 {b with addr:=Zh.mk true who (atI b.m who).beat (decide ((atI b.m who).beat=0)||decide (b.last≠who)) by_ 0 0 false,holder:=if Ym (atI b.m who)=true/\b.holder=-1 then who else b.holder,held:=if Ym (atI b.m who)=true/\b.holder=-1 then 0 else b.held,m:=b.m.set who.toNat (X6 (atI b.m who)),last:=who}
def Je (b:Za):Int×Za:=if (Zaf b).1 < 0 then (-1,(Zaf b).2.2) else ((Zaf b).1,Z6x (Zaf b).2.2 (Zaf b).1 (Zaf b).2.1)
def Ww (b:Za) (s:Zi):Int×Za:=Je (Q2 (Xg b) s)
def Ku (b:Za) (s:Zi):Za:=Jt (Xj (Xw b (Zbd s b.now)))
def Zkz (b:Za) (s:Zi):Za×Zg:=
 if (Ya (Ku b s) s).2.1=true then
  ({(Ww (Ya (Ku b s) s).1 s).2 with now:=b.now+1},{Zky b with resp:=(Ya (Ku b s) s).2.2,got:=(Ww (Ya (Ku b s) s).1 s).1})
 else ({(Ya (Ku b s) s).1 with now:=b.now+1},{Zky b with ready:=false,resp:=(Ya (Ku b s) s).2.2})
structure Yz (n:Int) (b:Za):Prop where
 conf:Wa b.conf=true
 ml:b.m.length=b.conf.masters.length
 bl:b.buckets.length=b.conf.masters.length
 sl:b.splits.length=b.conf.masters.length
 mst:∀i,Zv b.conf i=true->Zxp b.conf b i
 arb:Za4 b.arb b.conf=true
 last:b.last=-1\/Zv b.conf b.last=true
 model:Zet b.model
 alive:b.addr.live=true->Zah b b.addr
 dlive:b.data_.live=true->Zah b b.data_
 fly:∀i,Zv b.conf i=true->(atI b.m i).beat - (atI b.m i).done=K4 b i
 addr:K2 b
 data:Kj b
 held:Zjo b
 log:(∀d∈b.log,Z6a b.conf n d)/\b.log.Pairwise λx y=>x.cycle < y.cycle
theorem Zm2.i {b:Za} (h:Zm2 b):Yz b.now b:=⟨h.conf,h.ml,h.bl,h.sl,h.mst,h.arb,h.last,h.model,h.alive,h.dlive,h.fly,h.addr,h.data,h.held,h.log⟩
theorem Z8j {α:Type} [Inhabited α] {xs:List α} {w i:Int} (a:α) (h0:0<=w) (h1:w < (xs.length:Int)) (hi:0<=i):atI (xs.set w.toNat a) i=if i=w then a else atI xs i:=by
 split
 .rename_i h;subst h;exact Zpv a h0 h1
 .rename_i h;exact Ylm a h0 hi (λh2=>h h2.symm)
theorem We {c:Zl} {i:Int} (h:Zv c i=true):0<=i/\i < (c.masters.length:Int):=by simpa [Zv] using h
theorem Yz.at_m {n:Int} {b:Za} (h:Yz n b) {w:Int} (hw:Zv b.conf w=true) (x:Zb) {i:Int} (hi:Zv b.conf i=true):atI (b.m.set w.toNat x) i=if i=w then x else atI b.m i:=by
 have h1:=We hw;have h2:=We hi;exact Z8j x h1.1 (by have:=h.ml;omega) h2.1
theorem Zbg {n:Int} {b:Za} (h:Yz n b) (hl:b.addr.live=true):Zv b.conf b.addr.who=true:=(h.alive hl).1
theorem Qy {n:Int} {b:Za} (h:Yz n b) (hl:b.data_.live=true):Zv b.conf b.data_.who=true:=(h.dlive hl).1
theorem Y0g {m:Zb} {r:Zf} (hq:m.queue≠[]):(J0 m r).queue≠[]/\atI (J0 m r).queue 0=atI m.queue 0:=by
 unfold J0;split
 .exact⟨by simp,Yce hq⟩
 .exact⟨hq,rfl⟩
theorem Yk3 (m:Zb) (r:Zf):(J0 m r).beat=m.beat/\(J0 m r).done=m.done/\(J0 m r).tries=m.tries/\(J0 m r).parted=m.parted/\(J0 m r).broken=m.broken:=by
 unfold J0;split<;>exact⟨rfl,rfl,rfl,rfl,rfl⟩
theorem Ywu {m:Zb} {r:Zf} (hq:m.queue≠[]):Ym (J0 m r)=Ym m:=by
 have h:=Y0g (r:=r) hq;have h2:=Yk3 m r;unfold Ym;rw[h.2,h2.2.2.2.2];simp[h.1,hq]
theorem Ypf {m:Zb} (h:Ym m=true):m.queue≠[]:=by
 intro hq;simp[Ym,hq] at h
theorem Ywk {n:Int} {b:Za} {p:Zm} (h:Yz n b):Yz n (Kv b p):=by
 unfold Kv;split
 .rename_i hw
  have ha:=λ{i} hi=>h.at_m hw (J0 (atI b.m p.who) p.req) (i:=i) hi;have hs:=Yk3 (atI b.m p.who) p.req;have hbd:∀i,Zv b.conf i=true->(atI (b.m.set p.who.toNat (J0 (atI b.m p.who) p.req)) i).beat=(atI b.m i).beat/\(atI (b.m.set p.who.toNat (J0 (atI b.m p.who) p.req)) i).done=(atI b.m i).done/\(atI (b.m.set p.who.toNat (J0 (atI b.m p.who) p.req)) i).tries=(atI b.m i).tries/\(atI (b.m.set p.who.toNat (J0 (atI b.m p.who) p.req)) i).parted=(atI b.m i).parted:=by
   intro i hi;rw[ha hi];split
   .rename_i e;subst e;exact⟨hs.1,hs.2.1,hs.2.2.1,hs.2.2.2.1⟩
   .exact⟨rfl,rfl,rfl,rfl⟩
  have hlk:∀i,Zv b.conf i=true->(atI b.m i).queue≠[]->Ym (atI (b.m.set p.who.toNat (J0 (atI b.m p.who) p.req)) i)=Ym (atI b.m i):=by
   intro i hi hq;rw[ha hi];split
   .rename_i e;subst e;exact Ywu hq
   .rfl
  refine⟨h.conf,by simp[h.ml],h.bl,h.sl,λi hi=>?_,h.arb,h.last,h.model,h.alive,h.dlive,λi hi=>?_,?_,?_,?_,h.log⟩
  .have hm:=h.mst i hi
   refine⟨?_,by have:=(hbd i hi).2.2.1;simp only at this ⊢;rw[this];exact hm.tries,hm.bucket,hm.split⟩;show Yv (atI (b.m.set p.who.toNat (J0 (atI b.m p.who) p.req)) i);rw[ha hi];split
   .exact Yxu (h.mst _ hw).right
   .exact hm.right
  .show (atI (b.m.set p.who.toNat (J0 (atI b.m p.who) p.req)) i).beat - (atI (b.m.set p.who.toNat (J0 (atI b.m p.who) p.req)) i).done=K4 b i
   rw[(hbd i hi).1,(hbd i hi).2.1];exact h.fly i hi
  .have:=h.addr
   unfold K2 at this ⊢;simp only;by_cases hl:b.addr.live=true
   .rw[ZZj hl] at this ⊢
    rw[(hbd _ (Zbg h hl)).1];exact this
   .rw[ZZi hl] at this ⊢;exact this
  .have:=h.data
   unfold Kj at this ⊢;simp only;by_cases hl:b.data_.live=true
   .rw[ZZj hl] at this ⊢
    have e:=hbd _ (Qy h hl);rw[e.2.1,e.2.2.1,e.2.2.2];exact this
   .rw[ZZi hl] at this ⊢;exact this
  .obtain⟨h1,h2⟩:=h.held
   refine⟨λi hi hb hk=>?_,?_⟩
   .simp only at hb hk
    have hi2:Zv b.conf i=true:=hi;rw[(hbd i hi2).1] at hb;have hq:(atI b.m i).queue≠[]:=by
     intro hq;have:=(h.mst i hi2).right.none hq;omega
    rw[hlk i hi2 hq] at hk;exact h1 i hi2 hb hk
   .simp only
    split
    .rename_i e;rw[ZZj e] at h2;exact h2
    .rename_i e
     rw[ZZi e] at h2;exact⟨h2.1,by rw[hlk _ h2.1 (Ypf h2.2.1)];exact h2.2.1,h2.2.2⟩
 .exact h
theorem Zsm {n:Int} {b:Za} (h:Yz n b) (ps:List Zm):Yz n (Xw b ps):=by
 induction ps generalizing b with
 | nil=>exact h
 | cons p ps ih=>exact ih (Ywk h)
theorem Yqp (b:Za) (p:Zm):(Kv b p).conf=b.conf/\(Kv b p).now=b.now/\(Kv b p).picks=b.picks/\(Kv b p).log=b.log/\(Kv b p).model=b.model/\(Kv b p).holder=b.holder/\(Kv b p).held=b.held/\(Kv b p).addr=b.addr/\(Kv b p).data_=b.data_/\(Kv b p).splits=b.splits/\(Kv b p).buckets=b.buckets/\(Kv b p).arb=b.arb/\(Kv b p).last=b.last:=by
 unfold Kv;split<;>exact⟨rfl,rfl,rfl,rfl,rfl,rfl,rfl,rfl,rfl,rfl,rfl,rfl,rfl⟩
theorem Zmd (b:Za) (ps:List Zm):(Xw b ps).conf=b.conf/\(Xw b ps).now=b.now/\(Xw b ps).picks=b.picks/\(Xw b ps).log=b.log/\(Xw b ps).model=b.model/\(Xw b ps).holder=b.holder/\(Xw b ps).held=b.held/\(Xw b ps).addr=b.addr/\(Xw b ps).data_=b.data_/\(Xw b ps).splits=b.splits/\(Xw b ps).buckets=b.buckets/\(Xw b ps).arb=b.arb/\(Xw b ps).last=b.last:=by
 induction ps generalizing b with
 | nil=>exact⟨rfl,rfl,rfl,rfl,rfl,rfl,rfl,rfl,rfl,rfl,rfl,rfl,rfl⟩
 | cons p ps ih=>
  have h1:=ih (Kv b p);have h2:=Yqp b p;simp only[h2] at h1;exact h1
theorem at_map {α β:Type} [Inhabited α] [Inhabited β] (f:α->β) {xs:List α} {i:Int} (h0:0<=i) (h1:i < (xs.length:Int)):atI (xs.map f) i=f (atI xs i):=by
 obtain⟨k,rfl⟩:∃k:Nat,i=k:=⟨i.toNat,by omega⟩;have hk:k < xs.length:=by omega
 rw[Qj hk,Qj (by simpa using hk)];simp
theorem at_zip {α β γ:Type} [Inhabited α] [Inhabited β] [Inhabited γ] (f:α->β->γ) {xs:List α} {ys:List β} {i:Int} (h0:0<=i) (h1:i < (xs.length:Int)) (h2:i < (ys.length:Int)):atI (List.zipWith f xs ys) i=f (atI xs i) (atI ys i):=by
 obtain⟨k,rfl⟩:∃k:Nat,i=k:=⟨i.toNat,by omega⟩;have hk:k < xs.length:=by omega
 have hk2:k < ys.length:=by omega
 rw[Qj hk,Qj hk2,Qj (by simp;omega)];simp
theorem Z6h {n:Int} {b:Za} (h:Yz n b):Yz n (Xj b):=by
 have hsp:∀i,Zv b.conf i=true->atI (b.splits.map λn=>max (n - 1) 0) i=max (atI b.splits i - 1) 0:=λi hi=>by
  have:=We hi;exact at_map _ this.1 (by have:=h.sl;omega)
 have hbu:∀i,Zv b.conf i=true->atI (List.zipWith Zrz b.buckets b.conf.masters) i=Zrz (atI b.buckets i) (atI b.conf.masters i):=λi hi=>by
  have:=We hi;exact at_zip _ this.1 (by have:=h.bl;omega) this.2
 have h0:∀i,Zv b.conf i=true->atI b.splits i=0->atI (b.splits.map λn=>max (n - 1) 0) i=0:=λi hi e=>by rw[hsp i hi,e];rfl
 refine⟨h.conf,h.ml,by simp[Xj,h.bl],by simp[Xj,h.sl],λi hi=>?_,h.arb,h.last,h.model,λhl=>?_,λhl=>?_,h.fly,h.addr,h.data,?_,h.log⟩
 .have hm:=h.mst i hi
  refine⟨hm.right,hm.tries,?_,?_⟩
  .show Y8 (atI (List.zipWith Zrz b.buckets b.conf.masters) i) _=true
   rw[hbu i hi];exact Y57 hm.bucket (Zkf h.conf hi)
  .show 0<=atI (b.splits.map λn=>max (n - 1) 0) i/\_
   have:=hm.split;have hx:=(Qk h.conf).2.2.2;show 0<=atI (b.splits.map λn=>max (n - 1) 0) i/\atI (b.splits.map λn=>max (n - 1) 0) i<=b.conf.maxSplit;rw[hsp i hi];omega
 .obtain⟨h1,h2,h3⟩:=h.alive hl
  exact⟨h1,h2,h0 _ h1 h3⟩
 .obtain⟨h1,h2,h3⟩:=h.dlive hl
  exact⟨h1,h2,h0 _ h1 h3⟩
 .obtain⟨h1,h2⟩:=h.held
  refine⟨h1,?_⟩;show if b.holder=-1 then b.held=0 else _
  split
  .rename_i e;rw[ZZj e] at h2;exact h2
  .rename_i e
   rw[ZZi e] at h2;exact⟨h2.1,h2.2.1,h0 _ h2.1 h2.2.2.1,h2.2.2.2⟩
theorem Yyt {n:Int} {b:Za} (h:Yz n b):Yz n (Jt b):=by
 unfold Jt;split
 .exact h
 .rename_i e
  refine⟨h.conf,h.ml,h.bl,h.sl,λi hi=>?_,h.arb,h.last,h.model,h.alive,h.dlive,h.fly,h.addr,h.data,?_,h.log⟩
  .have hm:=h.mst i hi;exact⟨hm.right,hm.tries,hm.bucket,hm.split⟩
  .obtain⟨h1,h2⟩:=h.held
   refine⟨h1,?_⟩;rw[ZZi e] at h2;show if b.holder=-1 then _ else _
   rw[ZZi e];have hl:=(Qk h.conf).2.2.1;refine⟨h2.1,h2.2.1,h2.2.2.1,?_⟩;have:=h2.2.2.2;show 0<=min (b.held+1) b.conf.lockMost/\min (b.held+1) b.conf.lockMost<=b.conf.lockMost;omega
theorem Yks {b b':Za} (h:Zjo b) (hc:b'.conf=b.conf) (hh:b'.holder=b.holder) (hd:b'.held=b.held)
  (hm:∀i,Zv b.conf i=true->Ym (atI b'.m i)=Ym (atI b.m i)/\((atI b'.m i).beat > 0->(atI b.m i).beat > 0)) (hs:b.holder≠-1->atI b.splits b.holder=0->atI b'.splits b.holder=0):Zjo b':=by
 obtain⟨h1,h2⟩:=h;unfold Zjo;rw[hc,hh,hd];refine⟨λi hi hb hk=>h1 i hi ((hm i hi).2 hb) (by rw[<-(hm i hi).1];exact hk),?_⟩;split
 .rename_i e;rw[ZZj e] at h2;exact h2
 .rename_i e
  rw[ZZi e] at h2;exact⟨h2.1,by rw[(hm _ h2.1).1];exact h2.2.1,hs e h2.2.2.1,h2.2.2.2⟩
theorem Ykr (m:Zb):(Zbq m).queue=m.queue/\(Zbq m).done=m.done/\(Zbq m).tries=m.tries/\(Zbq m).parted=m.parted/\(Zbq m).broken=m.broken:=by
 unfold Zbq;split<;>exact⟨rfl,rfl,rfl,rfl,rfl⟩
theorem Zt0 {m m':Zb} (h1:m'.queue=m.queue) (h2:m'.broken=m.broken):Ym m'=Ym m:=by
 unfold Ym;rw[h1,h2]
structure Y6q (b r:Za) (x:Zh):Prop where
 conf:r.conf=b.conf
 m:r.m=b.m.set x.who.toNat (Zbq (atI b.m x.who))
 bl:r.buckets.length=b.conf.masters.length
 bk:∀i,Zv b.conf i=true->Y8 (atI r.buckets i) (atI b.conf.masters i)=true
 arb:Za4 r.arb b.conf=true
 splits:r.splits=b.splits
 holder:r.holder=b.holder
 held:r.held=b.held
 addr:r.addr=b.addr
 data:r.data_=b.data_
 model:r.model=b.model
 log:r.log=b.log
 last:r.last=b.last
 now:r.now=b.now
 picks:r.picks=b.picks
theorem Z8o {b:Za} {x:Zh} (hc:Wa b.conf=true) (hw:Zv b.conf x.who=true) (hbl:b.buckets.length=b.conf.masters.length) (hbk:∀i,Zv b.conf i=true->Y8 (atI b.buckets i) (atI b.conf.masters i)=true) (har:Za4 b.arb b.conf=true):Y6q b (Wh b x) x:=by
 have hb:=We hw;unfold Wh;split
 .refine⟨rfl,rfl,by simp[hbl],λi hi=>?_,har,rfl,rfl,rfl,rfl,rfl,rfl,rfl,rfl,rfl,rfl⟩
  show Y8 (atI (b.buckets.set x.who.toNat _) i) _=true;rw[Z8j _ hb.1 (by omega) (We hi).1];split
  .rename_i e;subst e;exact Y33 (hbk _ hi) (Zkf hc hi)
  .exact hbk i hi
 .split
  .exact⟨rfl,rfl,hbl,hbk,Y3n _ har,rfl,rfl,rfl,rfl,rfl,rfl,rfl,rfl,rfl,rfl⟩
  .exact⟨rfl,rfl,hbl,hbk,har,rfl,rfl,rfl,rfl,rfl,rfl,rfl,rfl,rfl,rfl⟩
theorem Yz.mono {n:Int} {b:Za} (h:Yz n b):Yz (n+1) b:=
 ⟨h.conf,h.ml,h.bl,h.sl,h.mst,h.arb,h.last,h.model,h.alive,h.dlive,h.fly,h.addr,h.data,h.held,λd hd=>by have:=h.log.1 d hd;exact⟨⟨this.1.1,by have:=this.1.2;omega⟩,this.2⟩,h.log.2⟩
theorem Yvy {n:Int} {b:Za} (h:Yz n b) (hl:b.addr.live=true):(atI b.m b.addr.who).beat - (atI b.m b.addr.who).done≥1:=by
 rw[h.fly _ (Zbg h hl)];unfold K4;rw[ZZj ⟨hl,rfl⟩];split<;>omega
theorem Zu2 {n:Int} {b:Za} (h:Yz n b) (hl:b.data_.live=true):(atI b.m b.data_.who).beat - (atI b.m b.data_.who).done≥1:=by
 rw[h.fly _ (Qy h hl)];unfold K4;rw[ZZj (⟨hl,rfl⟩:b.data_.live=true/\b.data_.who=b.data_.who)];split<;>omega
theorem Yy8 {n:Int} {b:Za} (h:Yz n b) (hd:b.data_.live=true) (hl:b.data_.left > 0):Yz n {b with data_:={b.data_ with left:=b.data_.left - 1}}:=by
 refine⟨h.conf,h.ml,h.bl,h.sl,λi hi=>?_,h.arb,h.last,h.model,h.alive,λ_=>h.dlive hd,λi hi=>?_,h.addr,?_,h.held,h.log⟩
 .have hm:=h.mst i hi;exact⟨hm.right,hm.tries,hm.bucket,hm.split⟩
 .have:=h.fly i hi
  unfold K4 at this ⊢;exact this
 .have:=h.data
  unfold Kj at this ⊢;rw[ZZj hd] at this;simp only;rw[ZZj hd];refine⟨⟨this.1.1,by have:=this.1.2.1;omega,this.1.2.2⟩,this.2.1,this.2.2.1,λhs=>?_⟩;have:=(this.2.2.2 hs).1;omega
theorem Yze {n:Int} {b:Za} (h:Yz n b) (hd:b.data_.live=true) (hl:b.data_.left=0) (hr:b.data_.resp≠0):
  Yz n (if b.addr.live then {Wh {b with data_:={b.data_ with second:=true}} b.addr with addr:=Zh.z0} else {b with data_:={b.data_ with second:=true}}):=by
 have Za5:=h.data;unfold Kj at Za5;rw[ZZj hd] at Za5;by_cases ha:b.addr.live=true
 .rw[ZZj ha]
  have hw:=Zbg h ha;have hb:=We hw;have hf:=Z8o (b:={b with data_:={b.data_ with second:=true}}) (x:=b.addr) h.conf hw h.bl (λi hi=>(h.mst i hi).bucket) h.arb;generalize Wh {b with data_:={b.data_ with second:=true}} b.addr=r at hf;have hat:∀i,Zv b.conf i=true->atI r.m i=if i=b.addr.who then Zbq (atI b.m b.addr.who) else atI b.m i:=λi hi=>by
   rw[hf.m];exact h.at_m hw _ hi
  have hs:=Ykr (atI b.m b.addr.who);have hsm:∀i,Zv b.conf i=true->(atI r.m i).queue=(atI b.m i).queue/\(atI r.m i).done=(atI b.m i).done/\(atI r.m i).tries=(atI b.m i).tries/\(atI r.m i).parted=(atI b.m i).parted/\(atI r.m i).broken=(atI b.m i).broken:=λi hi=>by
   rw[hat i hi];split
   .rename_i e;subst e;exact hs
   .exact⟨rfl,rfl,rfl,rfl,rfl⟩
  have hp:=Yvy h ha;have hbt:(Zbq (atI b.m b.addr.who)).beat=(atI b.m b.addr.who).beat - 1:=by
   unfold Zbq;rw[ZZi (by omega)]
  refine⟨by rw[show ({r with addr:=Zh.z0}:Za).conf=r.conf from rfl,hf.conf];exact h.conf,?_,?_,?_,λi hi=>?_,?_,?_,?_,λhx=>?_,λhx=>?_,λi hi=>?_,?_,?_,?_,?_⟩
  .show r.m.length=r.conf.masters.length
   rw[hf.m,hf.conf];simp[h.ml]
  .show r.buckets.length=r.conf.masters.length
   rw[hf.bl,hf.conf]
  .show r.splits.length=r.conf.masters.length
   rw[hf.splits,hf.conf];exact h.sl
  .have Yn:Zv b.conf i=true:=by rw[<-show r.conf=b.conf from hf.conf];exact hi
   have hm:=h.mst i Yn;refine⟨?_,?_,?_,?_⟩
   .show Yv (atI r.m i)
    rw[hat i Yn];split
    .exact Yg5 (h.mst _ hw).right
    .exact hm.right
   .show (atI r.m i).tries<=r.conf.maxRetry
    rw[(hsm i Yn).2.2.1,hf.conf];exact hm.tries
   .show Y8 (atI r.buckets i) (atI r.conf.masters i)=true
    rw[hf.conf];exact hf.bk i Yn
   .show 0<=atI r.splits i/\atI r.splits i<=r.conf.maxSplit
    rw[hf.splits,hf.conf];exact hm.split
  .show Za4 r.arb r.conf=true
   rw[hf.conf];exact hf.arb
  .show r.last=-1\/Zv r.conf r.last=true
   rw[hf.last,hf.conf];exact h.last
  .show Zet r.model
   rw[hf.model];exact h.model
  .cases hx
  .have hx':r.data_.live=true:=hx
   obtain⟨h1,h2,h3⟩:=h.dlive hd;refine⟨?_,?_,?_⟩
   .show Zv r.conf r.data_.who=true
    rw[hf.conf,hf.data];exact h1
   .show 1<=r.data_.by_/\r.data_.by_<=3
    rw[hf.data];exact h2
   .show atI r.splits r.data_.who=0
    rw[hf.splits,hf.data];exact h3
  .have Yn:Zv b.conf i=true:=by rw[<-show r.conf=b.conf from hf.conf];exact hi
   show (atI r.m i).beat - (atI r.m i).done=K4 {r with addr:=Zh.z0} i;have Ke:=h.fly i Yn;unfold K4 at Ke ⊢;simp only[hf.data];rw[(hsm i Yn).2.1,hat i Yn];by_cases e:i=b.addr.who
   .subst e
    rw[ZZj rfl,hbt];rw[ZZj ⟨ha,rfl⟩] at Ke;simp only[ZZf,false_and,if_false];omega
   .rw[ZZi e]
    rw[ZZi (λhx=>e hx.2.symm)] at Ke;simp only[ZZf,false_and,if_false];exact Ke
  .unfold K2
   simp
  .unfold Kj
   show if r.data_.live=true then _ else _
   simp only[hf.data,hf.conf,hf.holder];rw[ZZj hd];have e:=hsm _ (Qy h hd);rw[e.2.1,e.2.2.1,e.2.2.2.1];exact⟨Za5.1,Za5.2.1,Za5.2.2.1,λ_=>⟨hl,hr,trivial⟩⟩
  .refine Yks (b:=b) h.held hf.conf hf.holder hf.held (λi hi=>⟨Zt0 (hsm i hi).1 (hsm i hi).2.2.2.2,λhx=>?_⟩) (λ_ hx=>by show atI r.splits b.holder=0;rw[hf.splits];exact hx)
   show (atI b.m i).beat > 0;have hx':(atI r.m i).beat > 0:=hx;rw[hat i hi] at hx';split at hx'
   .rename_i e;subst e;rw[hbt] at hx';omega
   .exact hx'
  .show (∀d∈r.log,Z6a r.conf n d)/\r.log.Pairwise _
   rw[hf.log,hf.conf];exact h.log
 .rw[ZZi ha]
  refine⟨h.conf,h.ml,h.bl,h.sl,λi hi=>?_,h.arb,h.last,h.model,h.alive,λ_=>h.dlive hd,λi hi=>?_,h.addr,?_,h.held,h.log⟩
  .have hm:=h.mst i hi;exact⟨hm.right,hm.tries,hm.bucket,hm.split⟩
  .have:=h.fly i hi
   unfold K4 at this ⊢;exact this
  .unfold Kj
   simp only;rw[ZZj hd];exact⟨Za5.1,Za5.2.1,Za5.2.2.1,λ_=>⟨hl,hr,by simpa using ha⟩⟩
theorem Yf9 {n:Int} {b:Za} (h:Yz n b) (hd:b.data_.live=true) (ha:b.addr.live=false) (x:Zb) (sp:List Int) (hq:x.queue=(atI b.m b.data_.who).queue) (hbe:x.beat=(atI b.m b.data_.who).beat) (hdo:x.done=(atI b.m b.data_.who).done) (hbr:x.broken=(atI b.m b.data_.who).broken)
  (ht:0<=x.tries/\x.tries<=b.conf.maxRetry) (hsl:sp.length=b.splits.length) (hsp:∀i,Zv b.conf i=true->0<=atI sp i/\atI sp i<=b.conf.maxSplit) (hsh:b.holder≠-1->atI b.splits b.holder=0->atI sp b.holder=0):
  Yz n (Wh {b with data_:=Zh.z0,m:=b.m.set b.data_.who.toNat x,splits:=sp} b.data_):=by
 have hw:=Qy h hd;have hb:=We hw;have hf:=Z8o (b:={b with data_:=Zh.z0,m:=b.m.set b.data_.who.toNat x,splits:=sp}) (x:=b.data_) h.conf hw h.bl (λi hi=>(h.mst i hi).bucket) h.arb;generalize Wh {b with data_:=Zh.z0,m:=b.m.set b.data_.who.toNat x,splits:=sp} b.data_=r at hf;have hmw:=(h.mst _ hw).right;have hp:=Zu2 h hd;have Yk:(atI b.m b.data_.who).queue≠[]:=Zg4 hmw (by omega);have hxr:Yv x:=by
  have h2:=hmw.some Yk;refine⟨by rw[hq];exact hmw.len,ht.1,by rw[hq];exact hmw.reqs,λhx=>absurd (by rw[<-hq];exact hx) Yk,λ_=>?_⟩;have:Z0 x=Z0 (atI b.m b.data_.who):=by unfold Z0;rw[hq]
  rw[this,hbe,hdo];exact h2
 have hxx:atI (b.m.set b.data_.who.toNat x) b.data_.who=x:=Zpv x hb.1 (by have:=h.ml;omega);have hat:∀i,Zv b.conf i=true->atI r.m i=if i=b.data_.who then Zbq x else atI b.m i:=λi hi=>by
  have Yn:=We hi;rw[hf.m];show atI ((b.m.set b.data_.who.toNat x).set b.data_.who.toNat (Zbq (atI (b.m.set b.data_.who.toNat x) b.data_.who))) i=_;rw[hxx,Vei];exact h.at_m hw _ hi
 have hs:=Ykr x;have hbt:(Zbq x).beat=(atI b.m b.data_.who).beat - 1:=by
  unfold Zbq;rw[ZZi (by rw[hbe,hdo];omega)];simp only[hbe]
 have hbz:Zh.z0.live=false:=rfl;refine⟨by rw[hf.conf];exact h.conf,?_,?_,?_,λi hi=>?_,?_,?_,?_,λhx=>?_,λhx=>?_,λi hi=>?_,?_,?_,?_,?_⟩
 .rw[hf.m,hf.conf];simp[h.ml]
 .rw[hf.bl,hf.conf]
 .rw[hf.splits,hf.conf];show sp.length=_;rw[hsl];exact h.sl
 .have Yn:Zv b.conf i=true:=by rw[<-show r.conf=b.conf from hf.conf];exact hi
  have hm:=h.mst i Yn;refine⟨?_,?_,?_,?_⟩
  .rw[hat i Yn]
   split
   .exact Yg5 hxr
   .exact hm.right
  .rw[hat i Yn,hf.conf]
   split
   .rw[hs.2.2.1];exact ht.2
   .exact hm.tries
  .rw[hf.conf];exact hf.bk i Yn
  .rw[hf.splits,hf.conf];exact hsp i Yn
 .rw[hf.conf];exact hf.arb
 .rw[hf.last,hf.conf];exact h.last
 .rw[hf.model];exact h.model
 .rw[hf.addr] at hx;rw[show ({b with data_:=Zh.z0,m:=b.m.set b.data_.who.toNat x,splits:=sp}:Za).addr=b.addr from rfl,ha] at hx;cases hx
 .rw[hf.data] at hx;cases hx
 .have Yn:Zv b.conf i=true:=by rw[<-show r.conf=b.conf from hf.conf];exact hi
  have Ke:=h.fly i Yn;unfold K4 at Ke ⊢;rw[hf.data,hf.addr,hat i Yn];show _=(if b.addr.live=true/\b.addr.who=i then (1:Int) else 0)+(if Zh.z0.live=true/\Zh.z0.who=i then 1 else 0);rw[ha] at Ke ⊢;simp only[ZZf,false_and,if_false] at Ke ⊢;by_cases e:i=b.data_.who
  .subst e
   rw[ZZj rfl,hbt,hs.2.1,hdo];rw[ZZj (⟨hd,rfl⟩:b.data_.live=true/\b.data_.who=b.data_.who)] at Ke;omega
  .rw[ZZi e]
   rw[ZZi (λhx=>e hx.2.symm)] at Ke;exact Ke
 .have:=h.addr
  unfold K2 at this ⊢;rw[hf.addr];show if b.addr.live=true then _ else _
  rw[ha] at this ⊢;exact this
 .unfold Kj
  rw[hf.data];show if Zh.z0.live=true then _ else _
  rw[ZZi (by simp)]
 .refine Yks (b:=b) h.held hf.conf hf.holder hf.held (λi hi=>?_) (λh1 h2=>by rw[hf.splits];exact hsh h1 h2)
  rw[hat i hi];split
  .rename_i e;subst e
   refine⟨Zt0 (by rw[hs.1,hq]) (by rw[hs.2.2.2.2,hbr]),λhx=>?_⟩;rw[hbt] at hx;omega
  .exact⟨rfl,id⟩
 .rw[hf.log,hf.conf];exact h.log
theorem Z9o {m:Zb} (h:Yv m) (hp:m.beat - m.done≥1):(m.done+1=Z0 m->m.beat - m.done=1/\(Jh m).queue=m.queue.tail/\(Jh m).beat=0/\(Jh m).done=0/\(Jh m).tries=0)/\
  (m.done+1≠Z0 m->(Jh m).queue=m.queue/\(Jh m).beat=m.beat/\(Jh m).done=m.done+1/\(Jh m).tries=0/\(Jh m).broken=m.broken/\(Jh m).parted=false):=by
 have h1:=h.some (Zg4 h (by omega));unfold Jh;constructor
 .intro e
  rw[ZZi (by omega),ZZj e];exact⟨by omega,rfl,rfl,rfl,rfl⟩
 .intro e
  rw[ZZi (by omega),ZZi e];exact⟨rfl,rfl,rfl,rfl,rfl,rfl⟩
theorem Ylq {m:Zb} {k:Int} (h:Yv m) (h0:0<=k) (h1:k < Z0 m) (hw:(atI m.queue 0).write=true):0<=k/\k < ((atI m.queue 0).data_.length:Int):=by
 have hq:m.queue≠[]:=by
  intro hq;unfold Z0 at h1;rw[ZZj hq] at h1;omega
 obtain⟨h2,h3,h4⟩:=Zvw h hq;have h5:=(Zip h2).2.1;rw[ZZj hw] at h5;omega
theorem Z92 {n:Int} {b:Za} (h:Yz n b) (hd:b.data_.live=true):0<=b.data_.beat/\b.data_.beat < Z0 (atI b.m b.data_.who):=by
 have hw:=Qy h hd;have hp:=Zu2 h hd;have hr:=(h.mst _ hw).right;have h1:=hr.some (Zg4 hr (by omega));have h2:=h.data;unfold Kj at h2;rw[ZZj hd] at h2;rw[h2.1.1];omega
theorem Z9m {n:Int} {b:Za} (h:Yz n b) (hl:b.addr.live=true):0<=b.addr.beat/\b.addr.beat < Z0 (atI b.m b.addr.who):=by
 have hw:=Zbg h hl;have hp:=Yvy h hl;have hr:=(h.mst _ hw).right;have h1:=hr.some (Zg4 hr (by omega));have h2:=h.addr;unfold K2 at h2;rw[ZZj hl] at h2;rw[h2.1];omega
theorem Yu0 {b:Za} (hn:0<=b.now) (h:Yz b.now b) (hd:b.data_.live=true) (hr:b.data_.resp=0\/b.data_.resp=1) (Z30:b.data_.resp≠0->b.addr.live=false):Yz (b.now+1) (Zgi {b with data_:=Zh.z0} b.data_):=by
 have hw:=Qy h hd;have hb:=We hw;have hmw:=(h.mst _ hw).right;have hp:=Zu2 h hd;have Yk:(atI b.m b.data_.who).queue≠[]:=Zg4 hmw (by omega);have hbt:=Z92 h hd;have had:=Ypv hmw hbt.1 hbt.2;have Za5:=h.data;unfold Kj at Za5;rw[ZZj hd] at Za5;have Yzu:=Yfz (w:=(atI (atI b.m b.data_.who).queue 0).write) (v:=Zrg (atI b.m b.data_.who) b.data_.beat) h.model had.2.1;have hef:=Z9o hmw hp;have hat:∀i,Zv b.conf i=true->atI (b.m.set b.data_.who.toNat (Jh (atI b.m b.data_.who))) i=if i=b.data_.who then Jh (atI b.m b.data_.who) else atI b.m i:=λi hi=>h.at_m hw _ hi
 have Y49:(atI b.m b.data_.who).done+1=Z0 (atI b.m b.data_.who)->b.addr.live=true->b.addr.who≠b.data_.who:=by
  intro e hl e2;have h1:=(hef.1 e).1;have h2:=h.fly _ hw;unfold K4 at h2;rw[ZZj (⟨hl,e2⟩:b.addr.live=true/\b.addr.who=b.data_.who),ZZj (⟨hd,rfl⟩:b.data_.live=true/\b.data_.who=b.data_.who)] at h2;omega
 have hz:Xy 0 (atI (atI b.m b.data_.who).queue 0).size=true:=by
  have h1:=(Zro _).1 (Zb1 had.2.1).1;generalize (atI (atI b.m b.data_.who).queue 0).size=s at h1;have:s=0\/s=1\/s=2:=by omega
  rcases this with rfl|rfl|rfl<;>decide
 refine⟨h.conf,?_,h.bl,h.sl,λi hi=>?_,h.arb,h.last,?_,h.alive,(λhx=>by cases hx),λi hi=>?_,?_,?_,?_,?_⟩
 .show (b.m.set b.data_.who.toNat (Jh (atI b.m b.data_.who))).length=_
  rw[Vbg];exact h.ml
 .have Yn:Zv b.conf i=true:=hi
  have hm:=h.mst i Yn;refine⟨?_,?_,hm.bucket,hm.split⟩
  .show Yv (atI (b.m.set b.data_.who.toNat (Jh (atI b.m b.data_.who))) i)
   rw[hat i Yn];split
   .exact Y1j hmw
   .exact hm.right
  .show (atI (b.m.set b.data_.who.toNat (Jh (atI b.m b.data_.who))) i).tries<=b.conf.maxRetry
   rw[hat i Yn];split
   .have hl:=(Qk h.conf).1
    by_cases e:(atI b.m b.data_.who).done+1=Z0 (atI b.m b.data_.who)
    .rw[(hef.1 e).2.2.2.2];omega
    .rw[(hef.2 e).2.2.2.1];omega
   .exact hm.tries
 .show Zet (if b.data_.resp=0 then (doG {b with data_:=Zh.z0} b.data_).1 else b.model)
  split
  .exact Yzu.1
  .exact h.model
 .have Yn:Zv b.conf i=true:=hi
  have Ke:=h.fly i Yn;show (atI (b.m.set b.data_.who.toNat (Jh (atI b.m b.data_.who))) i).beat - (atI (b.m.set b.data_.who.toNat (Jh (atI b.m b.data_.who))) i).done=K4 (Zgi {b with data_:=Zh.z0} b.data_) i;unfold K4 at Ke ⊢;show _=(if b.addr.live=true/\b.addr.who=i then (1:Int) else 0)+(if Zh.z0.live=true/\Zh.z0.who=i then 1 else 0);rw[hat i Yn];simp only[ZZf,false_and,if_false];by_cases e:i=b.data_.who
  .subst e
   rw[ZZj rfl];rw[ZZj (⟨hd,rfl⟩:b.data_.live=true/\b.data_.who=b.data_.who)] at Ke;by_cases e2:(atI b.m b.data_.who).done+1=Z0 (atI b.m b.data_.who)
   .rw[(hef.1 e2).2.2.1,(hef.1 e2).2.2.2.1,ZZi (λhx=>Y49 e2 hx.1 hx.2)]
    rfl
   .rw[(hef.2 e2).2.1,(hef.2 e2).2.2.1]
    omega
  .rw[ZZi e]
   rw[ZZi (λhx:b.data_.live=true/\b.data_.who=i=>e hx.2.symm)] at Ke;omega
 .have hA:=h.addr
  unfold K2 at hA ⊢;show if b.addr.live=true then _ else _
  by_cases hl:b.addr.live=true
  .rw[ZZj hl] at hA ⊢
   show b.addr.beat=(atI (b.m.set b.data_.who.toNat (Jh (atI b.m b.data_.who))) b.addr.who).beat - 1/\_;rw[hat _ (Zbg h hl)];split
   .rename_i e
    have e2:¬(atI b.m b.data_.who).done+1=Z0 (atI b.m b.data_.who):=λe2=>Y49 e2 hl e;rw[(hef.2 e2).2.1,<-e];exact hA
   .exact hA
  .rw[ZZi hl] at hA ⊢;exact hA
 .unfold Kj
  show if Zh.z0.live=true then _ else _
  rw[ZZi (by simp)];rfl
 .obtain⟨h1,h2⟩:=h.held
  show Zjo (Zgi {b with data_:=Zh.z0} b.data_);unfold Zjo;show (∀i,Zv b.conf i=true->(atI (b.m.set b.data_.who.toNat (Jh (atI b.m b.data_.who))) i).beat > 0->Ym (atI (b.m.set b.data_.who.toNat (Jh (atI b.m b.data_.who))) i)=true->(if b.holder=b.data_.who/\(atI b.m b.data_.who).done+1=Z0 (atI b.m b.data_.who) then -1 else b.holder)=i)/\
   (if (if b.holder=b.data_.who/\(atI b.m b.data_.who).done+1=Z0 (atI b.m b.data_.who) then -1 else b.holder)=-1 then (if b.holder=b.data_.who/\(atI b.m b.data_.who).done+1=Z0 (atI b.m b.data_.who) then 0 else b.held)=0 else Zv b.conf (if b.holder=b.data_.who/\(atI b.m b.data_.who).done+1=Z0 (atI b.m b.data_.who) then -1 else b.holder)=true/\Ym (atI (b.m.set b.data_.who.toNat (Jh (atI b.m b.data_.who))) (if b.holder=b.data_.who/\(atI b.m b.data_.who).done+1=Z0 (atI b.m b.data_.who) then -1 else b.holder))=true/\atI b.splits (if b.holder=b.data_.who/\(atI b.m b.data_.who).done+1=Z0 (atI b.m b.data_.who) then -1 else b.holder)=0/\(0<=(if b.holder=b.data_.who/\(atI b.m b.data_.who).done+1=Z0 (atI b.m b.data_.who) then 0 else b.held)/\(if b.holder=b.data_.who/\(atI b.m b.data_.who).done+1=Z0 (atI b.m b.data_.who) then 0 else b.held)<=b.conf.lockMost))
  have Zij:∀i,Zv b.conf i=true->(atI (b.m.set b.data_.who.toNat (Jh (atI b.m b.data_.who))) i).beat > 0->Ym (atI (b.m.set b.data_.who.toNat (Jh (atI b.m b.data_.who))) i)=true->b.holder=i/\¬(i=b.data_.who/\(atI b.m b.data_.who).done+1=Z0 (atI b.m b.data_.who)):=by
   intro i hi hx hk;rw[hat i hi] at hx hk;by_cases e:i=b.data_.who
   .rw[ZZj e] at hx hk
    by_cases e2:(atI b.m b.data_.who).done+1=Z0 (atI b.m b.data_.who)
    .rw[(hef.1 e2).2.2.1] at hx;omega
    .have e3:=hef.2 e2
     rw[e3.2.1] at hx;rw[Zt0 e3.1 e3.2.2.2.2.1] at hk;subst e;exact⟨h1 _ hi hx hk,λhy=>e2 hy.2⟩
   .rw[ZZi e] at hx hk
    exact⟨h1 i hi hx hk,λhy=>e hy.1⟩
  by_cases e:b.holder=b.data_.who/\(atI b.m b.data_.who).done+1=Z0 (atI b.m b.data_.who)
  .simp only[ZZj e,if_true]
   refine⟨λi hi hx hk=>?_,trivial⟩;have:=Zij i hi hx hk;exact absurd ⟨by rw[<-this.1];exact e.1,e.2⟩ this.2
  .simp only[ZZi e]
   refine⟨λi hi hx hk=>(Zij i hi hx hk).1,?_⟩;split
   .rename_i e2;rw[ZZj e2] at h2;exact h2
   .rename_i e2
    rw[ZZi e2] at h2;refine⟨h2.1,?_,h2.2.2.1,h2.2.2.2⟩;rw[hat _ h2.1];split
    .rename_i e3
     have e4:¬(atI b.m b.data_.who).done+1=Z0 (atI b.m b.data_.who):=λe4=>e ⟨e3,e4⟩;rw[Zt0 (hef.2 e4).1 (hef.2 e4).2.2.2.2.1,<-e3];exact h2.2.1
    .exact h2.2.1
 .show (∀d∈b.log++[Ygm {b with data_:=Zh.z0} b.data_],Z6a b.conf (b.now+1) d)/\(b.log++[Ygm {b with data_:=Zh.z0} b.data_]).Pairwise _
  refine⟨λd hx=>?_,?_⟩
  .rcases Var.1 hx with hx|hx
   .have:=h.log.1 d hx
    exact⟨⟨this.1.1,by have:=this.1.2;omega⟩,this.2⟩
   .rw[List.mem_singleton.1 hx]
    refine⟨⟨hn,by show b.now < b.now+1;omega⟩,hw,had.2.1,had.2.2.2,?_,hr⟩;show Xy (if b.data_.resp=0 then (doG {b with data_:=Zh.z0} b.data_).2.1 else 0) (atI (atI b.m b.data_.who).queue 0).size=true;split
    .exact Yzu.2.1
    .exact hz
  .rw[List.pairwise_append]
   refine⟨h.log.2,List.pairwise_singleton _ _,λx hx y hy=>?_⟩;rw[List.mem_singleton.1 hy];exact (h.log.1 x hx).1.2
theorem Y3d {c:Zl} (h:Wa c=true) (s:Zi) (k:Int):1<=Zib c s k/\Zib c s k<=c.maxSplit:=by
 have:=(Qk h).2.2.2;unfold Zib;omega
theorem Z9h {b:Za} (s:Zi) (hn:0<=b.now) (h:Yz b.now b):Yz (b.now+1) (Ya b s).1/\((Ya b s).2.1=true->(Ya b s).1.data_=Zh.z0):=by
 unfold Ya;by_cases hd:b.data_.live=false
 .rw[ZZj hd]
  refine⟨h.mono,λ_=>?_⟩;have:=h.data;unfold Kj at this;rw[ZZi (by simp[hd])] at this;exact this
 .have hd':b.data_.live=true:=by simpa using hd
  have Za5:=h.data;unfold Kj at Za5;rw[ZZj hd'] at Za5;rw[ZZi hd];by_cases hl:b.data_.left > 0
  .rw[ZZj hl]
   exact⟨(Yy8 h hd' hl).mono,λhx=>by cases hx⟩
  .have hl0:b.data_.left=0:=by have:=Za5.1.2.1;omega
   rw[ZZi hl];by_cases h2:b.data_.resp≠0/\b.data_.second=false
   .rw[ZZj h2]
    exact⟨(Yze h hd' hl0 h2.1).mono,λhx=>by cases hx⟩
   .rw[ZZi h2]
    have Z30:b.data_.resp≠0->b.addr.live=false:=λhr=>by
     have:b.data_.second=true:=by
      cases hs:b.data_.second with
      | true=>rfl
      | false=>exact absurd ⟨hr,hs⟩ h2
     exact (Za5.2.2.2 this).2.2
    have hw:=Qy h hd';have hm:=h.mst _ hw;by_cases h3:b.data_.resp=2
    .rw[ZZj h3]
     refine⟨?_,λ_=>?_⟩
     .refine (Yf9 h hd' (Z30 (by omega)) {atI b.m b.data_.who with tries:=(atI b.m b.data_.who).tries+1} b.splits rfl rfl rfl rfl ⟨?_,?_⟩ rfl (λi hi=>(h.mst i hi).split) λ_ h=>h).mono
      .have:=hm.right.tries;show 0<=(atI b.m b.data_.who).tries+1;omega
      .have:=Za5.2.1 h3;show (atI b.m b.data_.who).tries+1<=_;omega
     .unfold Wh;split
      .rfl
      .split<;>rfl
    .rw[ZZi h3]
     by_cases h4:b.data_.resp=3
     .rw[ZZj h4]
      have hsp:=Y3d h.conf s b.picks;refine⟨?_,λ_=>?_⟩
      .refine (Yf9 h hd' (Z30 (by omega)) {atI b.m b.data_.who with parted:=true} (b.splits.set b.data_.who.toNat (Zib b.conf s b.picks)) rfl rfl rfl rfl ⟨hm.right.tries,hm.tries⟩ (by simp) (λi hi=>?_) λh5 h6=>?_).mono
       .have hb:=We hw
        rw[Z8j _ hb.1 (by have:=h.sl;omega) (We hi).1];split
        .omega
        .exact (h.mst i hi).split
       .have hb:=We hw
        have hh:Zv b.conf b.holder=true:=by
         have:=h.held.2;rw[ZZi h5] at this;exact this.1
        rw[Z8j _ hb.1 (by have:=h.sl;omega) (We hh).1,ZZi (λe=>(Za5.2.2.1 h4).2 e.symm)];exact h6
      .unfold Wh;split
       .rfl
       .split<;>rfl
     .rw[ZZi h4]
      exact⟨Yu0 hn h hd' (by have:=Za5.1.2.2;omega) Z30,λ_=>rfl⟩
theorem Ze9 {n:Int} {b:Za} (h:Yz n b) (e:b.holder≠-1):Zv b.conf b.holder=true/\Ym (atI b.m b.holder)=true/\atI b.splits b.holder=0/\(0<=b.held/\b.held<=b.conf.lockMost):=by
 have:=h.held.2;rw[ZZi e] at this;exact this
theorem Yd2 {n:Int} {b:Za} (h:Yz n b):Yz n (Xg b):=by
 unfold Xg;split
 .rename_i hx
  obtain⟨hw,hlk,_,_⟩:=Ze9 h hx.1;have hb:=We hw;have hat:∀i,Zv b.conf i=true->atI (b.m.set b.holder.toNat {atI b.m b.holder with broken:=true}) i=if i=b.holder then {atI b.m b.holder with broken:=true} else atI b.m i:=λi hi=>h.at_m hw _ hi
  have hsm:∀i,Zv b.conf i=true->(atI (b.m.set b.holder.toNat {atI b.m b.holder with broken:=true}) i).beat=(atI b.m i).beat/\(atI (b.m.set b.holder.toNat {atI b.m b.holder with broken:=true}) i).done=(atI b.m i).done/\(atI (b.m.set b.holder.toNat {atI b.m b.holder with broken:=true}) i).tries=(atI b.m i).tries/\(atI (b.m.set b.holder.toNat {atI b.m b.holder with broken:=true}) i).parted=(atI b.m i).parted:=by
   intro i hi;rw[hat i hi];split
   .rename_i e;subst e;exact⟨rfl,rfl,rfl,rfl⟩
   .exact⟨rfl,rfl,rfl,rfl⟩
  refine⟨h.conf,?_,h.bl,h.sl,λi hi=>?_,h.arb,h.last,h.model,h.alive,h.dlive,λi hi=>?_,?_,?_,?_,h.log⟩
  .show (b.m.set b.holder.toNat _).length=_
   rw[Vbg];exact h.ml
  .have Yn:Zv b.conf i=true:=hi
   have hm:=h.mst i Yn;refine⟨?_,?_,hm.bucket,hm.split⟩
   .show Yv (atI (b.m.set b.holder.toNat {atI b.m b.holder with broken:=true}) i)
    rw[hat i Yn];split
    .have hr:=(h.mst _ hw).right
     exact⟨hr.len,hr.tries,hr.reqs,λhq=>absurd (show (atI b.m b.holder).queue=[] from hq) (Ypf hlk),hr.some⟩
    .exact hm.right
   .show (atI (b.m.set b.holder.toNat {atI b.m b.holder with broken:=true}) i).tries<=b.conf.maxRetry
    rw[(hsm i Yn).2.2.1];exact hm.tries
  .have Yn:Zv b.conf i=true:=hi
   show (atI (b.m.set b.holder.toNat {atI b.m b.holder with broken:=true}) i).beat - (atI (b.m.set b.holder.toNat {atI b.m b.holder with broken:=true}) i).done=K4 b i;rw[(hsm i Yn).1,(hsm i Yn).2.1];exact h.fly i Yn
  .have:=h.addr
   unfold K2 at this ⊢;show if b.addr.live=true then b.addr.beat=(atI (b.m.set b.holder.toNat {atI b.m b.holder with broken:=true}) b.addr.who).beat - 1/\_ else _
   by_cases hl:b.addr.live=true
   .rw[ZZj hl] at this ⊢
    rw[(hsm _ (Zbg h hl)).1];exact this
   .rw[ZZi hl] at this ⊢;exact this
  .have:=h.data
   unfold Kj at this ⊢;show if b.data_.live=true then _ else _
   by_cases hl:b.data_.live=true
   .rw[ZZj hl] at this ⊢
    have e:=hsm _ (Qy h hl);show (b.data_.beat=(atI (b.m.set b.holder.toNat {atI b.m b.holder with broken:=true}) b.data_.who).done/\_)/\(_->(atI (b.m.set b.holder.toNat {atI b.m b.holder with broken:=true}) b.data_.who).tries < _)/\(_->(atI (b.m.set b.holder.toNat {atI b.m b.holder with broken:=true}) b.data_.who).parted=false/\b.data_.who≠-1)/\_;rw[e.2.1,e.2.2.1,e.2.2.2];exact⟨this.1,this.2.1,λh3=>⟨(this.2.2.1 h3).1,by have:=We (Qy h hl);omega⟩,this.2.2.2⟩
   .rw[ZZi hl] at this ⊢;exact this
  .refine⟨λi hi hx2 hk=>?_,?_⟩
   .have Yn:Zv b.conf i=true:=hi
    have hx3:(atI (b.m.set b.holder.toNat {atI b.m b.holder with broken:=true}) i).beat > 0:=hx2;have hk3:Ym (atI (b.m.set b.holder.toNat {atI b.m b.holder with broken:=true}) i)=true:=hk;rw[hat i Yn] at hx3 hk3;split at hk3
    .simp[Ym] at hk3
    .rename_i e
     rw[ZZi e] at hx3;exact absurd (h.held.1 i Yn hx3 hk3).symm e
   .show if (-1:Int)=-1 then (0:Int)=0 else _
    rw[ZZj rfl]
 .exact h
theorem Zyz (b:Za):(Xg b).data_=b.data_/\(Xg b).addr=b.addr/\(Xg b).picks=b.picks/\(Xg b).now=b.now/\(Xg b).conf=b.conf/\(Xg b).log=b.log/\(Xg b).model=b.model:=by
 unfold Xg;split<;>exact⟨rfl,rfl,rfl,rfl,rfl,rfl,rfl⟩
theorem Yi9 {c:Zl} (h:Wa c=true) (s:Zi) (k:Int):0<=Zqs c s k/\Zqs c s k<=c.maxWait:=by
 have:=(Qk h).2.1;unfold Zqs;omega
theorem Y0d {n:Int} {b:Za} (h:Yz n b) (s:Zi) (hl:b.addr.live=true):(0<=(Zdh b s b.addr).2/\(Zdh b s b.addr).2<=b.conf.maxWait+2)/\(0<=(Zdh b s b.addr).1/\(Zdh b s b.addr).1<=3)/\
  ((Zdh b s b.addr).1=2->(atI b.m b.addr.who).tries < b.conf.maxRetry)/\((Zdh b s b.addr).1=3->(atI b.m b.addr.who).parted=false/\b.addr.who≠b.holder):=by
 have hw:=Zbg h hl;have hm:=(h.mst _ hw).right;have hbt:=Z9m h hl;have had:=Ypv hm hbt.1 hbt.2;have Yzu:=(Yfz (w:=(atI (atI b.m b.addr.who).queue 0).write) (v:=Zrg (atI b.m b.addr.who) b.addr.beat) h.model had.2.1).2.2;have hwt:=Yi9 h.conf s b.picks;have hlm:=(Qk h.conf).2.1;have hdo:(doG b b.addr).2.2=0\/(doG b b.addr).2.2=1:=Yzu;unfold Zdh;split
 .exact⟨by simp;omega,by simp,by simp,by simp⟩
 .refine⟨?_,?_,?_,?_⟩
  .simp only
   split<;>omega
  .simp only
   repeat' split
   all_goals omega
  .simp only
   split
   .rename_i h1;exactλ_=>h1.2.2
   .split
    .intro h2;omega
    .intro h2;omega
  .simp only
   split
   .intro h2;omega
   .split
    .rename_i h1;exactλ_=>h1.2.2
    .intro h2;omega
theorem Ydx {n:Int} {b:Za} (h:Yz n b) (s:Zi) (hd:b.data_=Zh.z0):Yz n (Q2 b s)/\(Q2 b s).addr=Zh.z0:=by
 unfold Q2;by_cases hl:b.addr.live=true
 .rw[ZZj hl]
  refine⟨?_,rfl⟩;have hw:=Zbg h hl;have ha:=Y0d h s hl;have hA:=h.addr;unfold K2 at hA;rw[ZZj hl] at hA;have hdl:b.data_.live=false:=by rw[hd]
  have Yip:(atI b.m b.addr.who).beat - (atI b.m b.addr.who).done=1:=by
   rw[h.fly _ hw];unfold K4;rw[ZZj ⟨hl,rfl⟩,hdl];simp
  refine⟨h.conf,h.ml,h.bl,h.sl,λi hi=>?_,h.arb,h.last,h.model,(λhx=>by cases hx),λ_=>h.alive hl,λi hi=>?_,?_,?_,h.held,h.log⟩
  .have hm:=h.mst i hi;exact⟨hm.right,hm.tries,hm.bucket,hm.split⟩
  .have Ke:=h.fly i hi
   rw[Ke];unfold K4;simp only[hdl,hl,ZZf,false_and,if_false,true_and];omega
  .unfold K2
   simp
  .unfold Kj
   show if b.addr.live=true then _ else _
   rw[ZZj hl];refine⟨⟨by show b.addr.beat=_;rw[hA.1];show (atI b.m b.addr.who).beat - 1=(atI b.m b.addr.who).done;omega,ha.1,ha.2.1⟩,ha.2.2.1,ha.2.2.2,λhs=>?_⟩;have:b.addr.second=true:=hs;rw[hA.2.2.2] at this;cases this
 .rw[ZZi hl]
  refine⟨h,?_⟩;have hA:=h.addr;unfold K2 at hA;rw[ZZi hl] at hA;exact hA
theorem Z5h (b:Za) (s:Zi):(Q2 b s).now=b.now/\(Q2 b s).conf=b.conf/\(Q2 b s).log=b.log/\(Q2 b s).model=b.model/\(Q2 b s).m=b.m/\(Q2 b s).splits=b.splits/\(Q2 b s).holder=b.holder/\b.picks<=(Q2 b s).picks/\(Q2 b s).picks<=b.picks+1:=by
 unfold Q2;split
 .exact⟨rfl,rfl,rfl,rfl,rfl,rfl,rfl,by show b.picks<=b.picks+1;omega,Vd8 _⟩
 .exact⟨rfl,rfl,rfl,rfl,rfl,rfl,rfl,Vd8 _,by omega⟩
theorem Zd2 (b:Za):(Qw b).length=b.m.length:=by simp[Qw]
theorem Zwz {n:Int} {b:Za} (h:Yz n b) {i:Int} (hi:Zv b.conf i=true):atI (Qw b) i=Ki b i:=by
 obtain⟨k,rfl,hk⟩:=Yv5 hi;have:=h.ml;rw[Qj (by rw[Zd2];omega)];simp[Qw]
structure Picked (n:Int) (b:Za) (p:Int×Int×Za):Prop where
 ok:Yz n p.2.2
 who:p.1=-1\/(Zv b.conf p.1=true/\Ki b p.1=true/\(1<=p.2.1/\p.2.1<=3))
 conf:p.2.2.conf=b.conf
 m:p.2.2.m=b.m
 splits:p.2.2.splits=b.splits
 holder:p.2.2.holder=b.holder
 held:p.2.2.held=b.held
 addr:p.2.2.addr=b.addr
 data:p.2.2.data_=b.data_
 model:p.2.2.model=b.model
 log:p.2.2.log=b.log
 last:p.2.2.last=b.last
 now:p.2.2.now=b.now
 picks:p.2.2.picks=b.picks
theorem Zws {n:Int} {b:Za} (h:Yz n b):Picked n b (Zaf b):=by
 unfold Zaf;split
 .rename_i hx
  exact⟨h,.inr ⟨(Ze9 h hx.1).1,hx.2,by simp⟩,rfl,rfl,rfl,rfl,rfl,rfl,rfl,rfl,rfl,rfl,rfl,rfl⟩
 .split
  .rename_i k hk
   have hk1:=List.find?_some hk;have hk2:=List.mem_of_find?_eq_some hk;rw[Vc4,h.ml] at hk2;simp only[Zaz,ZZg] at hk1;have hm:=mas (c:=b.conf) hk2;have hmb:=We hm;refine⟨?_,.inr ⟨hm,hk1.1,by simp⟩,rfl,rfl,rfl,rfl,rfl,rfl,rfl,rfl,rfl,rfl,rfl,rfl⟩;refine⟨h.conf,h.ml,by show (b.buckets.set k _).length=_;rw[Vbg];exact h.bl,h.sl,λi hi=>?_,h.arb,h.last,h.model,h.alive,h.dlive,h.fly,h.addr,h.data,h.held,h.log⟩;have hmi:=h.mst i hi;refine⟨hmi.right,hmi.tries,?_,hmi.split⟩;show Y8 (atI (b.buckets.set k (Zgo (atI b.buckets (k:Int)) (atI b.conf.masters (k:Int))).1) i) (atI b.conf.masters i)=true;have e:=Z8j (xs:=b.buckets) (w:=(k:Int)) (Zgo (atI b.buckets (k:Int)) (atI b.conf.masters (k:Int))).1 hmb.1 (by have:=h.bl;omega) (We hi).1;rw[Vbr] at e;rw[e];split
   .rename_i e2;subst e2;exact Y7k hmi.bucket (Zkf h.conf hi)
   .exact hmi.bucket
  .split
   .exact⟨h,.inl rfl,rfl,rfl,rfl,rfl,rfl,rfl,rfl,rfl,rfl,rfl,rfl,rfl⟩
   .have hp:=Y29 (wants:=Qw b) h.arb (by rw[Zd2,h.ml])
    refine⟨⟨h.conf,h.ml,h.bl,h.sl,λi hi=>?_,hp.1,h.last,h.model,h.alive,h.dlive,h.fly,h.addr,h.data,h.held,h.log⟩,?_,rfl,rfl,rfl,rfl,rfl,rfl,rfl,rfl,rfl,rfl,rfl,rfl⟩
    .have hmi:=h.mst i hi;exact⟨hmi.right,hmi.tries,hmi.bucket,hmi.split⟩
    .rcases hp.2 with hp2|hp2
     .exact .inl hp2
     .exact .inr ⟨hp2.1,by rw[<-Zwz h hp2.1];exact hp2.2,by simp⟩
theorem Yib {b:Za} {i:Int} (h:Ki b i=true):(atI b.m i).beat < Z0 (atI b.m i)/\atI b.splits i=0/\(b.holder=-1\/b.holder=i):=by
 simp only[Ki,Zp4,ZZg,Vb4,ZZl] at h;exact⟨h.1,h.2.1,h.2.2⟩
theorem Yza (m:Zb):(X6 m).queue=m.queue/\(X6 m).done=m.done/\(X6 m).tries=m.tries/\(X6 m).parted=m.parted/\(X6 m).broken=m.broken:=by
 unfold X6;split<;>exact⟨rfl,rfl,rfl,rfl,rfl⟩
theorem Y6n {n:Int} {b:Za} (h:Yz n b) (ha:b.addr=Zh.z0) (Z30:b.data_.second=false) {who by_:Int} (hw:Zv b.conf who=true) (Yiq:Ki b who=true) (hby:1<=by_/\by_<=3):Yz n (Z6x b who by_):=by
 obtain⟨w1,w2,w3⟩:=Yib Yiq;have hmw:=(h.mst _ hw).right;have hal:b.addr.live=false:=by rw[ha]
 have hfw:=h.fly _ hw;have hle:(atI b.m who).beat - (atI b.m who).done<=1:=by
  rw[hfw];unfold K4;rw[hal];simp only[ZZf,false_and,if_false];split<;>omega
 have hbt:(X6 (atI b.m who)).beat=(atI b.m who).beat+1:=by
  unfold X6;rw[ZZj ⟨w1,by omega⟩]
 have hs:=Yza (atI b.m who);have hat:∀i,Zv b.conf i=true->atI (b.m.set who.toNat (X6 (atI b.m who))) i=if i=who then X6 (atI b.m who) else atI b.m i:=λi hi=>h.at_m hw _ hi
 have hsm:∀i,Zv b.conf i=true->(atI (b.m.set who.toNat (X6 (atI b.m who))) i).queue=(atI b.m i).queue/\(atI (b.m.set who.toNat (X6 (atI b.m who))) i).done=(atI b.m i).done/\(atI (b.m.set who.toNat (X6 (atI b.m who))) i).tries=(atI b.m i).tries/\(atI (b.m.set who.toNat (X6 (atI b.m who))) i).parted=(atI b.m i).parted/\(atI (b.m.set who.toNat (X6 (atI b.m who))) i).broken=(atI b.m i).broken:=λi hi=>by
  rw[hat i hi];split
  .rename_i e;subst e;exact hs
  .exact⟨rfl,rfl,rfl,rfl,rfl⟩
 have hmb:=We hw;refine⟨h.conf,?_,h.bl,h.sl,λi hi=>?_,h.arb,.inr hw,h.model,λ_=>⟨hw,hby,w2⟩,h.dlive,λi hi=>?_,?_,?_,?_,h.log⟩
 .show (b.m.set who.toNat _).length=_
  rw[Vbg];exact h.ml
 .have Yn:Zv b.conf i=true:=hi
  have hm:=h.mst i Yn;refine⟨?_,?_,hm.bucket,hm.split⟩
  .show Yv (atI (b.m.set who.toNat (X6 (atI b.m who))) i)
   rw[hat i Yn];split
   .exact Yuv hmw
   .exact hm.right
  .show (atI (b.m.set who.toNat (X6 (atI b.m who))) i).tries<=_
   rw[(hsm i Yn).2.2.1];exact hm.tries
 .have Yn:Zv b.conf i=true:=hi
  have Ke:=h.fly i Yn;show (atI (b.m.set who.toNat (X6 (atI b.m who))) i).beat - (atI (b.m.set who.toNat (X6 (atI b.m who))) i).done=K4 (Z6x b who by_) i;rw[(hsm i Yn).2.1,hat i Yn];unfold K4 at Ke ⊢;rw[hal] at Ke;simp only[ZZf,false_and,if_false] at Ke;show _=(if (true:Bool)=true/\who=i then (1:Int) else 0)+(if b.data_.live=true/\b.data_.who=i then 1 else 0);simp only[true_and];by_cases e:i=who
  .subst e
   rw[ZZj rfl,ZZj rfl,hbt];omega
  .rw[ZZi e,ZZi (λe2=>e e2.symm)];omega
 .unfold K2
  show if (true:Bool)=true then (atI b.m who).beat=(atI (b.m.set who.toNat (X6 (atI b.m who))) who).beat - 1/\_ else _
  rw[ZZj rfl,hat _ hw,ZZj rfl,hbt];exact⟨by omega,rfl,rfl,rfl⟩
 .have hD:=h.data
  unfold Kj at hD ⊢;show if b.data_.live=true then _ else _
  by_cases hl:b.data_.live=true
  .rw[ZZj hl] at hD ⊢
   have e:=hsm _ (Qy h hl);show (b.data_.beat=(atI (b.m.set who.toNat (X6 (atI b.m who))) b.data_.who).done/\_)/\(_->(atI (b.m.set who.toNat (X6 (atI b.m who))) b.data_.who).tries < _)/\(_->(atI (b.m.set who.toNat (X6 (atI b.m who))) b.data_.who).parted=false/\b.data_.who≠(if Ym (atI b.m who)=true/\b.holder=-1 then who else b.holder))/\_;rw[e.2.1,e.2.2.1,e.2.2.2.1];refine⟨hD.1,hD.2.1,λh3=>⟨(hD.2.2.1 h3).1,?_⟩,λh4=>?_⟩
   .split
    .rename_i e2
     intro e3;have hp:=Zu2 h hl;have hr:=Jd (h.mst _ (Qy h hl)).right;have:=h.held.1 _ (Qy h hl) (by omega) (by rw[e3];exact e2.1);omega
    .exact (hD.2.2.1 h3).2
   .have:b.data_.second=true:=h4
    rw[Z30] at this;cases this
  .rw[ZZi hl] at hD ⊢;exact hD
 .have hh:=h.held
  unfold Zjo at hh ⊢;show (∀i,Zv b.conf i=true->(atI (b.m.set who.toNat (X6 (atI b.m who))) i).beat > 0->Ym (atI (b.m.set who.toNat (X6 (atI b.m who))) i)=true->(if Ym (atI b.m who)=true/\b.holder=-1 then who else b.holder)=i)/\
   (if (if Ym (atI b.m who)=true/\b.holder=-1 then who else b.holder)=-1 then (if Ym (atI b.m who)=true/\b.holder=-1 then 0 else b.held)=0 else Zv b.conf (if Ym (atI b.m who)=true/\b.holder=-1 then who else b.holder)=true/\Ym (atI (b.m.set who.toNat (X6 (atI b.m who))) (if Ym (atI b.m who)=true/\b.holder=-1 then who else b.holder))=true/\atI b.splits (if Ym (atI b.m who)=true/\b.holder=-1 then who else b.holder)=0/\(0<=(if Ym (atI b.m who)=true/\b.holder=-1 then 0 else b.held)/\(if Ym (atI b.m who)=true/\b.holder=-1 then 0 else b.held)<=b.conf.lockMost))
  have hlk:∀i,Zv b.conf i=true->Ym (atI (b.m.set who.toNat (X6 (atI b.m who))) i)=Ym (atI b.m i):=λi hi=>Zt0 (hsm i hi).1 (hsm i hi).2.2.2.2;have hlm:=(Qk h.conf).2.2.1;have Zij:∀i,Zv b.conf i=true->i≠who->(atI (b.m.set who.toNat (X6 (atI b.m who))) i).beat > 0->Ym (atI b.m i)=true->False:=by
   intro i hi e hx hk;rw[hat i hi,ZZi e] at hx;have:=hh.1 i hi hx hk;have:=We hi;omega
  by_cases e:Ym (atI b.m who)=true/\b.holder=-1
  .simp only[ZZj e]
   refine⟨λi hi hx hk=>?_,?_⟩
   .by_cases e2:i=who
    .exact e2.symm
    .rw[hlk i hi] at hk
     exact (Zij i hi e2 hx hk).elim
   .rw[ZZi (by omega)]
    exact⟨hw,by rw[hlk _ hw];exact e.1,w2,by omega,by omega⟩
  .simp only[ZZi e]
   refine⟨λi hi hx hk=>?_,?_⟩
   .rw[hlk i hi] at hk
    by_cases e2:i=who
    .subst e2
     rcases w3 with w3|w3
     .exact absurd ⟨hk,w3⟩ e
     .exact w3
    .exact (Zij i hi e2 hx hk).elim
   .have h2:=hh.2
    split
    .rename_i e2;rw[ZZj e2] at h2;exact h2
    .rename_i e2
     rw[ZZi e2] at h2;exact⟨h2.1,by rw[hlk _ h2.1];exact h2.2.1,h2.2.2⟩
theorem Y3b {n:Int} {b:Za} (h:Yz n b) (ha:b.addr=Zh.z0) (Z30:b.data_.second=false):Yz n (Je b).2:=by
 have hp:=Zws h;unfold Je;split
 .exact hp.ok
 .rename_i hx
  rcases hp.who with h1|h1
  .exact absurd (show (Zaf b).1 < 0 by rw[h1];decide) hx
  .refine Y6n hp.ok (by rw[hp.addr];exact ha) (by rw[hp.data];exact Z30) (by rw[hp.conf];exact h1.1) ?_ h1.2.2
   have:=h1.2.1;unfold Ki at this ⊢;rw[hp.m,hp.splits,hp.holder];exact this
theorem Z6p {n:Int} {b:Za} (h:Yz n b):(Je b).2.now=b.now/\(Je b).2.conf=b.conf/\(Je b).2.log=b.log/\(Je b).2.model=b.model/\(Je b).2.picks=b.picks/\(Je b).2.data_=b.data_:=by
 have hp:=Zws h;unfold Je;split
 .exact⟨hp.now,hp.conf,hp.log,hp.model,hp.picks,hp.data⟩
 .exact⟨hp.now,hp.conf,hp.log,hp.model,hp.picks,hp.data⟩
theorem Y3o {n:Int} {b:Za} (h:Yz n b) (s:Zi) (hd:b.data_=Zh.z0):Yz n (Ww b s).2/\(Ww b s).2.now=b.now/\b.picks<=(Ww b s).2.picks/\(Ww b s).2.picks<=b.picks+1/\(Ww b s).2.conf=b.conf/\(Ww b s).2.log=b.log/\(Ww b s).2.model=b.model:=by
 have h1:=Yd2 h;have e1:=Zyz b;have h2:=Ydx h1 s (by rw[e1.1];exact hd);have e2:=Z5h (Xg b) s;have Z30:(Q2 (Xg b) s).data_.second=false:=by
  unfold Q2;split
  .rename_i hl
   have hA:=h1.addr;unfold K2 at hA;rw[ZZj hl] at hA;exact hA.2.2.2
  .rw[e1.1,hd]
 have h3:=Y3b h2.1 h2.2 Z30;have e3:=Z6p h2.1;unfold Ww;exact⟨h3,by rw[e3.1,e2.1,e1.2.2.2.1],by rw[e3.2.2.2.2.1,<-e1.2.2.1];exact e2.2.2.2.2.2.2.2.1,by rw[e3.2.2.2.2.1,<-e1.2.2.1];exact e2.2.2.2.2.2.2.2.2,by rw[e3.2.1,e2.2.1,e1.2.2.2.2.1],by rw[e3.2.2.1,e2.2.2.1,e1.2.2.2.2.2.1],by rw[e3.2.2.2.1,e2.2.2.2.1,e1.2.2.2.2.2.2]⟩
theorem Y2p (b:Za):(Xj b).now=b.now/\(Xj b).conf=b.conf/\(Xj b).picks=b.picks/\(Xj b).log=b.log/\(Xj b).model=b.model/\(Xj b).m=b.m/\(Xj b).addr=b.addr/\(Xj b).data_=b.data_/\(Xj b).holder=b.holder:=⟨rfl,rfl,rfl,rfl,rfl,rfl,rfl,rfl,rfl⟩
theorem Y2l (b:Za):(Jt b).now=b.now/\(Jt b).conf=b.conf/\(Jt b).picks=b.picks/\(Jt b).log=b.log/\(Jt b).model=b.model/\(Jt b).m=b.m/\(Jt b).addr=b.addr/\(Jt b).data_=b.data_/\(Jt b).holder=b.holder:=by
 unfold Jt;split<;>exact⟨rfl,rfl,rfl,rfl,rfl,rfl,rfl,rfl,rfl⟩
theorem Z8f (b:Za) (s:Zi):(Ku b s).now=b.now/\(Ku b s).conf=b.conf/\(Ku b s).picks=b.picks/\(Ku b s).log=b.log/\(Ku b s).model=b.model/\(Ku b s).addr=b.addr/\(Ku b s).data_=b.data_/\(Ku b s).holder=b.holder:=by
 have h1:=Y2l (Xj (Xw b (Zbd s b.now)));have h2:=Y2p (Xw b (Zbd s b.now));have h3:=Zmd b (Zbd s b.now);unfold Ku;refine⟨?_,?_,?_,?_,?_,?_,?_,?_⟩
 .rw[h1.1,h2.1,h3.2.1]
 .rw[h1.2.1,h2.2.1,h3.1]
 .rw[h1.2.2.1,h2.2.2.1,h3.2.2.1]
 .rw[h1.2.2.2.1,h2.2.2.2.1,h3.2.2.2.1]
 .rw[h1.2.2.2.2.1,h2.2.2.2.2.1,h3.2.2.2.2.1]
 .rw[h1.2.2.2.2.2.2.1,h2.2.2.2.2.2.2.1,h3.2.2.2.2.2.2.2.1]
 .rw[h1.2.2.2.2.2.2.2.1,h2.2.2.2.2.2.2.2.1,h3.2.2.2.2.2.2.2.2.1]
 .rw[h1.2.2.2.2.2.2.2.2,h2.2.2.2.2.2.2.2.2,h3.2.2.2.2.2.1]
theorem Yjx {b:Za} (h:Zm2 b) (s:Zi):Yz b.now (Ku b s):=Yyt (Z6h (Zsm h.i _))
theorem Zyl (b:Za) (x:Zh):(Wh b x).now=b.now/\(Wh b x).picks=b.picks/\(Wh b x).conf=b.conf/\(Wh b x).log=b.log/\(Wh b x).model=b.model:=by
 unfold Wh;split
 .exact⟨rfl,rfl,rfl,rfl,rfl⟩
 .split<;>exact⟨rfl,rfl,rfl,rfl,rfl⟩
theorem Z5m (b:Za) (s:Zi):(Ya b s).1.now=b.now/\(Ya b s).1.picks=b.picks/\(Ya b s).1.conf=b.conf:=by
 unfold Ya
 repeat' split
 all_goals first
  | exact⟨rfl,rfl,rfl⟩
  | exact⟨(Zyl _ _).1,(Zyl _ _).2.1,(Zyl _ _).2.2.1⟩
theorem Y61 {b:Za} (h:Zm2 b) (s:Zi) (hn:b.now < 4000):Zm2 (Zkz b s).1/\(Zkz b s).1.now=b.now+1/\(Zkz b s).1.conf=b.conf:=by
 have h1:=Yjx h s;have e1:=Z8f b s;have hI:Yz (Ku b s).now (Ku b s):=by rw[e1.1];exact h1
 have h2:=Z9h s (by rw[e1.1];exact h.now.1) hI;have e2:=Z5m (Ku b s) s;have hp:=h.picks;have hnow:=h.now;unfold Zkz;rw[e1.1] at h2;by_cases hr:(Ya (Ku b s) s).2.1=true
 .rw[ZZj hr]
  have h3:=Y3o h2.1 s (h2.2 hr);refine⟨?_,rfl,by show (Ww _ s).2.conf=_;rw[h3.2.2.2.2.1,e2.2.2,e1.2.1]⟩;have h4:=h3.1;have e3:(Ya (Ku b s) s).1.picks=b.picks:=by rw[e2.2.1,e1.2.2.1]
  have h5:=h3.2.2.1;have h6:=h3.2.2.2.1;generalize (Ww (Ya (Ku b s) s).1 s).2=r at h4 h5 h6 ⊢;exact⟨h4.conf,⟨by show 0<=b.now+1;omega,by show b.now+1<=4000;omega⟩,h4.ml,h4.bl,h4.sl,λi hi=>⟨(h4.mst i hi).right,(h4.mst i hi).tries,(h4.mst i hi).bucket,(h4.mst i hi).split⟩,h4.arb,h4.last,h4.model,⟨by show 0<=r.picks;omega,by show r.picks<=b.now+1;omega⟩,h4.alive,h4.dlive,h4.fly,h4.addr,h4.data,h4.held,h4.log⟩
 .rw[ZZi hr]
  refine⟨?_,rfl,by show (Ya _ s).1.conf=_;rw[e2.2.2,e1.2.1]⟩;have h4:=h2.1;have e3:(Ya (Ku b s) s).1.picks=b.picks:=by rw[e2.2.1,e1.2.2.1]
  generalize (Ya (Ku b s) s).1=r at h4 e3 ⊢;exact⟨h4.conf,⟨by show 0<=b.now+1;omega,by show b.now+1<=4000;omega⟩,h4.ml,h4.bl,h4.sl,λi hi=>⟨(h4.mst i hi).right,(h4.mst i hi).tries,(h4.mst i hi).bucket,(h4.mst i hi).split⟩,h4.arb,h4.last,h4.model,⟨by show 0<=r.picks;omega,by show r.picks<=b.now+1;omega⟩,h4.alive,h4.dlive,h4.fly,h4.addr,h4.data,h4.held,h4.log⟩
structure Zi.sm (s:Zi):Prop where
 posts:s.posts.length < 1048577
 reqs:∀p∈s.posts,p.req.sm
 waits:s.waits.length < 1048577
 says:s.says.length < 1048577
 wmin:∀w∈s.waits,-9223372036854775808<=w/\w < 9223372036854775808
theorem Zts (l:List Int) (k:Int) (hl:l.length < 1048577):Zke l k=some (Ziu l k):=by
 unfold Zke Zlg Ziu;by_cases h:l=[]
 .simp[h]
 .have h1:0 < l.length:=Vao.2 h
  rw[ZZi (by simpa using h)];by_cases h2:k < 0
  .simp[h2]
  .have h3:0<=k % (l.length:Int):=Vc0 _ (by omega)
   have h4:k % (l.length:Int) < (l.length:Int):=Vcn _ (by omega);rw[Zw4 (by omega),ZZa,Zek (by omega),Xr h3 h4];simp[h,h2]
theorem Z8i (l:List Int) (k:Int) (hl:l.length < 1048577):Zzs l k=some (Ziu l k):=by
 rw[<-Zts l k hl];rfl
theorem Yn6 {l:List Int} {k:Int} (h:∀w∈l,-9223372036854775808<=w/\w < 9223372036854775808):-9223372036854775808<=Ziu l k/\Ziu l k < 9223372036854775808:=by
 unfold Ziu;split
 .omega
 .rename_i hx
  have h1:l≠[]:=λe=>hx (.inl e);have h2:0 < l.length:=Vao.2 h1;exact h _ (Zj5 (Vc0 _ (by omega)) (Vcn _ (by omega)))
theorem Yst (c:Zl) {s:Zi} (k:Int) (hs:s.sm):Zx5 c s k=some (Zqs c s k):=by
 unfold Zx5 Zqs;rw[Zts _ _ hs.waits,ZZa,Zux,Zcn]
theorem Yt5 (c:Zl) {s:Zi} (k:Int) (hs:s.sm):Zx7 c s k=some (Zqs c s k):=by
 unfold Zx7 Zqs;rw[Z8i _ _ hs.waits,ZZa,Zux,Zcn,Vdn]
theorem Yus {s:Zi} (k:Int) (hs:s.sm):Zx8 s k=some (Zhu s k):=by
 unfold Zx8 Zhu;rw[Zts _ _ hs.says,ZZa];by_cases h1:Ziu s.says k=2
 .simp[h1]
 .by_cases h2:Ziu s.says k=3<;>simp[h1,h2]
theorem Yuj {s:Zi} (k:Int) (hs:s.sm):Zyp s k=some (Zhu s k):=by
 unfold Zyp Zhu;rw[Z8i _ _ hs.says,ZZa];by_cases h1:Ziu s.says k=2
 .simp[h1]
 .by_cases h2:Ziu s.says k=3<;>simp[h1,h2]
theorem Yop (c:Zl) {s:Zi} (k:Int) (hs:s.sm):Zwb c s k=some (Zib c s k):=by
 have h:=Yn6 (k:=k) hs.wmin;unfold Zwb Zib;rw[Zts _ _ hs.waits,ZZa,Zux,Zcn,Zux,Zcn,Ys (by omega) (by omega)]
theorem Yp9 (c:Zl) {s:Zi} (k:Int) (hs:s.sm):Zwc c s k=some (Zib c s k):=by
 have h:=Yn6 (k:=k) hs.wmin;unfold Zwc Zib;rw[Z8i _ _ hs.waits,ZZa,Zux,Zcn,Zcn,Ys (by omega) (by omega)]
 congr 1
 omega
theorem Yci {α:Type} (p:α->Bool) (xs:List α) (k:Nat) (hk:k < xs.length):(xs.take (k+1)).filter p=(xs.take k).filter p++(if p xs[k] then [xs[k]] else []):=by
 rw[List.take_succ_eq_append_getElem hk,Vc1];cases hq:p xs[k]<;>simp[hq]
theorem Ypa (s:Zi) (t:Int) (hs:s.sm):Zv0 s t=some (Zbd s t):=by
 unfold Zv0 Zbd;have hp:=hs.posts;refine Zdj (σ:=List Zm) (n:=s.posts.length) (by omega) (λk=>(s.posts.take k).filter λp=>decide (p.at_=t)) (B:=Zjl s t) (L:=Zlx s t) (λm s i=>rfl) (λk hk κ=>?_) λκ=>?_
 .unfold Zjl
  have Yp:((s.posts.take k).filter λp=>decide (p.at_=t)).length<=k:=Vb6 (Vbt ..) (by rw[Vbv];omega);rw[ZZj (by simpa using hk),Xu hk,ZZa,Yci _ _ _ hk,Z91 _ (hs.reqs _ (Vas hk)),ZZa];by_cases e:s.posts[k].at_=t
  .rw[ZZj (by simpa using e),Qu (by simp only[Vag,Va6];omega) (by simp only[Vag,Va6];omega),ZZa,ZZj (decide_eq_true e)]
  .rw[ZZi (by simpa using e),ZZi (by simpa using e),Vb3]
 .unfold Zjl
  rw[ZZi (by simp),Vby]
theorem Yqy (s:Zi) (t:Int) (hs:s.sm):Zvc s t=some (Zbd s t):=by
 unfold Zvc Zbd;have hp:=hs.posts;refine Zdj (σ:=List Zm) (n:=s.posts.length) (by omega) (λk=>(s.posts.take k).filter λp=>decide (p.at_=t)) (B:=Zjr s t) (L:=Zk9 s t) (λm s i=>rfl) (λk hk κ=>?_) λκ=>?_
 .unfold Zjr
  have Yp:((s.posts.take k).filter λp=>decide (p.at_=t)).length<=k:=Vb6 (Vbt ..) (by rw[Vbv];omega);rw[ZZj (by simpa using hk),Xu hk,ZZa,Yci _ _ _ hk,Z8q _ (hs.reqs _ (Vas hk)),ZZa];by_cases e:s.posts[k].at_=t
  .rw[ZZj (by simpa using e),Qu (by simp only[Vag,Va6];omega) (by simp only[Vag,Va6];omega),ZZa,ZZj (decide_eq_true e)]
  .rw[ZZi (by simpa using e),ZZi (by simpa using e),Vb3]
 .unfold Zjr
  rw[ZZi (by simp),Vby]
theorem Ypi {s:Zi} (hs:s.sm) (t:Int):(Zbd s t).length < 1048577/\∀p∈Zbd s t,p.req.sm:=by
 have hp:=hs.posts;refine⟨Nat.lt_of_le_of_lt (Vbt ..) hp,λp hx=>hs.reqs p ?_⟩;unfold Zbd at hx;exact (Vb5.1 hx).1
theorem Z8y (b:Za) (ps:List Zm) (k:Nat) (hk:k < ps.length):Xw b (ps.take (k+1))=Kv (Xw b (ps.take k)) ps[k]:=by
 unfold Xw;rw[List.take_succ_eq_append_getElem hk,List.foldl_append];rfl
theorem Ylj (c:Zl) (h:c.masters.length < 1048577):Zvd c=some c/\Zyj c=some c:=by
 unfold Zvd Zai Zyj;rw[Qu (by simp;omega) (by simp;omega)];exact⟨rfl,rfl⟩
theorem Ypp (xs:List Zn) (h:xs.length < 1048577):X8 56 [] xs=some xs:=by
 rw[Qu (by simp;omega) (by simp;omega)];rfl
theorem Yoc (xs:List Zc) (h:xs.length < 1048577):X8 16 [] xs=some xs:=by
 rw[Qu (by simp;omega) (by simp;omega)];rfl
theorem Yc8 (b:Za) (hs:b.sm):Ztl b=some b:=by
 unfold Ztl;rw[(Ylj b.conf hs.conf).1,ZZa];have:=hs.ml;refine (Zdj (σ:=Za×List Zb) (n:=b.m.length) (by omega) (λk=>(b,b.m.take k)) (B:=λκ s i=>Zkt b (λx y i=>κ (x,y) i) s.1 s.2 i) (L:=λm s i=>Zhv b m s.1 s.2 i) (λm s i=>rfl) (λk hk κ=>?_) λκ=>?_:Zhv b FU b [] 0=some b)
 .unfold Zkt
  have Yp:(b.m.take k).length=k:=by rw[Vbv];omega
  simp only;rw[ZZj (by simpa using hk),Xu hk,ZZa,Zp7 _ (hs.mst _ (Vas hk)),ZZa,Qu (by simp only[Vag,Va6];omega) (by simp only[Vag,Va6];omega),ZZa,<-List.take_succ_eq_append_getElem hk]
 .unfold Zkt Js Zbb
  simp only;rw[ZZi (by simp),Yoc _ hs.bl,ZZa,Zu0 _ hs.sl,ZZa,Zxn _ hs.model,ZZa,Ypp _ hs.log,ZZa,Vby]
theorem Z88 (b:Za) (hs:b.sm):Zp2 b=some b:=by
 unfold Zp2;rw[(Ylj b.conf hs.conf).2,ZZa];have:=hs.ml;refine (Zdj (σ:=Za) (n:=b.m.length) (by omega) (λk=>{b with m:=b.m.take k}) (B:=Zjm b) (L:=Zf1 b) (λm s i=>rfl) (λk hk κ=>?_) λκ=>?_:Zf1 b FU {b with m:=[]} 0=some b)
 .unfold Zjm
  have Yp:(b.m.take k).length=k:=by rw[Vbv];omega
  simp only;rw[ZZj (by simpa using hk),Xu hk,ZZa,Zmr _ (hs.mst _ (Vas hk)),ZZa,Qu (by simp only[Vag,Va6];omega) (by simp only[Vag,Va6];omega),ZZa,<-List.take_succ_eq_append_getElem hk]
 .unfold Zjm
  simp only;rw[ZZi (by simp),Yoc _ hs.bl,ZZa,Z4d _ hs.sl,ZZa,Ydh _ hs.model,ZZa,Ypp _ hs.log,ZZa,Vby]
theorem Ya4 {c:Zl} {n:Int} (hn:n<=4001) {l:List Zn} (h:(∀d∈l,Z6a c n d)/\l.Pairwise λx y=>x.cycle < y.cycle):l.length<=4001:=by
 have key:∀(l:List Zn) (a:Int),(∀d∈l,a<=d.cycle/\d.cycle < n)->(l.Pairwise λx y=>x.cycle < y.cycle)->l≠[]->(l.length:Int)<=n - a:=by
  intro l
  induction l with
  | nil=>intro a _ _ h;exact absurd rfl h
  | cons x xs ih=>
   intro a h1 h2 _;have h3:=h1 x (Vaa ..);by_cases hx:xs=[]
   .subst hx;simp;omega
   .have h4:=List.pairwise_cons.1 h2
    have:=ih (x.cycle+1) (λd hd=>⟨by have:=h4.1 d hd;omega,(h1 d (Vac _ hd)).2⟩) h4.2 hx;simp only[Vag];omega
 by_cases hx:l=[]
 .subst hx;simp
 .have:=key l 0 (λd hd=>(h.1 d hd).1) h.2 hx
  omega
theorem Yz.sm {n:Int} {b:Za} (h:Yz n b) (hn:n<=4001):b.sm:=by
 have h1:=Zcg h.conf;have h2:=h.ml;have h3:=h.bl;have h4:=h.sl;have h5:=Ya4 hn h.log;refine⟨h1,by omega,λx hx=>?_,by omega,by omega,h.model.sm,by omega⟩;obtain⟨k,hk,rfl⟩:=Vbs hx;have:=(h.mst (k:Int) (mas (by omega))).right.sm
 rwa [Qj hk] at this
theorem Zm2.sm {b:Za} (h:Zm2 b):b.sm:=h.i.sm (by have:=h.now;omega)
section
variable {n:Int} {b:Za} {s:Zi}
theorem Z3j (x:Zh) (hc:Wa b.conf=true) (hw:Zv b.conf x.who=true) (hml:b.m.length=b.conf.masters.length) (hbl:b.buckets.length=b.conf.masters.length) (hr:Yv (atI b.m x.who)) (har:Za4 b.arb b.conf=true):Zem b x=some (Wh b x):=by
 obtain⟨ok,hbk⟩:=Ynz hr;unfold Zem Wh;rw[Wf hml hw,ZZa,hbk,ZZa,Wz,ZZa,Ya8 hbl hw,ZZa,Z2o hw,ZZa,Ygi _ (Zkf hc hw),ZZa,Wz,ZZa,Yp2 _ _ _ har,ZZa];by_cases h1:x.by_=1
 .simp[h1]
 .by_cases h2:x.by_=2<;>simp[h1,h2]
theorem Z3t (x:Zh) (hc:Wa b.conf=true) (hw:Zv b.conf x.who=true) (hml:b.m.length=b.conf.masters.length) (hbl:b.buckets.length=b.conf.masters.length) (hr:Yv (atI b.m x.who)) (har:Za4 b.arb b.conf=true):Zki b x=some (Wh b x):=by
 obtain⟨ok,hbk⟩:=Yqv hr;unfold Zki Wh;rw[Wf hml hw,ZZa,hbk,ZZa,Wz,ZZa,Ya8 hbl hw,ZZa,Z2o hw,ZZa,Yfx _ (Zkf hc hw),ZZa,Wz,ZZa,Ypc _ _ _ har,ZZa];by_cases h1:x.by_=1
 .simp[h1]
 .by_cases h2:x.by_=2<;>simp[h1,h2]
theorem Ytk {m:Zb} {k:Int} (h:Yv m) (hq:m.queue≠[]) (h0:0<=k) (h1:k < Z0 m):Zoc m k=some (Zrg m k):=by
 have hl:0 < m.queue.length:=Vao.2 hq;unfold Zoc Zrg;rw[Xr (xs:=m.queue) (by omega) (by omega),ZZa];by_cases hw:(atI m.queue 0).write=true
 .have:=Ylq h h0 h1 hw
  rw[ZZj hw,ZZj hw,Xr this.1 this.2];rfl
 .rw[ZZi hw,ZZi hw]
theorem Yg9 {m:Zb} {k:Int} (h:Yv m) (hq:m.queue≠[]) (h0:0<=k) (h1:k < Z0 m):Zmq (atI m.queue 0) k=some (Zrg m k):=by
 unfold Zmq Zrg;by_cases hw:(atI m.queue 0).write=true
 .have:=Ylq h h0 h1 hw
  rw[ZZi (by simp[hw]),ZZj hw,Xr this.1 this.2];rfl
 .rw[ZZj (by simpa using hw),ZZi hw]
theorem Zrf {m:Zb} {k:Int} (h0:0<=k) (h1:k < Z0 m):m.queue≠[]:=by
 intro hq;unfold Z0 at h1;rw[ZZj hq] at h1;omega
theorem Zw1 {m:Zb} (hq:m.queue≠[]):idx m.queue 0=some (atI m.queue 0):=by
 have hl:0 < m.queue.length:=Vao.2 hq;exact Xr (by omega) (by omega)
theorem Yvt (x:Zh) (hw:Zv b.conf x.who=true) (hml:b.m.length=b.conf.masters.length) (hr:Yv (atI b.m x.who)) (hm:Zet b.model) (h0:0<=x.beat) (h1:x.beat < Z0 (atI b.m x.who)):Zt7 b x=some (doG b x):=by
 have hq:=Zrf h0 h1;unfold Zt7 doG;rw[Wf hml hw,ZZa,Zw1 hq,ZZa,Zeo _ hr,ZZa,Ytk hr hq h0 h1,ZZa,Yo9 _ _ _ _ hm];rfl
theorem Ybs {m:Zb} (h:Yv m) (hp:m.beat - m.done≥1):((Jh m).queue.length:Int) < (m.queue.length:Int)↔m.done+1=Z0 m:=by
 have hq:=Zg4 h (by omega);have hl:0 < m.queue.length:=Vao.2 hq;have hf:=Z9o h hp;by_cases e:m.done+1=Z0 m
 .rw[(hf.1 e).2.1];simp[e];omega
 .rw[(hf.2 e).1];simp[e]
theorem Ypy {m:Zb} (h:Yv m) (hp:m.beat - m.done≥1):(Jh m).done=0↔m.done+1=Z0 m:=by
 have hb:=Jd h;have hf:=Z9o h hp;by_cases e:m.done+1=Z0 m
 .rw[(hf.1 e).2.2.2.1];simp[e]
 .rw[(hf.2 e).2.2.1];simp[e];omega
theorem Ymv (x:Zh) (h1:Zv b.conf x.who=true) (hml:b.m.length=b.conf.masters.length) (hr:Yv (atI b.m x.who)) (hm:Zet b.model) (hp:(atI b.m x.who).beat - (atI b.m x.who).done≥1) (h2:0<=x.beat) (h3:x.beat < Z0 (atI b.m x.who)) (hl:b.log.length < 1048577):Zju b x=some (Zgi b x):=by
 have hq:=Zrf h2 h3;obtain⟨ok,he⟩:=Ysw hr;unfold Zju;rw[Wf hml h1,ZZa,Zw1 hq,ZZa,Zeo _ hr,ZZa,Yvt x h1 hml hr hm h2 h3,ZZa];have hJ:∀(mo:Zj) (d:Zn),Zbf b x {b with model:=mo} (atI b.m x.who) d=some {b with model:=mo,log:=b.log++[d],m:=b.m.set x.who.toNat (Jh (atI b.m x.who)),holder:=if b.holder=x.who/\(atI b.m x.who).done+1=Z0 (atI b.m x.who) then -1 else b.holder,held:=if b.holder=x.who/\(atI b.m x.who).done+1=Z0 (atI b.m x.who) then 0 else b.held}:=by
  intro mo d;unfold Zbf Zd7 Zd6 Zna;simp only;rw[Qu (by simp only[Vag,Va6];omega) (by simp only[Vag,Va6];omega),ZZa,he,ZZa];simp only[ZZa,Wf hml h1,Wz];have hi:idx b.m x.who=some (atI b.m x.who):=Wf hml h1;by_cases e1:b.holder=x.who
  .by_cases e2:(atI b.m x.who).done+1=Z0 (atI b.m x.who)
   .have e3:=(Ybs hr hp).2 e2
    simp only[decide_eq_true e1,decide_eq_true e3,if_true,ZZj (And.intro e1 e2)]
   .have e3:=mt (Ybs hr hp).1 e2
    simp only[decide_eq_true e1,decide_eq_false e3,if_true,if_false,ZZf,ZZi (λhx:b.holder=x.who/\_=>e2 hx.2)]
  .simp only[decide_eq_false e1,if_false,ZZf,ZZi (λhx:b.holder=x.who/\_=>e1 hx.1)]
 unfold Zgi Ygm;by_cases e:x.resp=0
 .rw[ZZj (decide_eq_true e),hJ]
  simp only[ZZj e]
 .rw[ZZi (by simpa using e)]
  have:=hJ b.model (Zn.mk b.now x.who (atI (atI b.m x.who).queue 0).write (X7 (atI b.m x.who) x.beat) (atI (atI b.m x.who).queue 0).size 0 x.resp);refine Eq.trans (b:=_) ?_ (this.trans ?_)
  .rfl
  .simp only[ZZi e]
theorem Yt9 (w:Zg) (h:Yz b.now b) (hs:s.sm) (hn:b.now<=4000):Zn4 b s w=some ((Ya b s).2.1,(Ya b s).1,if b.data_.live=true/\¬b.data_.left > 0 then {w with resp:=b.data_.resp} else w):=by
 unfold Zn4 Ya;by_cases hd:b.data_.live=true
 .have hdf:¬b.data_.live=false:=by simp[hd]
  rw[ZZi (by simp[hd]),ZZi hdf];have Za5:=h.data;unfold Kj at Za5;rw[ZZj hd] at Za5;have hw:=Qy h hd;have hmw:=(h.mst _ hw).right;have hp:=Zu2 h hd;have hbt:=Z92 h hd;have Yzl:=(Qk h.conf).2.1;by_cases hl:b.data_.left > 0
  .rw[ZZj (decide_eq_true hl),ZZj hl,ZZi (λhx:_/\¬b.data_.left > 0=>hx.2 hl),Xe (by omega) (by omega)]
  .rw[ZZi (by simpa using hl),ZZi hl,ZZj (And.intro hd hl)]
   have hJf:¬(b.data_.resp≠0/\b.data_.second=false)->Zaw b s w false=some ((if b.data_.resp=2 then (Wh {b with data_:=Zh.z0,m:=b.m.set b.data_.who.toNat {atI b.m b.data_.who with tries:=(atI b.m b.data_.who).tries+1}} b.data_,true,b.data_.resp)
 else if b.data_.resp=3 then (Wh {b with data_:=Zh.z0,m:=b.m.set b.data_.who.toNat {atI b.m b.data_.who with parted:=true},splits:=b.splits.set b.data_.who.toNat (Zib b.conf s b.picks)} b.data_,true,b.data_.resp)
 else (Zgi {b with data_:=Zh.z0} b.data_,true,b.data_.resp):Za×Bool×Int).2.1,(if b.data_.resp=2 then (Wh {b with data_:=Zh.z0,m:=b.m.set b.data_.who.toNat {atI b.m b.data_.who with tries:=(atI b.m b.data_.who).tries+1}} b.data_,true,b.data_.resp)
 else if b.data_.resp=3 then (Wh {b with data_:=Zh.z0,m:=b.m.set b.data_.who.toNat {atI b.m b.data_.who with parted:=true},splits:=b.splits.set b.data_.who.toNat (Zib b.conf s b.picks)} b.data_,true,b.data_.resp)
 else (Zgi {b with data_:=Zh.z0} b.data_,true,b.data_.resp):Za×Bool×Int).1,{w with resp:=b.data_.resp}):=by
    intro hns;have hmb:=We hw;have hml:=h.ml;have Yir:∀x:Zb,Yv x->Yv (atI (b.m.set b.data_.who.toNat x) b.data_.who):=λx hx=>by rw[Zpv x hmb.1 (by omega)];exact hx
    have Yp:∀x:Zb,(b.m.set b.data_.who.toNat x).length=b.conf.masters.length:=λx=>by rw[Vbg];exact hml
    unfold Zaw;rw[ZZi (by simp)];by_cases h2:b.data_.resp=2
    .have ht:=Za5.2.1 h2
     have hmx:=(Qk h.conf).1;have htr:=hmw.tries;have Z6:Yv {atI b.m b.data_.who with tries:=(atI b.m b.data_.who).tries+1}:=⟨hmw.len,by show 0<=(atI b.m b.data_.who).tries+1;omega,hmw.reqs,λhq=>absurd (show (atI b.m b.data_.who).queue=[] from hq) (Zrf hbt.1 hbt.2),hmw.some⟩;simp only[decide_eq_true h2,if_true,ZZj h2,Wf hml hw,ZZa,Wz,Ys (a:=(atI b.m b.data_.who).tries) (b:=1) (by omega) (by omega)];rw[Z3j (b:={b with data_:=Zh.z0,m:=b.m.set b.data_.who.toNat {atI b.m b.data_.who with tries:=(atI b.m b.data_.who).tries+1}}) b.data_ h.conf hw (Yp _) h.bl (Yir _ Z6) h.arb];rfl
    .by_cases h3:b.data_.resp=3
     .have Y5:Yv {atI b.m b.data_.who with parted:=true}:=⟨hmw.len,hmw.tries,hmw.reqs,λhq=>absurd (show (atI b.m b.data_.who).queue=[] from hq) (Zrf hbt.1 hbt.2),hmw.some⟩
      simp only[decide_eq_false h2,decide_eq_true h3,if_true,if_false,ZZf,ZZi h2,ZZj h3,Wf hml hw,Zqo h.sl hw,ZZa,Wz,Yop _ _ hs];rw[Z3j (b:={b with data_:=Zh.z0,m:=b.m.set b.data_.who.toNat {atI b.m b.data_.who with parted:=true},splits:=b.splits.set b.data_.who.toNat (Zib b.conf s b.picks)}) b.data_ h.conf hw (Yp _) h.bl (Yir _ Y5) h.arb];rfl
     .simp only[decide_eq_false h2,decide_eq_false h3,if_false,ZZf,ZZi h2,ZZi h3]
      have hlog:=Ya4 (by omega) h.log;rw[Ymv (b:={b with data_:=Zh.z0}) b.data_ hw hml hmw h.model hp hbt.1 hbt.2 (by show b.log.length < _;omega)];rfl
   by_cases h2:b.data_.resp≠0
   .rw[ZZj (decide_eq_true h2)]
    by_cases h3:b.data_.second=false
    .rw[ZZj (And.intro h2 h3),h3]
     unfold Zaw Zgs;rw[ZZj (by rfl)];by_cases ha:b.addr.live=true
     .rw[ZZj ha,ZZj ha]
      have hwa:=Zbg h ha;rw[Z3j (b:={b with data_:={b.data_ with second:=true}}) b.addr h.conf hwa h.ml h.bl (h.mst _ hwa).right h.arb];rfl
     .rw[ZZi ha,ZZi ha]
    .have h4:b.data_.second=true:=by simpa using h3
     rw[ZZi (λhx:_/\b.data_.second=false=>h3 hx.2),h4,Va5,hJf (λhx=>h3 hx.2)]
   .rw[ZZi (by simpa using h2),ZZi (λhx:b.data_.resp≠0/\_=>h2 hx.1),hJf (λhx=>h2 hx.1)]
 .rw[ZZj (by simpa using hd),ZZj (by simpa using hd),ZZi (λhx:b.data_.live=true/\_=>hd hx.1)]
theorem Ysp (h:Yz b.now b) (hs:s.sm) (hn:b.now<=4000) (hd:b.data_.live=true) (hl:¬b.data_.left > 0) (hns:¬(b.data_.resp≠0/\b.data_.second=false)):Zqn b s=some (Ya b s).1:=by
 have hdf:¬b.data_.live=false:=by simp[hd]
 have Za5:=h.data;unfold Kj at Za5;rw[ZZj hd] at Za5;have hw:=Qy h hd;have hmw:=(h.mst _ hw).right;have hp:=Zu2 h hd;have hbt:=Z92 h hd;have hmb:=We hw;have hml:=h.ml;have hq:=Zrf hbt.1 hbt.2;have Yir:∀x:Zb,Yv x->Yv (atI (b.m.set b.data_.who.toNat x) b.data_.who):=λx hx=>by rw[Zpv x hmb.1 (by omega)];exact hx
 have Yp:∀x:Zb,(b.m.set b.data_.who.toNat x).length=b.conf.masters.length:=λx=>by rw[Vbg];exact hml
 unfold Zqn Ya;rw[ZZi hdf,ZZi hl,ZZi hns,Wf hml hw,ZZa];by_cases h2:b.data_.resp=2
 .have ht:=Za5.2.1 h2
  have hmx:=(Qk h.conf).1;have htr:=hmw.tries;have Z6:Yv {atI b.m b.data_.who with tries:=(atI b.m b.data_.who).tries+1}:=⟨hmw.len,by show 0<=(atI b.m b.data_.who).tries+1;omega,hmw.reqs,λhq=>absurd (show (atI b.m b.data_.who).queue=[] from hq) (Zrf hbt.1 hbt.2),hmw.some⟩;simp only[decide_eq_true h2,if_true,ZZj h2,ZZa,Wz,Ys (a:=(atI b.m b.data_.who).tries) (b:=1) (by omega) (by omega)];rw[Z3t (b:={b with data_:=Zh.z0,m:=b.m.set b.data_.who.toNat {atI b.m b.data_.who with tries:=(atI b.m b.data_.who).tries+1}}) b.data_ h.conf hw (Yp _) h.bl (Yir _ Z6) h.arb];rfl
 .by_cases h3:b.data_.resp=3
  .have Y5:Yv {atI b.m b.data_.who with parted:=true}:=⟨hmw.len,hmw.tries,hmw.reqs,λhq=>absurd (show (atI b.m b.data_.who).queue=[] from hq) (Zrf hbt.1 hbt.2),hmw.some⟩
   simp only[decide_eq_false h2,decide_eq_true h3,if_true,if_false,ZZf,ZZi h2,ZZj h3,Zqo h.sl hw,ZZa,Wz,Yp9 _ _ hs];rw[Z3t (b:={b with data_:=Zh.z0,m:=b.m.set b.data_.who.toNat {atI b.m b.data_.who with parted:=true},splits:=b.splits.set b.data_.who.toNat (Zib b.conf s b.picks)}) b.data_ h.conf hw (Yp _) h.bl (Yir _ Y5) h.arb];rfl
  .have hlog:=Ya4 (by omega) h.log
   obtain⟨ok,he⟩:=Ysl hmw;have hJ:∀(mo:Zj) (d:Zn),Zdx b s {b with data_:=Zh.z0,model:=mo} (atI b.m b.data_.who) d=some {b with data_:=Zh.z0,model:=mo,log:=b.log++[d],m:=b.m.set b.data_.who.toNat (Jh (atI b.m b.data_.who)),holder:=if b.holder=b.data_.who/\(atI b.m b.data_.who).done+1=Z0 (atI b.m b.data_.who) then -1 else b.holder,held:=if b.holder=b.data_.who/\(atI b.m b.data_.who).done+1=Z0 (atI b.m b.data_.who) then 0 else b.held}:=by
    intro mo d;unfold Zdx;simp only;rw[Qu (by simp only[Vag,Va6];omega) (by simp only[Vag,Va6];omega),ZZa,he,ZZa];simp only[ZZa,Wf hml hw,Wz];by_cases e1:b.holder=b.data_.who
    .by_cases e2:(atI b.m b.data_.who).done+1=Z0 (atI b.m b.data_.who)
     .have e3:=(Ypy hmw hp).2 e2
      simp only[decide_eq_true e1,decide_eq_true e3,if_true,ZZj (And.intro e1 e2)]
     .have e3:=mt (Ypy hmw hp).1 e2
      simp only[decide_eq_true e1,decide_eq_false e3,if_true,if_false,ZZf,ZZi (λhx:b.holder=b.data_.who/\_=>e2 hx.2)]
    .simp only[decide_eq_false e1,if_false,ZZf,ZZi (λhx:b.holder=b.data_.who/\_=>e1 hx.1)]
   simp only[decide_eq_false h2,decide_eq_false h3,if_false,ZZf,ZZi h2,ZZi h3];rw[Zw1 hq,ZZa,Zif _ hmw,ZZa];unfold Zgi Ygm doG;by_cases e:b.data_.resp=0
   .rw[ZZj (decide_eq_true e),Yg9 hmw hq hbt.1 hbt.2,ZZa,Z8s _ _ _ _ h.model,ZZa,hJ]
    simp only[ZZj e]
   .rw[ZZi (by simpa using e)]
    have:=hJ b.model (Zn.mk b.now b.data_.who (atI (atI b.m b.data_.who).queue 0).write (X7 (atI b.m b.data_.who) b.data_.beat) (atI (atI b.m b.data_.who).queue 0).size 0 b.data_.resp);refine Eq.trans (b:=_) ?_ (this.trans ?_)
    .rfl
    .simp only[ZZi e]
end
section
variable {n:Int} {b:Za} {s:Zi}
theorem Ysc (h:Yz n b) (hs:s.sm) (hl:b.addr.live=true):Zon b s b.addr=some (Zdh b s b.addr):=by
 have hw:=Zbg h hl;have hmw:=(h.mst _ hw).right;have hbt:=Z9m h hl;have hwt:=Yi9 h.conf s b.picks;have hlm:=(Qk h.conf).2.1;unfold Zon;rw[Wf h.ml hw,ZZa,Zeo _ hmw,ZZa,Zzt,ZZa];have hJ1:Ji b s b.addr (atI b.m b.addr.who) (Y0 (X7 (atI b.m b.addr.who) b.addr.beat)) false=some (if Zhu s b.picks=2/\Y0 (X7 (atI b.m b.addr.who) b.addr.beat)≠3/\(atI b.m b.addr.who).tries < b.conf.maxRetry then 2
  else if Zhu s b.picks=3/\Y0 (X7 (atI b.m b.addr.who) b.addr.beat)=2/\(atI b.m b.addr.who).parted=false/\b.addr.who≠b.holder then 3 else (doG b b.addr).2.2,if Y0 (X7 (atI b.m b.addr.who) b.addr.beat)=3 then Zqs b.conf s b.picks+2 else Zqs b.conf s b.picks):=by
  unfold Ji;rw[ZZi (by simp),Yvt _ hw h.ml hmw h.model hbt.1 hbt.2,ZZa,Yst _ _ hs,ZZa,Ys (by omega) (by omega)];have hJ2:∀(r t:Int),Zc9 b s b.addr (atI b.m b.addr.who) (Y0 (X7 (atI b.m b.addr.who) b.addr.beat)) r t=some (if Zhu s b.picks=2/\Y0 (X7 (atI b.m b.addr.who) b.addr.beat)≠3/\(atI b.m b.addr.who).tries < b.conf.maxRetry then 2
  else if Zhu s b.picks=3/\Y0 (X7 (atI b.m b.addr.who) b.addr.beat)=2/\(atI b.m b.addr.who).parted=false/\b.addr.who≠b.holder then 3 else r,t):=by
   intro r t;unfold Zc9;rw[Yus _ hs,ZZa];generalize Y0 (X7 (atI b.m b.addr.who) b.addr.beat)=sl;have hJ3:Ka b s b.addr (atI b.m b.addr.who) sl r t (Zhu s b.picks) false=some (if Zhu s b.picks=3/\sl=2/\(atI b.m b.addr.who).parted=false/\b.addr.who≠b.holder then 3 else r,t):=by
    unfold Ka;rw[ZZi (by simp)];by_cases e1:Zhu s b.picks=3
    .by_cases e2:sl=2
     .by_cases e3:(atI b.m b.addr.who).parted=true
      .simp[e1,e2,e3]
      .by_cases e4:b.addr.who=b.holder<;>simp[e1,e2,e3,e4]
     .simp[e1,e2]
    .simp[e1]
   have hJ3t:Ka b s b.addr (atI b.m b.addr.who) sl r t (Zhu s b.picks) true=some (2,t):=by
    unfold Ka;rw[ZZj rfl]
   by_cases e1:Zhu s b.picks=2
   .by_cases e2:sl=3
    .rw[ZZj (decide_eq_true e1),ZZi (by simpa using e2),hJ3,ZZi (λhx:_/\sl≠3/\_=>hx.2.1 e2)]
    .by_cases e3:(atI b.m b.addr.who).tries < b.conf.maxRetry
     .rw[ZZj (decide_eq_true e1),ZZj (by simpa using e2),decide_eq_true e3,hJ3t,ZZj ⟨e1,e2,e3⟩]
     .rw[ZZj (decide_eq_true e1),ZZj (by simpa using e2),decide_eq_false e3,hJ3,ZZi (λhx:_/\_/\_=>e3 hx.2.2)]
   .rw[ZZi (by simpa using e1),hJ3,ZZi (λhx:_/\_/\_=>e1 hx.1)]
  by_cases e:Y0 (X7 (atI b.m b.addr.who) b.addr.beat)=3
  .rw[ZZj (decide_eq_true e),hJ2,ZZj e]
  .rw[ZZi (by simpa using e),hJ2,ZZi e]
 have hJ1t:Ji b s b.addr (atI b.m b.addr.who) (Y0 (X7 (atI b.m b.addr.who) b.addr.beat)) true=some (1,0):=by
  unfold Ji;rw[ZZj rfl]
 unfold Zdh;by_cases e1:(atI b.m b.addr.who).broken=true
 .rw[ZZj e1,hJ1t,ZZj (.inl e1)]
 .by_cases e2:Y0 (X7 (atI b.m b.addr.who) b.addr.beat)=0
  .rw[ZZi e1,decide_eq_true e2,hJ1t,ZZj (.inr e2)]
  .rw[ZZi e1,decide_eq_false e2,hJ1,ZZi (show ¬((atI b.m b.addr.who).broken=true\/Y0 (X7 (atI b.m b.addr.who) b.addr.beat)=0) fromλhx=>hx.elim e1 e2)]
theorem Yt0 (a:Int):Y0 a=0\/Y0 a=1\/Y0 a=2\/Y0 a=3:=by
 unfold Y0
 repeat' split
 all_goals simp
theorem Yxz (h:Yz n b) (hs:s.sm) (hp:0<=b.picks/\b.picks<=4000):Ztc b s=some (Q2 b s):=by
 unfold Ztc Q2;by_cases hl:b.addr.live=true
 .have hw:=Zbg h hl
  have hmw:=(h.mst _ hw).right;have hbt:=Z9m h hl;have hq:=Zrf hbt.1 hbt.2;have hwt:=Yi9 h.conf s b.picks;have hlm:=(Qk h.conf).2.1;have hA:=h.addr;unfold K2 at hA;rw[ZZj hl] at hA;rw[ZZi (by simp[hl]),ZZj hl,Wf h.ml hw,ZZa,Zw1 hq,ZZa,Zif _ hmw,ZZa,Z9e,ZZa,Yuj _ hs,ZZa];have hsr:=Yt0 (X7 (atI b.m b.addr.who) b.addr.beat);have hJ8:∀x:Zh,Zex b s x=some {b with addr:=Zh.z0,data_:=x,picks:=b.picks+1}:=by
   intro x;unfold Zex;rw[Ys (by omega) (by omega)]
  unfold Zdh;by_cases e1:(atI b.m b.addr.who).broken=true
  .rw[ZZj e1,ZZj (.inl e1)]
   unfold Zcf Zci Zck Zcl Kn Zcq Kp;simp only[if_true,e1,Va5,ZZf,if_false,hJ8,Yd5]
   congr 2
   rw[hA.2.1]
  .have e1':(atI b.m b.addr.who).broken=false:=by simpa using e1
   rw[ZZi e1];generalize hsl:Y0 (X7 (atI b.m b.addr.who) b.addr.beat)=sl at hsr;by_cases e2:sl=0
   .rw[decide_eq_true e2,ZZj (.inr e2)]
    unfold Zcf Zci Zck Zcl Kn Zcq Kp;have f1:¬sl=3:=by omega
    have f2:¬sl=1:=by omega
    have f3:¬sl=2:=by omega
    simp only[if_true,e1',f1,f2,f3,decide_false,Vbi,ZZf,if_false,hJ8,Yd5]
    congr 2
    rw[hA.2.1]
   .rw[decide_eq_false e2,ZZi (λhx=>hx.elim e1 e2)]
    unfold Zcf;rw[ZZi (by simp),Yt5 _ _ hs,ZZa,Yg9 hmw hq hbt.1 hbt.2,ZZa,Z8s _ _ _ _ h.model,ZZa];have hdo:Zey b.model (atI (atI b.m b.addr.who).queue 0).write (X7 (atI b.m b.addr.who) b.addr.beat) (atI (atI b.m b.addr.who).queue 0).size (Zrg (atI b.m b.addr.who) b.addr.beat)=doG b b.addr:=rfl;rw[hdo];unfold Zci Zck Zcl Kn Zcq Kp;simp only[e1',Vbi,if_true,hJ8,Ys (a:=Zqs b.conf s b.picks) (b:=2) (by omega) (by omega)];generalize Zhu s b.picks=sd;by_cases g1:sl=3
    .subst g1
     by_cases g2:sd=2
     .subst g2;simp
     .by_cases g3:sd=3
      .subst g3;simp
      .simp[g2,g3]
    .by_cases g4:sl=2
     .subst g4
      by_cases g2:sd=2
      .subst g2
       by_cases g5:(atI b.m b.addr.who).tries < b.conf.maxRetry<;>simp[g5]
      .by_cases g3:sd=3
       .subst g3
        by_cases g5:(atI b.m b.addr.who).parted=true
        .simp[g5]
        .by_cases g6:b.addr.who=b.holder
         .simp[g5,g6]
         .have g7:¬b.holder=b.addr.who:=λe=>g6 e.symm
          simp[g5,g6,g7]
       .simp[g2,g3]
     .have g8:sl=1:=by omega
      subst g8;by_cases g2:sd=2
      .subst g2
       by_cases g5:(atI b.m b.addr.who).tries < b.conf.maxRetry<;>simp[g5]
      .by_cases g3:sd=3
       .subst g3;simp
       .simp[g2,g3]
 .rw[ZZj (by simpa using hl),ZZi hl]
  have hA:=h.addr;unfold K2 at hA;rw[ZZi hl] at hA;rw[<-hA]
theorem Yie (b:Za) (k:Nat):((List.range (k+1)).map λj:Nat=>Ki b (j:Int))=((List.range k).map λj:Nat=>Ki b (j:Int))++[Ki b (k:Int)]:=by
 rw[List.range_succ,Vdk];rfl
theorem Z16 (h:Yz n b):b.holder=-1\/Zv b.conf b.holder=true:=by
 by_cases e:b.holder=-1
 .exact .inl e
 .exact .inr (Ze9 h e).1
theorem Y1m (h:Yz n b):Zte b=some ((Zaf b).1,(Zaf b).2.1,(Zaf b).2.2):=by
 have Yp:=Zar h.conf;have hml:=h.ml;have hL2:Zew b FU (Qw b) ((Qw b).length:Int) 0=some (match (List.range b.m.length).find? (Zaz b) with
  | some k=>((k:Int),1,{b with buckets:=b.buckets.set k (Zgo (atI b.buckets (k:Int)) (atI b.conf.masters (k:Int))).1})
  | none=>if b.holder≠-1 then (-1,0,b) else ((Zc7 b.arb b.conf (Qw b)).2,2,{b with arb:=(Zc7 b.arb b.conf (Qw b)).1})):=by
  rw[Zd2];have key:∀(r m k:Nat),r < m->k+r=b.m.length->(∀j,j < k->Zaz b j=false)->Zew b m (Qw b) (b.m.length:Int) (k:Int)=some (match (List.range' k r).find? (Zaz b) with
  | some k=>((k:Int),1,{b with buckets:=b.buckets.set k (Zgo (atI b.buckets (k:Int)) (atI b.conf.masters (k:Int))).1})
  | none=>if b.holder≠-1 then (-1,0,b) else ((Zc7 b.arb b.conf (Qw b)).2,2,{b with arb:=(Zc7 b.arb b.conf (Qw b)).1})):=by
   intro r
   induction r with
   | zero=>
    intro m k hm hk _;obtain⟨m,rfl⟩:∃m',m=m'+1:=⟨m - 1,by omega⟩;show Zdw b _ (Qw b) (b.m.length:Int) (k:Int)=_;unfold Zdw;rw[ZZi (by simp;omega),Yof _ _ _ h.arb (by rw[Zd2,hml]),ZZa];by_cases e:b.holder=-1
    .simp[e]
    .simp[e]
   | succ r ih=>
    intro m k hm hk hj;obtain⟨m,rfl⟩:∃m',m=m'+1:=⟨m - 1,by omega⟩;show Zdw b _ (Qw b) (b.m.length:Int) (k:Int)=_;have hmk:=mas (c:=b.conf) (k:=k) (by omega);unfold Zdw;have hix:idx (Qw b) (k:Int)=some (Ki b (k:Int)):=by
     rw[Xr (by omega) (by rw[Zd2];omega),Zwz h hmk]
    rw[ZZj (by simp;omega),hix,ZZa,Ya8 h.bl hmk,ZZa,Z2o hmk,ZZa,Yg3 _ (Zkf h.conf hmk),ZZa,Wz,ZZa,Vdd,List.find?_cons];by_cases e1:Ki b (k:Int)=true
    .by_cases e2:(Zgo (atI b.buckets (k:Int)) (atI b.conf.masters (k:Int))).2=true
     .have e3:Zaz b k=true:=by simp[Zaz,e1,e2]
      rw[e1,ZZi (by simp),ZZj e2,e3];rfl
     .have e3:Zaz b k=false:=by simp[Zaz,e1,e2]
      rw[e1,ZZi (by simp),ZZi e2,e3,Wq (by omega)];exact ih m (k+1) (by omega) (by omega) (λj hj2=>by
       by_cases hjk:j=k
       .subst hjk;exact e3
       .exact hj j (by omega))
    .have e3:Zaz b k=false:=by simp[Zaz,e1]
     have e4:Ki b (k:Int)=false:=by simpa using e1
     rw[e4,ZZj (by simp),e3,Wq (by omega)];exact ih m (k+1) (by omega) (by omega) (λj hj2=>by
       by_cases hjk:j=k
       .subst hjk;exact e3
       .exact hj j (by omega))
  have:=key b.m.length FU 0 (by have:=Kr;omega) (by omega) (λj hj=>by omega);rw[Vcv];simpa using this
 unfold Zte;refine Zdj (σ:=List Bool) (n:=b.m.length) (by omega) (λk=>(List.range k).map λj:Nat=>Ki b (j:Int)) (B:=Zho b) (L:=Zi9 b) (λm s i=>rfl) (λk hk κ=>?_) λκ=>?_
 .have hmk:=mas (c:=b.conf) (k:=k) (by omega)
  unfold Zho;have Y4z:∀x:Bool,X8 1 ((List.range k).map λj:Nat=>Ki b (j:Int)) [x]=some (((List.range k).map λj:Nat=>Ki b (j:Int))++[x]):=λx=>Qu (by simp;omega) (by simp;omega);rw[ZZj (by simpa using hk),Wf hml hmk,ZZa,Z69 (h.mst _ hmk).right,ZZa,Zqo h.sl hmk,ZZa,Yie];simp only[Y4z,ZZa];unfold Ki;by_cases e1:Zp4 (atI b.m (k:Int))=true
  .by_cases e2:atI b.splits (k:Int)=0
   .by_cases e3:b.holder=-1
    .simp[e1,e2,e3]
    .simp[e1,e2,e3]
   .simp[e1,e2]
  .simp[e1]
 .unfold Zho Ziw
  rw[ZZi (by simp)];show (if decide (b.holder≠-1)=true then (idx (Qw b) b.holder).bind _ else _)=_;unfold Zaf;by_cases e:b.holder=-1
  .rw[ZZi (by simpa using e),ZZi (by simp),ZZi (λhx:b.holder≠-1/\_=>hx.1 e)]
   exact hL2
  .have hw:=(Ze9 h e).1
   have hmb:=We hw;rw[ZZj (by simpa using e),Xr hmb.1 (by rw[Zd2];omega),ZZa,Zwz h hw];by_cases e2:Ki b b.holder=true
   .rw[ZZj e2,ZZj ⟨e,e2⟩]
   .rw[ZZi e2,ZZi (λhx:_/\Ki b b.holder=true=>e2 hx.2)]
    exact hL2
theorem Y6h {b:Za} {i:Int} (hr:Yv (atI b.m i)) (h:Ki b i=true):(atI b.m i).queue≠[]:=by
 have:=(Yib h).1;have:=Jd hr;intro hq;unfold Z0 at*;rw[ZZj hq] at*;omega
theorem Y1i (x0:Za) (h:Yz n b) {who by_:Int} (hw:Zv b.conf who=true):((idx b.m who).bind λa405=>
  if decide (a405.beat=0)=true then Jz x0 {b with addr:=(Zh.mk true who a405.beat true by_ 0 0 false)} a405 who
  else Jz x0 {b with addr:=(Zh.mk true who a405.beat (decide (b.last≠who)) by_ 0 0 false)} a405 who)=some (who,Z6x b who by_):=by
 obtain⟨ok,hi⟩:=Ymf (h.mst _ hw).right;rw[Wf h.ml hw,ZZa];have hJ:∀f:Bool,Jz x0 {b with addr:=(Zh.mk true who (atI b.m who).beat f by_ 0 0 false)} (atI b.m who) who=some (who,{b with addr:=Zh.mk true who (atI b.m who).beat f by_ 0 0 false,holder:=if Ym (atI b.m who)=true/\b.holder=-1 then who else b.holder,held:=if Ym (atI b.m who)=true/\b.holder=-1 then 0 else b.held,m:=b.m.set who.toNat (X6 (atI b.m who)),last:=who}):=by
  intro f;unfold Jz Zhm Zhn;simp only[Z6d,ZZa,hi,Wf h.ml hw,Wz];by_cases e1:Ym (atI b.m who)=true
  .by_cases e2:b.holder=-1
   .simp only[e1,if_true,decide_eq_true e2,true_and,ZZj e2]
   .simp only[e1,if_true,decide_eq_false e2,ZZf,if_false,true_and,ZZi e2]
  .simp only[e1,if_false,ZZf,false_and]
 unfold Z6x;by_cases e:(atI b.m who).beat=0
 .rw[ZZj (decide_eq_true e),hJ,decide_eq_true e];rfl
 .rw[ZZi (by simpa using e),hJ,decide_eq_false e,Vdv]
end
section
variable {n:Int} {b:Za} {s:Zi}
theorem Yx4 (h:Yz n b):Zqd b=some ((Je b).1,(Je b).2):=by
 have hp:=Zws h;unfold Zqd Je;rw[Y1m h,ZZa];by_cases e:(Zaf b).1 < 0
 .rw[ZZj (decide_eq_true e),ZZj e]
 .rw[ZZi (by simpa using e),ZZi e]
  rcases hp.who with h1|h1
  .exact absurd (show (Zaf b).1 < 0 by rw[h1];decide) e
  .exact Y1i b hp.ok (by rw[hp.conf];exact h1.1)
theorem Y4e {c:Zc} {m:Zd} (h:Y8 c m=true):(Zgo c m).2=decide (c.tokens > 0):=by
 unfold Zgo;by_cases hp:m.prio=true
 .have h2:=h
  unfold Y8 at h2;rw[ZZj hp] at h2;simp only[ZZg,ZZl] at h2;by_cases e:c.tokens=0
  .simp[hp,h,e]
  .have:c.tokens > 0:=by omega
   simp[hp,h,e,this]
 .have h2:=h
  unfold Y8 at h2;rw[ZZi hp] at h2;simp only[ZZg,ZZl] at h2;simp[hp,h2.1]
theorem Z9y (x0:Za) (h:Yz n b) {who by_:Int} (hw:Zv b.conf who=true) (Yiq:Ki b who=true):Jg x0 b (Zh.mk false who 0 false by_ 0 0 false)=some (Z6x b who by_):=by
 obtain⟨ok,hi⟩:=Ymi (h.mst _ hw).right;have hq:=Y6h (h.mst _ hw).right Yiq;have hmb:=We hw;unfold Jg;simp only;rw[ZZi (by simp;omega),Wf h.ml hw,ZZa];have hh:=Z16 h;have Yb:b.holder < 0↔b.holder=-1:=by
  rcases hh with hh|hh
  .omega
  .have:=We hh;omega
 have hJ:∀f:Bool,Ze8 x0 b (Zh.mk true who (atI b.m who).beat f by_ 0 0 false) (atI b.m who)=some {b with addr:=Zh.mk true who (atI b.m who).beat f by_ 0 0 false,holder:=if Ym (atI b.m who)=true/\b.holder=-1 then who else b.holder,held:=if Ym (atI b.m who)=true/\b.holder=-1 then 0 else b.held,m:=b.m.set who.toNat (X6 (atI b.m who)),last:=who}:=by
  intro f;unfold Ze8 Zdu Zhf;simp only[Zw1 hq,ZZa,hi,Wf h.ml hw,Wz];unfold Ym;by_cases e1:(atI (atI b.m who).queue 0).lock=true
  .by_cases e2:(atI b.m who).broken=true
   .simp[e1,e2]
   .by_cases e3:b.holder=-1
    .have e4:=Yb.2 e3
     simp[e1,e2,e3,hq]
    .have e4:=mt Yb.1 e3
     simp[e1,e2,e3,e4]
  .simp[e1]
 unfold Z6x;by_cases e:(atI b.m who).beat=0
 .rw[ZZj (decide_eq_true e),hJ,decide_eq_true e];rfl
 .rw[ZZi (by simpa using e),hJ,decide_eq_false e,Vdv]
theorem Ycf (x0:Za) (c:Za) (by_:Int):Jg x0 c (Zh.mk false (-1) 0 false by_ 0 0 false)=some c:=by
 unfold Jg;rw[ZZj (by simp)]
theorem Yw7 (h:Yz n b):Zsn b=some (Je b).2:=by
 have Yp:=Zar h.conf;have hml:=h.ml;have hh:=Z16 h;have Yb:b.holder < 0↔b.holder=-1:=by
  rcases hh with hh|hh
  .omega
  .have:=We hh;omega
 have hp:=Zws h;have hgo:∀(m:Nat) (c:Za) (who by_:Int) (k:Nat),0<=who->Zap b (m+1) c (Zh.mk false who 0 false by_ 0 0 false) (Qw b) (k:Int)=Jg b c (Zh.mk false who 0 false by_ 0 0 false):=by
  intro m c who by_ k hwho;have hn:¬who < 0:=by omega
  show Jy b _ c _ _ _=_;unfold Jy Zch Zfb;simp only[decide_eq_false hn,ZZf,if_false,Yd5]
 have hL2:(¬(b.holder≠-1/\Ki b b.holder=true))->Zap b FU b (Zh.mk false (-1) 0 false 0 0 0 false) (Qw b) 0=some (Je b).2:=by
  intro hnl;have key:∀(r m k:Nat),r+1 < m->k+r=b.m.length->(List.range b.m.length).find? (Zaz b)=(List.range' k r).find? (Zaz b)->Zap b m b (Zh.mk false (-1) 0 false 0 0 0 false) (Qw b) (k:Int)=some (Je b).2:=by
   intro r
   induction r with
   | zero=>
    intro m k hm hk Zy3;obtain⟨m,rfl⟩:∃m',m=m'+1:=⟨m - 1,by omega⟩;show Jy b _ b _ (Qw b) (k:Int)=_;unfold Jy Zch Zfb;have hf:(List.range b.m.length).find? (Zaz b)=none:=by rw[Zy3];rfl
    rw[ZZi (by simp;omega),ZZi (by simp),ZZj (by simp)];have hpk:Zaf b=if b.holder≠-1 then (-1,0,b) else ((Zc7 b.arb b.conf (Qw b)).2,2,{b with arb:=(Zc7 b.arb b.conf (Qw b)).1}):=by
     unfold Zaf;rw[ZZi hnl,hf]
    by_cases e:b.holder=-1
    .rw[decide_eq_true (Yb.2 e),ZZj rfl,Yqd _ _ _ h.arb (by rw[Zd2,hml]),ZZa]
     rw[ZZi (by simpa using e)] at hpk;have hw:=hp.who;have Y4:=hp.ok;unfold Je;rw[hpk] at hw Y4 ⊢;simp only at hw Y4 ⊢;rcases hw with hw|hw
     .rw[hw,Ycf,ZZj (by decide)]
     .have hmb:=We hw.1
      rw[ZZi (by omega)];exact Z9y b Y4 hw.1 hw.2.1
    .rw[decide_eq_false (mt Yb.1 e),ZZi (by simp),Ycf]
     rw[ZZj e] at hpk;unfold Je;rw[hpk,ZZj (show (-1:Int) < 0 by decide)]
   | succ r ih=>
    intro m k hm hk Zy3;obtain⟨m,rfl⟩:∃m',m=m'+1:=⟨m - 1,by omega⟩;show Jy b _ b _ (Qw b) (k:Int)=_;have hmk:=mas (c:=b.conf) (k:=k) (by omega);have hix:idx (Qw b) (k:Int)=some (Ki b (k:Int)):=by
     rw[Xr (by omega) (by rw[Zd2];omega),Zwz h hmk]
    rw[Vdd,List.find?_cons] at Zy3;unfold Jy Zch Zi5;rw[ZZj (by simp;omega),ZZj (by simp),hix,ZZa,Ya8 h.bl hmk,ZZa,ZZa,Z2o hmk,ZZa,Yhf _ (Zkf h.conf hmk),ZZa,Wz,ZZa,Wq (by omega),<-Y4e (h.mst _ hmk).bucket];by_cases e1:Ki b (k:Int)=true
    .by_cases e2:(Zgo (atI b.buckets (k:Int)) (atI b.conf.masters (k:Int))).2=true
     .have e3:Zaz b k=true:=by simp[Zaz,e1,e2]
      rw[e3] at Zy3;have hpk:Zaf b=((k:Int),1,{b with buckets:=b.buckets.set k (Zgo (atI b.buckets (k:Int)) (atI b.conf.masters (k:Int))).1}):=by
       unfold Zaf;rw[ZZi hnl,Zy3]
      rw[ZZj e1,ZZj e2];obtain⟨m,rfl⟩:∃m',m=m'+1:=⟨m - 1,by omega⟩;rw[hgo m _ _ _ _ (by omega)];have hw:=hp.who;have Y4:=hp.ok;unfold Je;rw[hpk] at hw Y4 ⊢;simp only at hw Y4 ⊢;rcases hw with hw|hw
      .omega
      .rw[ZZi (by omega)]
       exact Z9y b Y4 hw.1 hw.2.1
     .have e3:Zaz b k=false:=by simp[Zaz,e1,e2]
      rw[e3] at Zy3;rw[ZZj e1,ZZi e2];exact ih m (k+1) (by omega) (by omega) Zy3
    .have e3:Zaz b k=false:=by simp[Zaz,e1]
     rw[e3] at Zy3;rw[ZZi e1,ZZi (by simp)];exact ih m (k+1) (by omega) (by omega) Zy3
  have:=key b.m.length FU 0 (by have:=Kr;omega) (by omega) (by rw[Vcv]);simpa using this
 unfold Zsn;refine Zdj (σ:=List Bool) (n:=b.m.length) (by omega) (λk=>(List.range k).map λj:Nat=>Ki b (j:Int)) (B:=Zhi b) (L:=Zjj b) (λm s i=>rfl) (λk hk κ=>?_) λκ=>?_
 .have hmk:=mas (c:=b.conf) (k:=k) (by omega)
  unfold Zhi;have Y4z:∀x:Bool,X8 1 ((List.range k).map λj:Nat=>Ki b (j:Int)) [x]=some (((List.range k).map λj:Nat=>Ki b (j:Int))++[x]):=λx=>Qu (by simp;omega) (by simp;omega);rw[ZZj (by simpa using hk),Wf hml hmk,ZZa,Z7c (h.mst _ hmk).right,ZZa,Zqo h.sl hmk,ZZa,Yie];simp only[Y4z,ZZa];unfold Ki;by_cases e1:Zp4 (atI b.m (k:Int))=true
  .by_cases e2:atI b.splits (k:Int)=0
   .by_cases e3:b.holder=-1
    .simp[e1,e2,e3]
    .have e4:=mt Yb.1 e3
     simp only[e1,e2,e3,e4,decide_true,decide_false,if_true,ZZf,if_false,Vbz,Vdv]
   .simp[e1,e2]
  .simp[e1]
 .unfold Zhi Zjp Zji
  rw[ZZi (by simp)];show (if decide (b.holder≥0)=true then (idx (Qw b) b.holder).bind _ else _)=_;by_cases e:b.holder=-1
  .rw[ZZi (by simp;omega),ZZi (by simp)]
   exact hL2 λhx=>hx.1 e
  .have hw:=(Ze9 h e).1
   have hmb:=We hw;rw[ZZj (by simpa using hmb.1),Xr hmb.1 (by rw[Zd2];omega),ZZa,Zwz h hw];by_cases e2:Ki b b.holder=true
   .have hpk:Zaf b=(b.holder,3,b):=by
     unfold Zaf;rw[ZZj ⟨e,e2⟩]
    rw[ZZj e2];have hfu:FU=(FU - 1)+1:=by decide
    show Zap b FU b (Zh.mk false b.holder 0 false 3 0 0 false) (Qw b) ((0:Nat):Int)=_;rw[hfu,hgo _ _ _ _ _ hmb.1];unfold Je;rw[hpk,ZZi (by simp;omega)];exact Z9y b h hw e2
   .rw[ZZi e2]
    exact hL2 λhx=>e2 hx.2
theorem Yv6 {α:Type} {X Y:List α} (hl:X.length=Y.length) {k:Nat} (hk:k < Y.length):idx (X.take k++Y.drop k) (k:Int)=some Y[k]/\(X.take k++Y.drop k).set k (X[k]'(by omega))=X.take (k+1)++Y.drop (k+1):=by
 have h1:(X.take k).length=k:=by rw[Vbv];omega
 constructor
 .rw[Xu (by simp;omega)]
  simp[List.getElem_append_right,h1]
 .rw[Vee _ _ (by omega),h1,Veh,Va4 hk,Vdq,List.take_succ_eq_append_getElem (show k < X.length by omega),List.append_assoc]
  rfl
def Zlp (c:Za) (k:Nat):Za:={c with splits:=(Xj c).splits.take k++c.splits.drop k,buckets:=(Xj c).buckets.take k++c.buckets.drop k}
theorem Yvq (c:Za):Zlp c 0=c:=by simp[Zlp]
theorem Ylv (h:Yz n b):Zlp b b.conf.masters.length=Xj b:=by
 have h1:=h.sl;have h2:=h.bl;unfold Zlp Xj;simp only;rw[Vbh (by simp;omega),Vda (by omega),Vbh (by simp;omega),Vda (by omega),Vb3,Vb3]
theorem Ygg (h:Yz n b) {k:Nat} (hk:k < b.conf.masters.length):idx (Zlp b k).splits (k:Int)=some (atI b.splits (k:Int))/\(Zlp b k).splits.set k (max (atI b.splits (k:Int) - 1) 0)=(Zlp b (k+1)).splits/\
  idx (Zlp b k).buckets (k:Int)=some (atI b.buckets (k:Int))/\(Zlp b k).buckets.set k (Zrz (atI b.buckets (k:Int)) (atI b.conf.masters (k:Int)))=(Zlp b (k+1)).buckets:=by
 have h1:=h.sl;have h2:=h.bl;have m1:=Yv6 (X:=(Xj b).splits) (Y:=b.splits) (by simp[Xj]) (k:=k) (by omega);have m2:=Yv6 (X:=(Xj b).buckets) (Y:=b.buckets) (by simp[Xj];omega) (k:=k) (by omega);rw[Qj (by omega),Qj (by omega),Qj hk];refine⟨m1.1,?_,m2.1,?_⟩
 .have:=m1.2
  simp only[Xj,List.getElem_map] at this;exact this
 .have:=m2.2
  simp only[Xj,List.getElem_zipWith] at this;exact this
end
section
variable {n:Int} {b:Za} {s:Zi}
theorem Ycw (h:Yz n b) (s:Zi) (hd:b.data_=Zh.z0):Yz n (Xg b)/\Yz n (Q2 (Xg b) s):=⟨Yd2 h,(Ydx (Yd2 h) s (by rw[(Zyz b).1];exact hd)).1⟩
theorem Yqw (x0:Za) (w:Zg) (h:Yz n b) (hs:s.sm) (hd:b.data_=Zh.z0) (hp:0<=b.picks/\b.picks<=4000) (hn:0<=b.now/\b.now<=4000):(if decide (b.holder≠(-1))=true then Ja x0 s b w (decide (b.held=b.conf.lockMost)) else Ja x0 s b w false)=some ({w with got:=(Ww b s).1},{(Ww b s).2 with now:=b.now+1}):=by
 obtain⟨h1,h2⟩:=Ycw h s hd;have e1:=Zyz b;have hJ9:∀(c:Za) (w:Zg),Yz n c->c.now=b.now->Ze1 x0 s c w=some ({w with got:=(Je c).1},{(Je c).2 with now:=b.now+1}):=by
  intro c w hc hcn;unfold Ze1 Zfa;rw[Yx4 hc,ZZa];simp only;rw[(Z6p hc).1,hcn,Ys (by omega) (by omega)]
 have hJ8:∀w:Zg,Zco x0 s (Xg b) w=some ({w with got:=(Ww b s).1},{(Ww b s).2 with now:=b.now+1}):=by
  intro w;unfold Zco Ww;have e2:=Z5h (Xg b) s;by_cases hl:(Xg b).addr.live=true
  .rw[ZZj hl,Ysc h1 hs hl,ZZa,Ys (by rw[e1.2.2.1];omega) (by rw[e1.2.2.1];omega)]
   have hb:Q2 (Xg b) s={Xg b with addr:=Zh.z0,data_:={(Xg b).addr with left:=(Zdh (Xg b) s (Xg b).addr).2,resp:=(Zdh (Xg b) s (Xg b).addr).1},picks:=(Xg b).picks+1}:=by
    unfold Q2;rw[ZZj hl]
   rw[<-hb];exact hJ9 _ _ h2 (by rw[e2.1,e1.2.2.2.1])
  .rw[ZZi hl]
   have hb:Q2 (Xg b) s=Xg b:=by
    unfold Q2;rw[ZZi hl]
   rw[hb];exact hJ9 _ _ h1 e1.2.2.2.1
 have hJ6:Ja x0 s b w false=Zco x0 s b w:=by unfold Ja;rw[ZZi (by simp)]
 by_cases e:b.holder=-1
 .have hb:Xg b=b:=by unfold Xg;rw[ZZi (λhx:b.holder≠-1/\b.held=b.conf.lockMost=>hx.1 e)]
  rw[ZZi (by simpa using e),hJ6];have:=hJ8 w
  rwa [hb] at this
 .rw[ZZj (by simpa using e)]
  by_cases e2:b.held=b.conf.lockMost
  .have hb:Xg b=Yy3 {b with m:=b.m.set b.holder.toNat {atI b.m b.holder with broken:=true}}:=by unfold Xg;rw[ZZj ⟨e,e2⟩]
   unfold Ja Zna;rw[decide_eq_true e2,ZZj rfl,Wf h.ml (Ze9 h e).1,ZZa,Wz,ZZa,ZZa];have:=hJ8 w;rw[hb] at this;exact this
  .have hb:Xg b=b:=by unfold Xg;rw[ZZi (λhx:b.holder≠-1/\b.held=b.conf.lockMost=>e2 hx.2)]
   rw[decide_eq_false e2,hJ6];have:=hJ8 w
   rwa [hb] at this
theorem Yqb (x0:Za) (w:Zg) (h:Yz n b) (hs:s.sm) (hd:b.data_=Zh.z0) (hp:0<=b.picks/\b.picks<=4000) (hn:0<=b.now/\b.now<=4000) (hg:w.got=-1):(if decide (b.holder≥0)=true then J3 x0 s b w (decide (b.held≥b.conf.lockMost)) else J3 x0 s b w false)=some ({(Ww b s).2 with now:=b.now+1},{w with got:=(Ww b s).1}):=by
 obtain⟨h1,h2⟩:=Ycw h s hd;have e1:=Zyz b;have e2:=Z5h (Xg b) s;have hz:=(Ydx h1 s (by rw[e1.1];exact hd)).2;have hJ9:Zdm x0 s (Xg b) w=some ({(Ww b s).2 with now:=b.now+1},{w with got:=(Ww b s).1}):=by
  unfold Zdm Zdg Ww;have hgr:=Yw7 h2;have hgd:=(Z6p h2).1;rw[Yxz h1 hs (by rw[e1.2.2.1];exact hp),ZZa,hgr,ZZa];have hpk:=Zws h2;rw[hgd,e2.1,e1.2.2.2.1,Ys (by omega) (by omega)];unfold Je;rcases hpk.who with hw|hw
  .rw[ZZj (show (Zaf (Q2 (Xg b) s)).1 < 0 by rw[hw];decide)]
   have:(Zaf (Q2 (Xg b) s)).2.2.addr.live=false:=by rw[hpk.addr,hz]
   rw[ZZi (by simp[this])];rw[show (-1,(Zaf (Q2 (Xg b) s)).2.2).1=w.got from hg.symm]
  .have hmb:=We hw.1
   rw[ZZi (show ¬(Zaf (Q2 (Xg b) s)).1 < 0 by omega),ZZj (by rfl)];rfl
 have hh:=Z16 h;have Yb:b.holder≥0↔b.holder≠-1:=by
  rcases hh with hh|hh
  .omega
  .have:=We hh;omega
 have hJ7:J3 x0 s b w false=Zdm x0 s b w:=by unfold J3;rw[ZZi (by simp)]
 by_cases e:b.holder=-1
 .have hb:Xg b=b:=by unfold Xg;rw[ZZi (λhx:b.holder≠-1/\b.held=b.conf.lockMost=>hx.1 e)]
  rw[ZZi (by simp;omega),hJ7]
  rwa [hb] at hJ9
 .rw[ZZj (by simpa using Yb.2 e)]
  have hhe:=(Ze9 h e).2.2.2;by_cases e2:b.held=b.conf.lockMost
  .have hb:Xg b=Yy3 {b with m:=b.m.set b.holder.toNat {atI b.m b.holder with broken:=true}}:=by unfold Xg;rw[ZZj ⟨e,e2⟩]
   unfold J3;rw[decide_eq_true (show b.held≥b.conf.lockMost by omega),ZZj rfl,Wf h.ml (Ze9 h e).1,ZZa,Wz,ZZa];rw[hb] at hJ9;exact hJ9
  .have hb:Xg b=b:=by unfold Xg;rw[ZZi (λhx:b.holder≠-1/\b.held=b.conf.lockMost=>e2 hx.2)]
   rw[decide_eq_false (show ¬b.held≥b.conf.lockMost by omega),hJ7]
   rwa [hb] at hJ9
theorem Y64 (x0:Za) (w:Zg) (h:Yz b.now b) (hs:s.sm) (hw:w.ready=true) (hg:w.resp=0) (hp:0<=b.picks/\b.picks<=4000) (hn:0<=b.now/\b.now < 4000):
  Jb x0 s b w=some (if (Ya b s).2.1=true then ({w with resp:=(Ya b s).2.2,got:=(Ww (Ya b s).1 s).1},{(Ww (Ya b s).1 s).2 with now:=b.now+1}) else ({w with ready:=false,resp:=(Ya b s).2.2},{(Ya b s).1 with now:=b.now+1})):=by
 have hf:=Z9h s hn.1 h;have hfn:=Z5m b s;obtain⟨w1,w2,w3,w4,w5,w6,rdy,rsp,w9⟩:=w;simp only at hw hg;subst hw;subst hg;unfold Jb;rw[Yt9 (Zg.mk w1 w2 w3 w4 w5 w6 true 0 w9) h hs (by omega),ZZa];simp only;have hresp:(if b.data_.live=true/\¬b.data_.left > 0 then Zg.mk w1 w2 w3 w4 w5 w6 true b.data_.resp w9 else Zg.mk w1 w2 w3 w4 w5 w6 true 0 w9)=Zg.mk w1 w2 w3 w4 w5 w6 true (Ya b s).2.2 w9:=by
  unfold Ya;by_cases hd:b.data_.live=true
  .by_cases hl:b.data_.left > 0
   .rw[ZZi (λhx:b.data_.live=true/\¬b.data_.left > 0=>hx.2 hl),ZZi (by simp[hd]),ZZj hl]
   .rw[ZZj ⟨hd,hl⟩,ZZi (by simp[hd]),ZZi hl]
    congr 1
    split
    .rfl
    .split
     .rfl
     .split<;>rfl
  .rw[ZZi (λhx:b.data_.live=true/\¬b.data_.left > 0=>hd hx.1),ZZj (by simpa using hd)]
 rw[hresp];by_cases hr:(Ya b s).2.1=true
 .rw[ZZj hr,ZZj hr]
  simp only[hr];have:=Yqw x0 (Zg.mk w1 w2 w3 w4 w5 w6 true (Ya b s).2.2 w9) hf.1 hs (hf.2 hr) (by rw[hfn.2.1];exact hp) (by rw[hfn.1];omega);rw[hfn.1] at this;exact this
 .rw[ZZi hr,ZZi hr]
  unfold Zfa;have Z6:(Ya b s).2.1=false:=by simpa using hr
  rw[Z6,hfn.1,Ys (by omega) (by omega)]
theorem Y5z (x0:Za) (w:Zg) (h:Yz b.now b) (hs:s.sm) (hw:w.ready=true) (hg:w.resp=0) (hgot:w.got=-1) (hp:0<=b.picks/\b.picks<=4000) (hn:0<=b.now/\b.now < 4000):
  J4 x0 s b w=some (if (Ya b s).2.1=true then ({(Ww (Ya b s).1 s).2 with now:=b.now+1},{w with resp:=(Ya b s).2.2,got:=(Ww (Ya b s).1 s).1}) else ({(Ya b s).1 with now:=b.now+1},{w with ready:=false,resp:=(Ya b s).2.2})):=by
 have hf:=Z9h s hn.1 h;have hfn:=Z5m b s;have Yzl:=(Qk h.conf).2.1;obtain⟨w1,w2,w3,w4,w5,w6,rdy,rsp,w9⟩:=w;simp only at hw hg hgot;subst hw;subst hg;subst hgot;have hT:∀w2:Zg,w2.ready=true->w2.got=-1->(Ya b s).2.1=true->Q6 x0 s (Ya b s).1 w2=some ({(Ww (Ya b s).1 s).2 with now:=b.now+1},{w2 with got:=(Ww (Ya b s).1 s).1}):=by
  intro w2 h1 h2 hr;unfold Q6;rw[ZZj h1];have:=Yqb x0 w2 hf.1 hs (hf.2 hr) (by rw[hfn.2.1];exact hp) (by rw[hfn.1];omega) h2;rw[hfn.1] at this;exact this
 have hF:∀(c:Za) (w2:Zg),w2.ready=false->c.now=b.now->Q6 x0 s c w2=some ({c with now:=b.now+1},w2):=by
  intro c w2 h1 h2;unfold Q6 Zdg;rw[ZZi (by simp[h1]),h2,Ys (by omega) (by omega)]
 unfold J4 Zk2;by_cases hd:b.data_.live=true
 .have Za5:=h.data
  unfold Kj at Za5;rw[ZZj hd] at Za5;rw[ZZj hd];by_cases hl:b.data_.left > 0
  .have e:Ya b s=({b with data_:={b.data_ with left:=b.data_.left - 1}},false,0):=by
    unfold Ya;rw[ZZi (by simp[hd]),ZZj hl]
   rw[decide_eq_true hl,ZZj rfl,Xe (by omega) (by omega),hF {b with data_:={b.data_ with left:=b.data_.left - 1}} (Zg.mk w1 w2 w3 w4 w5 w6 false 0 (-1)) rfl rfl,e,ZZi (by simp)]
  .rw[decide_eq_false hl,ZZi (by simp),ZZj hd]
   have Yip:¬(b.data_.resp≠0/\b.data_.second=false)->J2 x0 s b (Zg.mk w1 w2 w3 w4 w5 w6 true 0 (-1)) false=some (if (Ya b s).2.1=true then ({(Ww (Ya b s).1 s).2 with now:=b.now+1},Zg.mk w1 w2 w3 w4 w5 w6 true (Ya b s).2.2 (Ww (Ya b s).1 s).1) else ({(Ya b s).1 with now:=b.now+1},Zg.mk w1 w2 w3 w4 w5 w6 false (Ya b s).2.2 (-1))):=by
    intro hns;unfold J2;rw[ZZi (by simp),ZZj hd,Ysp h hs (by omega) hd hl hns,ZZa];have hr:(Ya b s).2.1=true/\(Ya b s).2.2=b.data_.resp:=by
     unfold Ya;rw[ZZi (by simp[hd]),ZZi hl,ZZi hns];split
     .exact⟨rfl,rfl⟩
     .split<;>exact⟨rfl,rfl⟩
    rw[ZZj hr.1,hr.2];exact hT _ rfl rfl hr.1
   by_cases h2:b.data_.resp≠0
   .rw[ZZj (decide_eq_true h2)]
    by_cases h3:b.data_.second=false
    .rw[h3]
     have e:Ya b s=(if b.addr.live then {Wh {b with data_:={b.data_ with second:=true}} b.addr with addr:=Zh.z0} else {b with data_:={b.data_ with second:=true}},false,b.data_.resp):=by
      unfold Ya;rw[ZZi (by simp[hd]),ZZi hl,ZZj ⟨h2,h3⟩]
     have hq:∀(x y:Option (Za×Zg)),(if (Ya b s).2.1=true then x else y)=y:=by
      intro x y;rw[e];exact ZZi (by simp)
     have hq2:(some (if (Ya b s).2.1=true then ({(Ww (Ya b s).1 s).2 with now:=b.now+1},Zg.mk w1 w2 w3 w4 w5 w6 true (Ya b s).2.2 (Ww (Ya b s).1 s).1) else ({(Ya b s).1 with now:=b.now+1},Zg.mk w1 w2 w3 w4 w5 w6 false (Ya b s).2.2 (-1))))=some ({(Ya b s).1 with now:=b.now+1},Zg.mk w1 w2 w3 w4 w5 w6 false b.data_.resp (-1)):=by
      rw[show (Ya b s).2.2=b.data_.resp by rw[e]];exact congrArg some (ZZi (by rw[e];simp))
     refine Eq.trans ?_ hq2.symm;unfold J2;rw[ZZj (by rfl),show (Ya b s).1=(if b.addr.live then {Wh {b with data_:={b.data_ with second:=true}} b.addr with addr:=Zh.z0} else {b with data_:={b.data_ with second:=true}}) by rw[e]];by_cases ha:b.addr.live=true
     .rw[ZZj ha,ZZj ha]
      have hwa:=Zbg h ha;rw[Z3t (b:={b with addr:=Zh.z0,data_:={b.data_ with second:=true}}) b.addr h.conf hwa h.ml h.bl (h.mst _ hwa).right h.arb,ZZa];have er:Wh {b with addr:=Zh.z0,data_:={b.data_ with second:=true}} b.addr={Wh {b with data_:={b.data_ with second:=true}} b.addr with addr:=Zh.z0}:=by
       unfold Wh;split
       .rfl
       .split<;>rfl
      rw[er];exact hF _ _ rfl (Zyl _ _).1
     .rw[ZZi ha,ZZi ha]
      exact hF _ _ rfl rfl
    .have h4:b.data_.second=true:=by simpa using h3
     rw[h4,Va5];exact Yip λhx=>h3 hx.2
   .rw[ZZi (by simpa using h2)]
    exact Yip λhx=>h2 hx.1
 .have hd2:b.data_.live=false:=by simpa using hd
  have e:Ya b s=(b,true,0):=by unfold Ya;rw[ZZj hd2]
  rw[ZZi hd,ZZi (by simp),ZZi hd];unfold J2;have:=hT (Zg.mk w1 w2 w3 w4 w5 w6 true 0 (-1)) rfl rfl (by rw[e]);rw[e] at this ⊢;rw[ZZi (by simp),ZZi hd,ZZj rfl];simp only at this ⊢;rw[this]
theorem Y6o (x0:Za) (w:Zg) (h:Yz b.now b) (hs:s.sm) (hw:w.ready=true) (hg:w.resp=0) (hp:0<=b.picks/\b.picks<=4000) (hn:0<=b.now/\b.now < 4000):
  Zaq x0 s FU b w (b.splits.length:Int) 0=Jb x0 s (Jt (Xj b)) w:=by
 have Yp:=Zar h.conf;have hsl:=h.sl;rw[hsl];have:=Zdj (σ:=Za×Zg×Int) (n:=b.conf.masters.length) (by omega) (λk=>(Zlp b k,w,(b.conf.masters.length:Int))) (B:=λκ st i=>Zhp x0 s (λa b c i=>κ (a,b,c) i) st.1 st.2.1 st.2.2 i) (L:=λm st i=>Zaq x0 s m st.1 st.2.1 st.2.2 i) (λm s i=>rfl) (r:=Jb x0 s (Jt (Xj b)) w) (λk hk κ=>?_) λκ=>?_
 .simp only[Yvq] at this
  exact this
 .have hmk:=mas (c:=b.conf) hk
  obtain⟨t1,t2,t3,t4⟩:=Ygg h hk;have hsp:=(h.mst _ hmk).split;have hlm:=(Qk h.conf).2.2.2;unfold Zhp;simp only;rw[ZZj (by simpa using hk),t1,ZZa,Wz,ZZa,t3,ZZa,show (Zlp b k).conf=b.conf from rfl,Z2o hmk,ZZa,Yif _ (Zkf h.conf hmk),ZZa,Wz,ZZa,Xe (by omega) (by omega),Zux,Vbr,t2,t4];rfl
 .have hto:=Z6h h
  unfold Zhp;simp only[Ylv h];rw[ZZi (by simp)];unfold Jt;by_cases e:b.holder=-1
  .rw[ZZi (by simp[Xj,e]),ZZj (show (Xj b).holder=-1 from e)]
  .have hh:=(Ze9 hto (show (Xj b).holder≠-1 from e)).2.2.2
   have hl:=(Qk h.conf).2.2.1;have h3:(Xj b).conf.lockMost=b.conf.lockMost:=rfl;rw[ZZj (by simp[Xj,e]),ZZi (show ¬(Xj b).holder=-1 from e),Ys (by omega) (by omega),Zcn]
theorem Y6b (x0:Za) (w:Zg) (h:Yz b.now b) (hs:s.sm):Zbt x0 s FU b w 0=J4 x0 s (Jt (Xj b)) w:=by
 have Yp:=Zar h.conf;have hml:=h.ml;have:=Zdj (σ:=Za×Zg) (n:=b.conf.masters.length) (by omega) (λk=>(Zlp b k,w)) (B:=λκ st i=>Zjk x0 s (λa b i=>κ (a,b) i) st.1 st.2 i) (L:=λm st i=>Zbt x0 s m st.1 st.2 i) (λm s i=>rfl) (r:=J4 x0 s (Jt (Xj b)) w) (λk hk κ=>?_) λκ=>?_
 .simp only[Yvq] at this
  exact this
 .have hmk:=mas (c:=b.conf) hk
  obtain⟨t1,t2,t3,t4⟩:=Ygg h hk;have hsp:=(h.mst _ hmk).split;have hlm:=(Qk h.conf).2.2.2;unfold Zjk;simp only;rw[ZZj (by show decide ((k:Int) < (b.m.length:Int))=true;rw[hml];simpa using hk),t1,ZZa,Wz,ZZa,t3,ZZa,show (Zlp b k).conf=b.conf from rfl,Z2o hmk,ZZa,Yfk _ (Zkf h.conf hmk),ZZa,Wz,ZZa,Xe (by omega) (by omega),Zux,Int.max_comm,Vbr,t2,t4];rfl
 .have hto:=Z6h h
  have hh:=Z16 h;unfold Zjk;simp only[Ylv h];rw[ZZi (by show ¬decide ((b.conf.masters.length:Int) < (b.m.length:Int))=true;rw[hml];simp)];unfold Jt;by_cases e:b.holder=-1
  .rw[ZZi (by show ¬decide (b.holder≥0)=true;rw[e];simp),ZZj (show (Xj b).holder=-1 from e)]
  .have hh2:=(Ze9 hto (show (Xj b).holder≠-1 from e)).2.2.2
   have hl:=(Qk h.conf).2.2.1;have h3:(Xj b).conf.lockMost=b.conf.lockMost:=rfl;have hmb:=We (Ze9 h e).1;rw[ZZj (by show decide (b.holder≥0)=true;simpa using hmb.1),ZZi (show ¬(Xj b).holder=-1 from e),Ys (by omega) (by omega),Zcn,Vdn]
theorem Yug (h:Yz n b):Znl b s=Ze7 b s (Zky b):=by
 unfold Znl Ze6 Zky;by_cases ha:b.addr.live=true
 .have hwa:=Zbg h ha
  by_cases hd:b.data_.live=true
  .have hwd:=Qy h hd
   simp only[ha,hd,if_true,Wf h.ml hwa,Wf h.ml hwd,ZZa,Zeo _ (h.mst _ hwa).right,Zeo _ (h.mst _ hwd).right];by_cases hf:b.addr.first=true<;>simp[hf]
  .have hd2:b.data_.live=false:=by simpa using hd
   simp only[ha,hd2,if_true,ZZf,if_false,Wf h.ml hwa,ZZa,Zeo _ (h.mst _ hwa).right];by_cases hf:b.addr.first=true<;>simp[hf]
 .have Kt:b.addr.live=false:=by simpa using ha
  by_cases hd:b.data_.live=true
  .have hwd:=Qy h hd
   simp only[Kt,hd,if_true,ZZf,if_false,Wf h.ml hwd,ZZa,Zeo _ (h.mst _ hwd).right]
  .have hd2:b.data_.live=false:=by simpa using hd
   simp only[Kt,hd2,if_true,ZZf,if_false]
theorem Y00 (h:Yz n b):Zvp b=some (Zky b):=by
 unfold Zvp Zf6 Zky;by_cases ha:b.addr.live=true
 .have hwa:=Zbg h ha
  by_cases hd:b.data_.live=true
  .have hwd:=Qy h hd
   simp only[ha,hd,if_true,Wf h.ml hwa,Wf h.ml hwd,ZZa,Zif _ (h.mst _ hwa).right,Zif _ (h.mst _ hwd).right];by_cases hf:b.addr.first=true<;>simp[hf]
  .have hd2:b.data_.live=false:=by simpa using hd
   simp only[ha,hd2,if_true,ZZf,if_false,Wf h.ml hwa,ZZa,Zif _ (h.mst _ hwa).right];by_cases hf:b.addr.first=true<;>simp[hf]
 .have Kt:b.addr.live=false:=by simpa using ha
  by_cases hd:b.data_.live=true
  .have hwd:=Qy h hd
   simp only[Kt,hd,if_true,ZZf,if_false,Wf h.ml hwd,ZZa,Zif _ (h.mst _ hwd).right]
  .have hd2:b.data_.live=false:=by simpa using hd
   simp only[Kt,hd2,if_true,ZZf,if_false]
theorem Y63 (x0:Za) (w:Zg) (h:Yz n b) (ps:List Zm) (hps:ps.length < 1048577/\∀p∈ps,p.req.sm):Ze2 x0 s FU b w ps (ps.length:Int) 0=Zaq x0 s FU (Xw b ps) w ((Xw b ps).splits.length:Int) 0:=by
 have Yb:=Zcg h.conf;have:=Zdj (σ:=Za×Zg×List Zm×Int) (n:=ps.length) (by omega) (λk=>(Xw b (ps.take k),w,ps,(ps.length:Int))) (B:=λκ st i=>Zhs x0 s (λa b c d i=>κ (a,b,c,d) i) st.1 st.2.1 st.2.2.1 st.2.2.2 i) (L:=λm st i=>Ze2 x0 s m st.1 st.2.1 st.2.2.1 st.2.2.2 i) (λm s i=>rfl) (r:=Zaq x0 s FU (Xw b ps) w ((Xw b ps).splits.length:Int) 0) (λk hk κ=>?_) λκ=>?_
 .exact this
 .have hI:=Zsm h (ps.take k)
  have hc:=(Zmd b (ps.take k)).1;rw[Z8y b ps k hk];generalize Xw b (ps.take k)=c at hI hc ⊢;unfold Zhs Kv;simp only;rw[ZZj (by simpa using hk),Xu hk,ZZa,Jm _ _ (by rw[hc];exact Yb),ZZa];by_cases e:Zv c.conf ps[k].who=true
  .obtain⟨ok,hp⟩:=Yqh (r:=ps[k].req) (hI.mst _ e).right (hps.2 _ (Vas hk))
   rw[ZZj e,ZZj e,Wf hI.ml e,ZZa,hp,ZZa,Wz,ZZa]
  .rw[ZZi e,ZZi e]
 .unfold Zhs
  simp only;rw[ZZi (by simp),Vby]
theorem Y59 (x0:Za) (w:Zg) (h:Yz n b) (ps:List Zm) (hps:ps.length < 1048577/\∀p∈ps,p.req.sm):Zgr x0 s FU b w ps 0=Zbt x0 s FU (Xw b ps) w 0:=by
 have Yb:=Zcg h.conf;have:=Zdj (σ:=Za×Zg×List Zm) (n:=ps.length) (by omega) (λk=>(Xw b (ps.take k),w,ps)) (B:=λκ st i=>Zjd x0 s (λa b c i=>κ (a,b,c) i) st.1 st.2.1 st.2.2 i) (L:=λm st i=>Zgr x0 s m st.1 st.2.1 st.2.2 i) (λm s i=>rfl) (r:=Zbt x0 s FU (Xw b ps) w 0) (λk hk κ=>?_) λκ=>?_
 .exact this
 .have hI:=Zsm h (ps.take k)
  have hc:=(Zmd b (ps.take k)).1;rw[Z8y b ps k hk];generalize Xw b (ps.take k)=c at hI hc ⊢;unfold Zjd Kv;simp only;rw[ZZj (by simpa using hk),Xu hk,ZZa,Zj3 hI.ml (by rw[hc];exact Yb),ZZa];by_cases e:Zv c.conf ps[k].who=true
  .obtain⟨ok,hp⟩:=Yqu (r:=ps[k].req) (hI.mst _ e).right (hps.2 _ (Vas hk))
   rw[ZZj e,ZZj e,Wf hI.ml e,ZZa,hp,ZZa,Wz,ZZa]
  .rw[ZZi e,ZZi e]
 .unfold Zjd
  simp only;rw[ZZi (by simp),Vby]
end
theorem Y1c {b:Za} {s:Zi} (h:Zm2 b) (hs:s.sm) (hn:b.now < 4000):Znl b s=some ((Zkz b s).2,(Zkz b s).1):=by
 have hP:=Zsm h.i (Zbd s b.now);have hc:=Zmd b (Zbd s b.now);have hp:=h.picks;have hn2:=h.now;have hO:=Yjx h s;have eO:=Z8f b s;rw[Yug h.i];unfold Ze7;rw[Ypa _ _ hs,ZZa,Y63 b (Zky b) h.i _ (Ypi hs _)];have hP2:Yz (Xw b (Zbd s b.now)).now (Xw b (Zbd s b.now)):=by rw[hc.2.1];exact hP
 rw[Y6o b (Zky b) hP2 hs rfl rfl (by rw[hc.2.2.1];omega) (by rw[hc.2.1];omega)];have hO2:Yz (Ku b s).now (Ku b s):=by rw[eO.1];exact hO
 show Jb b s (Ku b s) (Zky b)=_;rw[Y64 b (Zky b) hO2 hs rfl rfl (by rw[eO.2.2.1];omega) (by rw[eO.1];omega),eO.1];unfold Zkz;split<;>rfl
theorem Yz3 {b:Za} {s:Zi} (h:Zm2 b) (hs:s.sm) (hn:b.now < 4000):Zvj b s=some ((Zkz b s).1,(Zkz b s).2):=by
 have hP:=Zsm h.i (Zbd s b.now);have hc:=Zmd b (Zbd s b.now);have hp:=h.picks;have hn2:=h.now;have hO:=Yjx h s;have eO:=Z8f b s;unfold Zvj;rw[Z88 b h.sm,ZZa,Y00 h.i,ZZa,Yqy _ _ hs,ZZa,Y59 b (Zky b) h.i _ (Ypi hs _)];have hP2:Yz (Xw b (Zbd s b.now)).now (Xw b (Zbd s b.now)):=by rw[hc.2.1];exact hP
 rw[Y6b b (Zky b) hP2 hs];have hO2:Yz (Ku b s).now (Ku b s):=by rw[eO.1];exact hO
 show J4 b s (Ku b s) (Zky b)=_;rw[Y5z b (Zky b) hO2 hs rfl rfl rfl (by rw[eO.2.2.1];omega) (by rw[eO.1];omega),eO.1];unfold Zkz;split<;>rfl
def okB (b:Za):Bool:=(Zma b).getD false
theorem Ybi {b:Za} (hs:b.sm):okB b=true↔Zm2 b:=by
 obtain⟨r,-,h2,h3⟩:=Ye3 b hs;unfold okB;rw[h2];exact h3
theorem i_okB {b:Za} (hs:b.sm):Zrj b=some (okB b):=by
 obtain⟨r,h1,h2,h3⟩:=Ye3 b hs;unfold okB;rw[h1,h2];rfl
theorem s_okB {b:Za} (hs:b.sm):Zma b=some (okB b):=by
 obtain⟨r,h1,h2,h3⟩:=Ye3 b hs;unfold okB;rw[h2];rfl
def Zss (b:Za) (s:Zi):Nat->Za×List Zg
 | 0=>(b,[])
 | n+1=>((Zkz (Zss b s n).1 s).1,(Zss b s n).2++[(Zkz (Zss b s n).1 s).2])
theorem Z4t {b:Za} (h:Zm2 b) (s:Zi):∀(n:Nat),b.now+n<=4000->Zm2 (Zss b s n).1/\(Zss b s n).1.now=b.now+n/\(Zss b s n).1.conf=b.conf/\(Zss b s n).2.length=n:=by
 intro n
 induction n with
 | zero=>intro _;exact⟨h,by simp[Zss],rfl,rfl⟩
 | succ n ih=>
  intro hn;obtain⟨h1,h2,h3,h4⟩:=ih (by omega);have:=Y61 h1 s (by omega);exact⟨this.1,by show (Zkz (Zss b s n).1 s).1.now=_;rw[this.2.1,h2];omega,by show (Zkz (Zss b s n).1 s).1.conf=_;rw[this.2.2,h3],by show ((Zss b s n).2++_).length=_;rw[Vba,h4];rfl⟩
def Zxk (b:Za) (s:Zi) (n:Int):Za×List Zg:=if okB b=true/\0<=n/\n<=4000 - b.now then Zss b s n.toNat else (b,[])
theorem Ytm {b:Za} {s:Zi} (n:Int) (hb:b.sm) (hs:s.sm):Zyh b s n=some (Zxk b s n):=by
 unfold Zyh Zxk;rw[Yc8 b hb,ZZa,i_okB hb,ZZa];unfold Zn9;by_cases h:okB b=true
 .have hP:=(Ybi hb).1 h
  have hN:=hP.now;rw[h,ZZi (by simp),Xe (by omega) (by omega),X3,ZZa];by_cases hn:0<=n/\n<=4000 - b.now
  .rw[decide_eq_true hn,ZZi (by simp),ZZj ⟨rfl,hn⟩]
   obtain⟨k,rfl⟩:∃k:Nat,n=k:=⟨n.toNat,by omega⟩;rw[Vbr];refine Zdj (σ:=Za×List Zg) (n:=k) (by omega) (Zss b s) (B:=λκ st i=>Zlt b s k (λx y i=>κ (x,y) i) st.1 st.2 i) (L:=λm st i=>Zoz b s k m st.1 st.2 i) (λm s i=>rfl) (λj hj κ=>?_) λκ=>?_
   .have hr:=Z4t hP s j (by omega)
    unfold Zlt;rw[ZZj (by simpa using hj),Y1c hr.1 hs (by omega),ZZa,Qu (by simp only[Vag,Va6];omega) (by simp only[Vag,Va6];omega)];rfl
   .have hr:=Z4t hP s k (by omega)
    unfold Zlt;rw[ZZi (by simp),Yc8 _ hr.1.sm];rfl
  .rw[decide_eq_false hn,ZZj (by simp),ZZi (λhx=>hn hx.2)]
 .have h2:okB b=false:=by simpa using h
  simp[h2]
theorem Yui {b:Za} {s:Zi} (n:Int) (hb:b.sm) (hs:s.sm):Zy0 b s n=some (Zxk b s n):=by
 unfold Zy0 Zxk;rw[Z88 b hb,ZZa,s_okB hb,ZZa];unfold Zo5;by_cases h:okB b=true
 .have hP:=(Ybi hb).1 h
  have hN:=hP.now;rw[h,ZZi (by simp),Xe (by omega) (by omega),Xk,ZZa];by_cases hn:0<=n/\n<=4000 - b.now
  .rw[decide_eq_true hn,ZZi (by simp),ZZj ⟨rfl,hn⟩]
   obtain⟨k,rfl⟩:∃k:Nat,n=k:=⟨n.toNat,by omega⟩;rw[Vbr];refine Zdj (σ:=Za×List Zg) (n:=k) (by omega) (Zss b s) (B:=λκ st i=>Zlh b s k (λx y i=>κ (x,y) i) st.1 st.2 i) (L:=λm st i=>Zoq b s k m st.1 st.2 i) (λm s i=>rfl) (λj hj κ=>?_) λκ=>?_
   .have hr:=Z4t hP s j (by omega)
    unfold Zlh;rw[ZZj (by simpa using hj),Yz3 hr.1 hs (by omega),ZZa,Qu (by simp only[Vag,Va6];omega) (by simp only[Vag,Va6];omega)];rfl
   .unfold Zlh
    rw[ZZi (by simp)]
  .rw[decide_eq_false hn,ZZj (by simp),ZZi (λhx=>hn hx.2)]
 .have h2:okB b=false:=by simpa using h
  simp[h2]
def Zbj (left:Int) (n:Nat):Int:=if left < (n:Int) then -1 else left - n
def Sz (f:Int->Option Int) (n:Nat):Prop:=∀left,0<=left->left<=1048576->f left=some (Zbj left n)
theorem Sz.tail {f:Int->Option Int} {n:Nat} (h:Sz f n):Sz (λl=>(f l).bind λr=>if decide (r < 0)=true then some (-1) else some r) n:=by
 intro l h0 h1;dsimp only;rw[h l h0 h1,ZZa];unfold Zbj;by_cases hc:l < (n:Int)
 .simp[hc]
 .rw[ZZi hc,ZZi (by simp;omega)]
theorem Sz.seq {f g:Int->Option Int} {n m:Nat} (h:Sz f n) (k:Sz g m):Sz (λl=>(f l).bind λr=>if decide (r < 0)=true then some (-1) else g r) (n+m):=by
 intro l h0 h1;dsimp only;rw[h l h0 h1,ZZa];unfold Zbj;by_cases hc:l < (n:Int)
 .rw[ZZj hc,ZZj (by decide),ZZj (by omega)]
 .rw[ZZi hc,ZZi (by simp;omega),k _ (by omega) (by omega)]
  unfold Zbj;by_cases hd:l - (n:Int) < (m:Int)
  .rw[ZZj hd,ZZj (by omega)]
  .rw[ZZi hd,ZZi (by omega)]
   congr 1;omega
theorem Sz.flat {n:Nat} (hn:n<=9223372036854775807):Sz (λl=>if decide ((Y6 l (n:Int)) < 0)=true then some (-1) else some (Y6 l (n:Int))) n:=by
 intro l h0 h1;dsimp only;rw[Xe (by omega) (by omega)];unfold Zbj;by_cases h:l < (n:Int)
 .rw[ZZj (by simp;omega),ZZj h]
 .rw[ZZi (by simp;omega),ZZi h]
theorem Sz.list {α:Type} (xs:List α) (f:α->Int->Option Int) (t:α->Nat) (hn:xs.length<=9223372036854775807) (hf:∀a∈xs,Sz (f a) (t a)) (L:Int->Nat->Int->Int->Option Int)
  (hL:∀l m v i,L l (m+1) v i=if decide (i < (xs.length:Int))=true then (idx xs i).bind λa=>(f a v).bind λr=>if decide (r < 0)=true then some (-1) else L l m r (Zq i 1) else some v):
  Sz (λl=>if decide ((Y6 l (xs.length:Int)) < 0)=true then some (-1) else L l FU (Y6 l (xs.length:Int)) 0) (xs.length+(xs.map t).sum):=by
 intro l h0 h1;dsimp only;rw[Xe (by omega) (by omega)];by_cases h:l < (xs.length:Int)
 .rw[ZZj (by simp;omega)]
  unfold Zbj;rw[ZZj (by omega)]
 .rw[ZZi (by simp;omega)]
  have key:=Ydu (ρ:=Int) xs (by omega) (λa s=>(f a s).bind λr=>if decide (r < 0)=true then some (.inr (-1)) else some (.inl r)) some (L l) (λm s i=>by
   rw[hL]
   congr 1;congr 1;funext a
   cases f a s with
   | none=>rfl
   | some r=>
    simp only[ZZa];by_cases hr:r < 0<;>simp[hr,goL]) (l - xs.length)
  rw[key];have run:∀(ys:List α) (s:Int),0<=s->s<=1048576->(∀a∈ys,Sz (f a) (t a))->Z3c (λa s=>(f a s).bind λr=>if decide (r < 0)=true then some (.inr (-1)) else some (.inl r)) some ys s=some (Zbj s (ys.map t).sum):=by
   intro ys
   induction ys with
   | nil=>intro s hs0 _ _;simp[Z3c,Zbj];omega
   | cons p ys ih=>
    intro s hs0 hs1 hp;simp only[Z3c,hp p Vaa s hs0 hs1,ZZa,Va1,Vdb];unfold Zbj;by_cases hr:s < (t p:Int)
    .rw[ZZj hr,ZZj (by decide),ZZj (by omega)]
     rfl
    .rw[ZZi hr,ZZi (by simp;omega)]
     simp only[ZZa];rw[ih _ (by omega) (by omega) (λq hq=>hp q (Vac _ hq))];unfold Zbj;by_cases h3:s - (t p:Int) < ((ys.map t).sum:Nat)
     .rw[ZZj h3,ZZj (by omega)]
     .rw[ZZi h3,ZZi (by omega)]
      congr 1;omega
  rw[run xs _ (by omega) (by omega) hf];unfold Zbj;by_cases h3:l - (xs.length:Int) < ((xs.map t).sum:Nat)
  .rw[ZZj h3,ZZj (by omega)]
  .rw[ZZi h3,ZZi (by omega)]
   congr 1;omega
theorem Zpl {α:Type} {xs:List α} {t:α->Nat} {a:α} (h:a∈xs):t a<=(xs.map t).sum:=by
 induction xs with
 | nil=>simp at h
 | cons q l ih=>
  simp only[Va1,Vdb];rcases Vau.1 h with rfl|h
  .omega
  .have:=ih h;omega
def Zf.tot (r:Zf):Nat:=r.data_.length
def Zbx (l:List Zf):Nat:=l.length+(l.map Zf.tot).sum
def Zb.tot (m:Zb):Nat:=Zbx m.queue
def Zei (l:List Zb):Nat:=l.length+(l.map Zb.tot).sum
def Zj.tot (m:Zj):Nat:=m.mem.length+(m.dev.regs.length+m.dev.fifo.length)
def Za.tot (b:Za):Nat:=b.conf.masters.length+(Zei b.m+(b.buckets.length+(b.splits.length+(b.model.tot+b.log.length))))
theorem Y1o (c:Zl) (h:c.ok):Sz (Z5a c) c.masters.length:=(Sz.flat (by have:=h.1.1;unfold maxLen at this;omega)).tail
theorem Yqk (r:Zf) (h:r.ok):Sz (Zw8 r) r.tot:=(Sz.flat (by have:=h.2.2.2.2.2.1;unfold maxLen at this;omega)).tail
theorem Y1h (l:List Zf) (h0:l.length<=maxLen) (h:∀r∈l,r.ok):Sz (Z6r l) (Zbx l):=
 Sz.list l Zw8 Zf.tot (by unfold maxLen at h0;omega) (λa ha=>Yqk a (h a ha)) (Zou l) (λ_ _ _ _=>rfl)
theorem Y4s (m:Zb) (h:m.ok):Sz (Z2m m) m.tot:=(Y1h m.queue h.1.1 h.1.2).tail
theorem Y0m (l:List Zb) (h0:l.length<=maxLen) (h:∀r∈l,r.ok):Sz (Z5e l) (Zei l):=
 Sz.list l Z2m Zb.tot (by unfold maxLen at h0;omega) (λa ha=>Y4s a (h a ha)) (Zoa l) (λ_ _ _ _=>rfl)
theorem Yxx (m:Zj) (h:m.ok):Sz (Z22 m) m.tot:=by
 have h1:=h.1.1;have h2:=h.2.1.1;have h3:=h.2.2.2.1;unfold maxLen at h1 h2 h3;exact (Sz.flat (by omega)).seq ((Sz.flat (by omega)).seq (Sz.flat (by omega)).tail).tail
theorem Y3f (b:Za) (h:b.ok):Sz (Zwm b) b.tot:=by
 obtain⟨h1,-,h2,-,h3,h4,-,-,-,-,-,h5,-,h6⟩:=h;have a3:=h3.1;have a4:=h4.1;have a6:=h6.1;unfold maxLen at a3 a4 a6;exact (Y1o _ h1).seq ((Y0m _ h2.1 h2.2).seq ((Sz.flat (by omega)).seq ((Sz.flat (by omega)).seq ((Yxx _ h5).seq (Sz.flat (by omega)).tail))))
theorem Znu (xs:List Int) (hl:xs.length < 1048577):Zcy xs=some xs:=by
 unfold Zcy;rw[Zwq (by omega) (by omega),ZZa];have:=Zqy xs id (by omega) some (λa _=>rfl) (Zox xs) (λm v i=>rfl) (List.replicate xs.length 0) (by simp);simpa using this
theorem Y0a (c:Zl) (hl:c.masters.length < 1048577):Zyw c=some c:=by
 have:Zsd c.masters=some c.masters:=by
  unfold Zsd;rw[Zwq (by omega) (by omega),ZZa];have:=Zqy c.masters id (by omega) Z25 (λa _=>rfl) (Zjc c.masters) (λm v i=>rfl) (List.replicate c.masters.length Zd.z0) (by simp);simpa using this
 unfold Zyw;rw[this];rfl
theorem You (r:Zf) (h:r.data_.length < 1048577):Zrk r=some r:=by
 unfold Zrk;rw[Znu _ h];rfl
theorem Y14 (l:List Zf) (h:Zbx l < 1048577):Zyy l=some l:=by
 unfold Zbx at h;unfold Zyy;rw[Zwq (by omega) (by omega),ZZa];have:=Zqy l id (by omega) Zrk (λa ha=>You a (by have:=Zpl (t:=Zf.tot) ha;unfold Zf.tot at this h;omega)) (Zo0 l) (λm v i=>rfl) (List.replicate l.length Zf.z0) (by simp);simpa using this
theorem Y1l (l:List Zb) (h:Zei l < 1048577):Zyg l=some l:=by
 unfold Zei at h;unfold Zyg;rw[Zwq (by omega) (by omega),ZZa];have:=Zqy l id (by omega) Z12 (λa ha=>by
  unfold Z12;rw[Y14 _ (by have:=Zpl (t:=Zb.tot) ha;unfold Zb.tot at this h;omega)];rfl) (Zot l) (λm v i=>rfl) (List.replicate l.length Zb.z0) (by simp)
 simpa using this
theorem Yxw (m:Zj) (h:m.tot < 1048577):Zvq m=some m:=by
 unfold Zj.tot at h;unfold Zvq Z8e;rw[Znu _ (by omega),ZZa,Znu _ (by omega),ZZa,Znu _ (by omega)];rfl
theorem Y36 (b:Za) (h:b.tot < 1048577):Z19 b=some b:=by
 unfold Za.tot at h;have e1:Zqh b.buckets=some b.buckets:=by
  unfold Zqh;rw[Zwq (by omega) (by omega),ZZa];have:=Zqy b.buckets id (by omega) Zz9 (λa _=>rfl) (Zhj b.buckets) (λm v i=>rfl) (List.replicate b.buckets.length Zc.z0) (by simp);simpa using this
 have e2:Zv9 b.log=some b.log:=by
  unfold Zv9;rw[Zwq (by omega) (by omega),ZZa];have:=Zqy b.log id (by omega) Z5d (λa _=>rfl) (Zk0 b.log) (λm v i=>rfl) (List.replicate b.log.length Zn.z0) (by simp);simpa using this
 unfold Z19;rw[Y0a _ (by omega),ZZa,Y1l _ (by omega),ZZa,show Z8a b.arb=some b.arb from rfl,ZZa,e1,ZZa,Znu _ (by omega),ZZa,show Zsp b.addr=some b.addr from rfl,ZZa,show Zsp b.data_=some b.data_ from rfl,ZZa,Yxw _ (by omega),ZZa,e2];rfl
theorem Zuq {α:Type} (xs:List α) (hl:xs.length < 4611686018427387904) (e:α->α->Option Bool) (L:Nat->Int->Option Bool)
  (hL:∀m i,L (m+1) i=if decide (i < (xs.length:Int))=true then (idx xs i).bind λa=>(idx xs i).bind λb=>(e a b).bind λr=>if (!r)=true then some false else L m (Zq i 1) else some true)
  (he:∀a∈xs,e a a=some true):(if decide ((xs.length:Int)≠(xs.length:Int))=true then some false else L FU 0)=some true:=by
 rw[ZZi (by simp)];refine Yo3 (n:=xs.length) hl (B:=λκ i=>if decide (i < (xs.length:Int))=true then (idx xs i).bind λa=>(idx xs i).bind λb=>(e a b).bind λr=>if (!r)=true then some false else κ (Zq i 1) else some true) (L:=L) hL (λk hk κ=>?_) λκ=>?_
 .rw[ZZj (by simpa using hk),Xu hk,ZZa,ZZa,he _ (Vas hk)]
  rfl
 .rw[ZZi (by simp)]
theorem Zg5 (xs:List Int) (hl:xs.length < 1048577):Zc0 xs xs=some true:=by
 unfold Zc0;rw[ZZi (by simp)];refine Yo3 (n:=xs.length) (by omega) (B:=Zkq xs xs) (L:=Zo8 xs xs) (λm i=>rfl) (λk hk κ=>?_) λκ=>?_
 .unfold Zkq
  rw[ZZj (by simpa using hk),Xu hk];simp
 .unfold Zkq
  rw[ZZi (by simp)]
theorem Yqg (m:Zd):Zpz m m=some true:=by unfold Zpz;simp
theorem Yu1 (c:Zl) (hl:c.masters.length < 1048577):Zyt c c=some true:=by
 have:Zt1 c.masters c.masters=some true:=by
  unfold Zt1;exact Zuq c.masters (by omega) Zpz (Zi1 c.masters c.masters) (λm i=>rfl) (λa _=>Yqg a)
 unfold Zyt;rw[this];simp
theorem Yhe (r:Zf) (h:r.data_.length < 1048577):Zrn r r=some true:=by
 unfold Zrn;rw[Zg5 _ h];simp
theorem Yty (l:List Zf) (h:Zbx l < 1048577):Zx3 l l=some true:=by
 unfold Zbx at h;unfold Zx3;exact Zuq l (by omega) Zrn (Zoy l l) (λm i=>rfl) (λa ha=>Yhe a (by have:=Zpl (t:=Zf.tot) ha;unfold Zf.tot at this h;omega))
theorem Ytj (l:List Zb) (h:Zei l < 1048577):Zyi l l=some true:=by
 unfold Zei at h;unfold Zyi;exact Zuq l (by omega) Z1u (Zo7 l l) (λm i=>rfl) (λa ha=>by
  unfold Z1u;rw[Yty _ (by have:=Zpl (t:=Zb.tot) ha;unfold Zb.tot at this h;omega)];simp)
theorem Ypj (m:Zj) (h:m.tot < 1048577):Zvv m m=some true:=by
 unfold Zj.tot at h;unfold Zvv Z8g;rw[Zg5 _ (by omega),Zg5 m.dev.regs (by omega),Zg5 m.dev.fifo (by omega)];simp
theorem Ysb (d:Zn):Ztf d d=some true:=by unfold Ztf;simp
theorem Yoh (l:List Zn) (h:l.length < 1048577):Zwa l l=some true:=by
 unfold Zwa;exact Zuq l (by omega) Ztf (Zl0 l l) (λm i=>rfl) (λa _=>Ysb a)
theorem Ytb (x:Zh):Ztd x x=some true:=by unfold Ztd;simp
theorem Yxk (b:Za) (h:b.tot < 1048577):Zrl b b=some true:=by
 unfold Za.tot at h;have e1:Zqt b.buckets b.buckets=some true:=by
  unfold Zqt;exact Zuq b.buckets (by omega) Zs8 (Zhr b.buckets b.buckets) (λm i=>rfl) (λa _=>by unfold Zs8;simp)
 have e2:Z2n b.arb b.arb=some true:=by unfold Z2n;simp
 unfold Zrl;simp[Yu1 b.conf (by omega),Ytj b.m (by omega),e1,e2,Zg5 b.splits (by omega),Ytb,Ypj b.model (by omega),Yoh b.log (by omega)]
def Zm.tot (p:Zm):Nat:=p.req.tot
def Zi2 (l:List Zm):Nat:=l.length+(l.map Zm.tot).sum
def Zi.tot (s:Zi):Nat:=Zi2 s.posts+(s.waits.length+s.says.length)
theorem Y1k (p:Zm) (h:p.ok):Sz (Zye p) p.tot:=(Yqk p.req h.2.2).tail
theorem Yx2 (l:List Zm) (h0:l.length<=maxLen) (h:∀r∈l,r.ok):Sz (Z28 l) (Zi2 l):=
 Sz.list l Zye Zm.tot (by unfold maxLen at h0;omega) (λa ha=>Y1k a (h a ha)) (Zla l) (λ_ _ _ _=>rfl)
theorem Ytd (s:Zi) (h:s.ok):Sz (Zrv s) s.tot:=by
 have h1:=h.1.1;have h2:=h.2.1.1;have h3:=h.2.2.1;unfold maxLen at h1 h2 h3;exact (Yx2 s.posts h.1.1 h.1.2).seq ((Sz.flat (by omega)).seq (Sz.flat (by omega)).tail)
theorem Y0u (p:Zm) (h:p.tot < 1048577):Ztz p=some p:=by
 unfold Ztz;rw[You _ h];rfl
theorem Yxa (l:List Zm) (h:Zi2 l < 1048577):Zvh l=some l:=by
 unfold Zi2 at h;unfold Zvh;rw[Zwq (by omega) (by omega),ZZa];have:=Zqy l id (by omega) Ztz (λa ha=>Y0u a (by have:=Zpl (t:=Zm.tot) ha;omega)) (Zk6 l) (λm v i=>rfl) (List.replicate l.length Zm.z0) (by simp);simpa using this
theorem Ytx (s:Zi) (h:s.tot < 1048577):Ztw s=some s:=by
 unfold Zi.tot at h;unfold Ztw;rw[Yxa _ (by omega),ZZa,Znu _ (by omega),ZZa,Znu _ (by omega)];rfl
theorem Yt6 (p:Zm) (h:p.tot < 1048577):Zty p p=some true:=by
 unfold Zty;rw[Yhe _ h];simp
theorem Yo0 (l:List Zm) (h:Zi2 l < 1048577):Zvx l l=some true:=by
 unfold Zi2 at h;unfold Zvx;exact Zuq l (by omega) Zty (Zk8 l l) (λm i=>rfl) (λa ha=>Yt6 a (by have:=Zpl (t:=Zm.tot) ha;omega))
theorem Ymy (s:Zi) (h:s.tot < 1048577):Zt9 s s=some true:=by
 unfold Zi.tot at h;unfold Zt9;rw[Yo0 _ (by omega),ZZa,ZZi (by simp),Zg5 _ (by omega),ZZa,ZZi (by simp),Zg5 _ (by omega)];simp
theorem Yt2 (x:Zg):Ztg x x=some true:=by unfold Ztg;simp
theorem Ynu (l:List Zg) (h:l.length < 1048577):Zvn l l=some true:=by
 unfold Zvn;exact Zuq l (by omega) Ztg (Zko l l) (λm i=>rfl) (λa _=>Yt2 a)
theorem Zi.small {s:Zi} (h:s.tot < 1048577) (Y4:s.ok):s.sm:=by
 unfold Zi.tot Zi2 at h;refine⟨by omega,λp hp=>?_,by omega,by omega,λw hw=>ok_i64 (Y4.2.1.2 w hw)⟩;have:=Zpl (t:=Zm.tot) hp;unfold Zm.tot Zf.tot at this h;unfold Zf.sm;omega
theorem Yr5 {l:List Zf} {r:Zf} (h:r∈l):r.data_.length<=Zbx l:=by
 have:=Zpl (t:=Zf.tot) h;unfold Zbx;unfold Zf.tot at this ⊢;omega
theorem Yso {l:List Zb} {m:Zb} (h:m∈l):Zbx m.queue<=Zei l:=by
 have:=Zpl (t:=Zb.tot) h;unfold Zei;unfold Zb.tot at this ⊢;omega
theorem Za.small {b:Za} (h:b.tot < 1048577):b.sm:=by
 have hm:∀x∈b.m,Zbx x.queue<=Zei b.m:=λx hx=>Yso hx;unfold Za.tot Zj.tot at h;have h1:b.m.length<=Zei b.m:=by unfold Zei;omega
 refine⟨by omega,by omega,λx hx=>?_,by omega,by omega,⟨by omega,by omega,by omega⟩,by omega⟩;have:=hm x hx;have hl:x.queue.length<=Zbx x.queue:=by unfold Zbx;omega
 refine⟨by omega,λr hr=>?_⟩;have:=Yr5 hr;unfold Zf.sm;omega
theorem Zi.mk_ok {s:Zi} (h:s.tot < 1048577):s.mok:=by
 unfold Zi.tot Zi2 at h;refine⟨⟨by omega,λp hp=>?_⟩,by omega,by omega⟩;have:=Zpl (t:=Zm.tot) hp;unfold Zm.tot Zf.tot at this h;omega
theorem Za.mk_ok {b:Za} (hs:b.sm):b.mok:=by
 have h1:=hs.conf;have h2:=hs.ml;have h3:=hs.bl;have h4:=hs.sl;have h5:=hs.log;have h6:=hs.model.1;have h7:=hs.model.2.1;have h8:=hs.model.2.2;refine⟨by unfold Zl.mok;omega,⟨by omega,λx hx=>?_⟩,by omega,by omega,⟨by omega,⟨by omega,by omega⟩⟩,by omega⟩;have h9:=hs.mst x hx;have:=h9.1;refine⟨by omega,λr hr=>?_⟩;have:=h9.2 r hr;unfold Zf.sm at this;omega
theorem Ykj {α:Type} {w t:α->Nat} {c:Nat} (h:∀x,w x<=c*t x+c) (l:List α):Kw w l<=c*(l.length+(l.map t).sum):=by
 induction l with
 | nil=>simp[Kw]
 | cons x l ih=>
  have:=h x;rw[Zmx,Vag,Va1,Vdb];have e:c*(l.length+1+(t x+(l.map t).sum))=c*(l.length+(l.map t).sum)+(c*t x+c):=by
   rw[Veb,Veb,Veb,Veb];omega
  omega
theorem Yz4 (l:List Zf):Kw Z3a l<=5*Zbx l:=Ykj (λx=>by unfold Z3a Zf.tot;omega) l
theorem Y1s (l:List Zb):Kw Zh1 l<=5*Zei l:=Ykj (λx=>by
 have:=Yz4 x.queue;unfold Zh1 Zb.tot;omega) l
def Ye6 (b:Za):Nat:=4*b.conf.masters.length+Kw Zh1 b.m+2*b.buckets.length+b.splits.length+b.model.mem.length+b.model.dev.regs.length+b.model.dev.fifo.length+7*b.log.length
theorem Y6g {b:Za}:Ye6 b<=7*b.tot:=by
 have:=Y1s b.m;unfold Ye6 Za.tot Zj.tot;omega
theorem Y67 {l:List Zd} {k:Int} (h0:0<=k) (h1:k+4*(l.length:Int)<=1152921504606846976):(mkL Jq l k).2=k+4*(l.length:Int):=by
 have e:=Zg8 (α:=Zd) 4 l;rw[Zob Yk2 (l:=l) h0 (by rw[e];omega),e];omega
theorem Y69 {l:List Zc} {k:Int} (h0:0<=k) (h1:k+2*(l.length:Int)<=1152921504606846976):(mkL Xc l k).2=k+2*(l.length:Int):=by
 have e:=Zg8 (α:=Zc) 2 l;rw[Zob Yht (l:=l) h0 (by rw[e];omega),e];omega
theorem Y7j {l:List Zn} {k:Int} (h0:0<=k) (h1:k+7*(l.length:Int)<=1152921504606846976):(mkL Zbc l k).2=k+7*(l.length:Int):=by
 have e:=Zg8 (α:=Zn) 7 l;rw[Zob Yob (l:=l) h0 (by rw[e];omega),e];omega
theorem Y62 {l:List Zg} {k:Int} (h0:0<=k) (h1:k+9*(l.length:Int)<=1152921504606846976):(mkL X4 l k).2=k+9*(l.length:Int):=by
 have e:=Zg8 (α:=Zg) 9 l;rw[Zob Yol (l:=l) h0 (by rw[e];omega),e];omega
theorem Zzy {a:Int} (h:0<=a):¬decide (a < 0)=true:=by simp;omega
theorem Yxr {b:Za} (hs:b.sm) {k:Int} (h0:0<=k) (h1:k+(Ye6 b:Int)<=1152921504606846976):(Yg b k).2=k+(Ye6 b:Int)/\Zpu (Yg b k).1 k=some (Yg b k).2:=by
 unfold Ye6 at h1 ⊢;have g1:=hs.conf;have g2:=hs.ml;have g3:=hs.bl;have g4:=hs.sl;have g5:=hs.log;have g6:=hs.model.1;have g7:=hs.model.2.1;have g8:=hs.model.2.2;have a1:=Y67 (l:=b.conf.masters) (k:=k) h0 (by omega);have b1:=Yn7 b.conf.masters k g1 h0 (by omega);have a2:=Zob Yv1 (l:=b.m) (k:=k+4*(b.conf.masters.length:Int)) (by omega) (by omega);have b2:=Yyh b.m (k+4*(b.conf.masters.length:Int)) g2 (λx hx=>⟨(hs.mst x hx).1,λr hr=>(hs.mst x hx).2 r hr⟩) (by omega) (by omega);rw[a2] at b2;have a3:=Y69 (l:=b.buckets) (k:=k+4*(b.conf.masters.length:Int)+(Kw Zh1 b.m:Int)) (by omega) (by omega);have b3':=Ymq b.buckets (k+4*(b.conf.masters.length:Int)+(Kw Zh1 b.m:Int)) g3 (by omega) (by omega);rw[a3] at b3';have a4:=Zfx (l:=b.splits) (k:=k+4*(b.conf.masters.length:Int)+(Kw Zh1 b.m:Int)+2*(b.buckets.length:Int)) (by omega) (by omega);have b4:=Zsz b.splits (k+4*(b.conf.masters.length:Int)+(Kw Zh1 b.m:Int)+2*(b.buckets.length:Int)) g4 (by omega) (by omega);rw[a4] at b4;have a5:=Zfx (l:=b.model.mem) (k:=k+4*(b.conf.masters.length:Int)+(Kw Zh1 b.m:Int)+2*(b.buckets.length:Int)+(b.splits.length:Int)) (by omega) (by omega);have b5:=Zsz b.model.mem (k+4*(b.conf.masters.length:Int)+(Kw Zh1 b.m:Int)+2*(b.buckets.length:Int)+(b.splits.length:Int)) g6 (by omega) (by omega);rw[a5] at b5;have a6:=Zfx (l:=b.model.dev.regs) (k:=k+4*(b.conf.masters.length:Int)+(Kw Zh1 b.m:Int)+2*(b.buckets.length:Int)+(b.splits.length:Int)+(b.model.mem.length:Int)) (by omega) (by omega);have b6:=Zsz b.model.dev.regs (k+4*(b.conf.masters.length:Int)+(Kw Zh1 b.m:Int)+2*(b.buckets.length:Int)+(b.splits.length:Int)+(b.model.mem.length:Int)) g7 (by omega) (by omega);rw[a6] at b6;have a7:=Zfx (l:=b.model.dev.fifo) (k:=k+4*(b.conf.masters.length:Int)+(Kw Zh1 b.m:Int)+2*(b.buckets.length:Int)+(b.splits.length:Int)+(b.model.mem.length:Int)+(b.model.dev.regs.length:Int)) (by omega) (by omega);have b7:=Zsz b.model.dev.fifo (k+4*(b.conf.masters.length:Int)+(Kw Zh1 b.m:Int)+2*(b.buckets.length:Int)+(b.splits.length:Int)+(b.model.mem.length:Int)+(b.model.dev.regs.length:Int)) g8 (by omega) (by omega);rw[a7] at b7;have a8:=Y7j (l:=b.log) (k:=k+4*(b.conf.masters.length:Int)+(Kw Zh1 b.m:Int)+2*(b.buckets.length:Int)+(b.splits.length:Int)+(b.model.mem.length:Int)+(b.model.dev.regs.length:Int)+(b.model.dev.fifo.length:Int)) (by omega) (by omega);have b8:=Yse b.log (k+4*(b.conf.masters.length:Int)+(Kw Zh1 b.m:Int)+2*(b.buckets.length:Int)+(b.splits.length:Int)+(b.model.mem.length:Int)+(b.model.dev.regs.length:Int)+(b.model.dev.fifo.length:Int)) g5 (by omega) (by omega);rw[a8] at b8;rw[a1] at b1;constructor
 .simp only[Yg,Xq,K8,Zos,a1,a2,a3,a4,a5,a6,a7,a8]
  omega
 .unfold Zpu Z04 Zxj Z3m
  simp only[Yg,Xq,K8,Zos,a1,a2,a3,a4,a5,a6,a7,a8];rw[b1,ZZa,ZZi (Zzy (by omega)),ZZa,ZZi (Zzy (by omega)),b2,ZZa,ZZi (Zzy (by omega)),b3',ZZa,ZZi (Zzy (by omega)),b4,ZZa,ZZi (Zzy (by omega)),b5,ZZa,ZZi (Zzy (by omega)),b6,ZZa,ZZi (Zzy (by omega)),b7,ZZa,ZZi (Zzy (by omega)),ZZa,ZZi (Zzy (by omega)),ZZa,ZZi (Zzy (by omega)),b8,ZZa,ZZi (Zzy (by omega))]
theorem Y4q {r:Zf} (h:Zd1 r=true):r.data_.length < 1000:=by
 have:=Y09 h;unfold Zd1 at h;simp only[ZZg,ZZl] at h;have h1:=h.2.1;have:Xx r.burst<=16:=by unfold Xx;repeat (first|omega|split)
 split at h1<;>omega
theorem Zm2.tot_lt {b:Za} (h:Zm2 b):b.tot < 100000:=by
 have h1:=Zar h.conf;have h2:=h.ml;have h3:=h.bl;have h4:=h.sl;have h5:=Ya4 (by have:=h.now;omega) h.log;have h6:=h.model.len;have h7:=h.model.dev.regs;have h8:=h.model.dev.len;have hq:∀x∈b.m,Zbx x.queue<=4004:=λx hx=>by
  obtain⟨k,hk,rfl⟩:=Vbs hx;have hr:=(h.mst (k:Int) (mas (by omega))).right;rw[Qj hk] at hr;have key:∀(l:List Zf),(∀r∈l,r.data_.length<=1000)->(l.map Zf.tot).sum<=1000*l.length:=by
   intro l
   induction l with
   | nil=>intro _;simp
   | cons r l ih=>
    intro hl;have:=hl r (Vaa ..);have:=ih λq hq=>hl q (Vac _ hq);simp only[Va1,Vdb,Vag];unfold Zf.tot at*;omega
  have:=key _ λr J5=>Nat.le_of_lt (Y4q (hr.reqs r J5));have:=hr.len;unfold Zbx;omega
 have key:∀(l:List Zb),(∀x∈l,Zbx x.queue<=4004)->(l.map Zb.tot).sum<=4004*l.length:=by
  intro l
  induction l with
  | nil=>intro _;simp
  | cons r l ih=>
   intro hl;have:=hl r (Vaa ..);have:=ih λq hq=>hl q (Vac _ hq);simp only[Va1,Vdb,Vag];unfold Zb.tot at*;omega
 have:=key _ hq;unfold Za.tot Zei Zj.tot;omega
theorem Yk6 {b:Za} (h:b.tot < 1048577):b.mok/\Zrl b b=some true/\(Yg b 1).2=1+(Ye6 b:Int)/\Zpu (Yg b 1).1 1=some (Yg b 1).2/\Ye6 b<=7340032:=by
 have hw:=Y6g (b:=b);obtain⟨h1,h2⟩:=Yxr (Za.small h) (k:=1) (by omega) (by omega);exact⟨Za.mk_ok (Za.small h),Yxk b h,h1,h2,by omega⟩
theorem Y1r {s:Zi} (h:s.tot < 1048577) {k:Int} (h0:0<=k) (h1:k<=100000000):0<=(Kx s k).2:=by
 have hi:Inc Qx (λp=>7+p.req.data_.length):=λx k h0 h1=>by
  have h3:k+((7+x.req.data_.length:Nat):Int)<=1152921504606846976:=h1;show _=k+((7+x.req.data_.length:Nat):Int);have h2:k+7+(x.req.data_.length:Int)<=1152921504606846976:=by omega
  simp only[Qx];simp (discharger:=omega) only[Zx4];rw[Zfx (by omega) (by omega)];omega
 unfold Zi.tot Zi2 at h;have hw:Kw (λp:Zm=>7+p.req.data_.length) s.posts<=7*(s.posts.length+(s.posts.map Zm.tot).sum):=Ykj (λx=>by unfold Zm.tot Zf.tot;omega) s.posts;have e1:=Zob hi (l:=s.posts) h0 (by omega);have e2:=Zfx (l:=s.waits) (k:=(mkL Qx s.posts k).2) (by rw[e1];omega) (by rw[e1];omega);have e3:=Zfx (l:=s.says) (k:=(mkL Ye s.waits (mkL Qx s.posts k).2).2) (by rw[e2,e1];omega) (by rw[e2,e1];omega);simp only[Kx];rw[e3,e2,e1];omega
theorem Y6m {n:Nat} (h:(1048576:Int) < (n:Int)):Zbj 1048576 n < 0:=by unfold Zbj;rw[ZZj h];omega
theorem Y6l {n:Nat} (h:¬(1048576:Int) < (n:Int)):Zbj 1048576 n=1048576 - (n:Int)/\0<=Zbj 1048576 n/\n < 1048577:=by unfold Zbj;rw[ZZi h];omega
theorem left2 {n m:Nat} (e1:0<=Zbj 1048576 n) (hc2:¬Zbj (Zbj 1048576 n) m < 0):m < 1048577:=by
 unfold Zbj at hc2 e1;split at hc2
 .omega
 .omega
theorem Y6e {b:Za} (h:b.tot < 1048577) (s:Zi) (n:Int):(Zxk b s n).1.tot < 1048577:=by
 unfold Zxk;split
 .rename_i hc
  have hP:=(Ybi (Za.small h)).1 hc.1;have:=(Z4t hP s n.toNat (by omega)).1.tot_lt;omega
 .exact h
theorem Y54 {b:Za} (h:b.tot < 1048577) (s:Zi) (n:Int):(Zxk b s n).2.length<=4000:=by
 unfold Zxk;split
 .rename_i hc
  have hP:=(Ybi (Za.small h)).1 hc.1;have hn:=hP.now;have:=(Z4t hP s n.toNat (by omega)).2.2.2;omega
 .simp
theorem Z7w (b:Za) (s:Zi) (n:Int) (h:b.ok) (hs:s.ok) (hn:(Lit.int .i64 n).wf=true):b.ok/\s.ok/\(Lit.int .i64 n).wf=true:=⟨h,hs,hn⟩
theorem Ybr [Anchor] {b:Za} {s:Zi} {n:Int} (h:b.ok/\s.ok/\(Lit.int .i64 n).wf=true):Zu Tryz.prog Mo (7,[.agg (Za.enc b),.agg (Zi.enc s),il n],.lit (.bool true),[.undef,.undef,.undef]):=by
 have c0:=Y3f b h.1 1048576 (by omega) (by omega);by_cases hc:(1048576:Int) < (b.tot:Int)
 .exact Z7u b s n c0 (Y6m hc)
 .obtain⟨e0,e1,ht⟩:=Y6l hc
  have c1:=Ytd s h.2.1 (Zbj 1048576 b.tot) e1 (by omega);by_cases hc2:Zbj (Zbj 1048576 b.tot) s.tot < 0
  .exact Z7v b s n c0 e1 c1 hc2
  .have hst:s.tot < 1048577:=left2 e1 hc2
   obtain⟨f1,f2,f3,f4,f5⟩:=Yk6 ht;obtain⟨g1,g2,g3,g4,g5⟩:=Yk6 (Y6e ht s n);have hbs:=Za.small ht;have hss:=Zi.small hst h.2.1;have hl:=Y54 ht s n;have k1:=Y62 (l:=(Zxk b s n).2) (k:=(Yg (Zxk b s n).1 1).2) (by rw[g3];omega) (by rw[g3];omega);exact Ybp b s n (Zxk b s n).1 (Zxk b s n).2 c0 e1 c1 (by omega) (Y36 b ht) (Ytx s hst) (Yui n hbs hss) (Ytm n hbs hss) g2 (Ynu _ (by omega)) f2 (Ymy s hst) f1 (Zi.mk_ok hst) (Y1r hst (by rw[f3];omega) (by rw[f3];omega)) g1 (by omega) g4 (by rw[g3];omega) (Yto _ _ (by omega) (by rw[g3];omega) (by rw[g3];omega)) (by rw[k1,g3];omega)
end Go.Proofs.YtagdmghmblplbaaGreat.Ev
