/- A part of the proof of FnExactBusStep: see the text YtagdmghmblplbaaGreatLawFnExactBusStep for what is proved and its conditions. Conditions here: those in each line. -/
import Derived.Test.YtagdmghmblplbaaGreatA9
set_option linter.unusedSimpArgs false
set_option linter.unusedVariables false
set_option linter.unusedSectionVars false
namespace Go.Proofs.YtagdmghmblplbaaGreat.Ev
open Go Go.Proofs
theorem X6 (x a b:Int):Yu x a b=some (decide (a<=x/\x<=b)):=by
 unfold Yu;by_cases h:a<=x<;>simp[h]
theorem Xk (x a b:Int):Z5 x a b=some (decide (a<=x/\x<=b)):=by
 unfold Z5;by_cases h:a<=x<;>simp[h]
def Zjr (c:Zk):Int:=if (0<=c.maxRetry/\c.maxRetry<=3)/\(0<=c.maxWait/\c.maxWait<=3) then (c.maxRetry+2)*(c.maxWait+6) else 0
def Zag (c:Zk):Int:=if Zjr c=0 then 0 else if 1<=c.lockMost/\c.lockMost<=40 then 2*Zjr c+c.lockMost else 0
def Kr (c:Zk):Nat:=c.masters.countP (·.prio)
def Q8 (c:Zk) (m:Zd):Bool:=decide (1<=m.weight/\m.weight<=4)&&if m.prio then decide (2*Zag c*Kr c<=m.every/\m.every<=1000)&&decide (1<=m.cap/\m.cap<=8) else decide (m.every=0)&&decide (m.cap=0)
def X8 (c:Zk):Bool:=decide (1<=(c.masters.length:Int)/\(c.masters.length:Int)<=4)&&decide (1<=c.quantum/\c.quantum<=4)&&decide (1<=c.maxSplit/\c.maxSplit<=12)&&decide (Zag c≠0)&&c.masters.all (Q8 c)
theorem Z6d (c:Zk):0<=Zjr c/\Zjr c<=45:=by
 unfold Zjr;split
 .rename_i h
  obtain⟨⟨h1,h2⟩,h3,h4⟩:=h;generalize c.maxRetry=a at*;generalize c.maxWait=b at*;have:a=0\/a=1\/a=2\/a=3:=by omega
  rcases this with rfl|rfl|rfl|rfl<;>omega
 .omega
theorem Z5l (c:Zk):0<=Zag c/\Zag c<=130:=by
 have:=Z6d c;unfold Zag;split
 .omega
 .split<;>omega
theorem Zvj (c:Zk):Zis c=some (Zjr c):=by
 unfold Zis;rw[Xk,ZZa,Xk,ZZa];unfold Znn Zjr;by_cases h1:0<=c.maxRetry/\c.maxRetry<=3
 .by_cases h2:0<=c.maxWait/\c.maxWait<=3
  .have:=Z6d c
   unfold Zjr at this;rw[ZZj ⟨h1,h2⟩] at this;simp only[h1,h2,decide_true,Va5,ZZf,if_false,and_self,if_true];rw[Yr (by omega) (by omega),Yr (by omega) (by omega),Zfn (by omega) (by omega)]
  .simp[h1,h2]
 .simp[h1]
theorem Yr0 (c:Zk):Zta c=some (Zjr c):=by
 rw[<-Zvj];unfold Zta Zis;simp only[Xk,X6];rfl
theorem Ybo (c:Zk):Zf5 c=some (Zag c):=by
 have:=Z6d c;unfold Zf5 Zag;rw[Zvj,ZZa,Xk,ZZa,ZZa];by_cases h0:Zjr c=0
 .simp[h0]
 .by_cases h1:1<=c.lockMost/\c.lockMost<=40
  .simp only[h0,h1,decide_true,decide_false,Va5,ZZf,if_false,and_self,if_true]
   rw[Zfn (by omega) (by omega),Yr (by omega) (by omega)]
  .simp[h0,h1]
theorem Ycd (c:Zk):Zsq c=some (Zag c):=by
 rw[<-Ybo];unfold Zsq Zf5;simp only[Xk,X6,Zvj,Yr0]
theorem Yl7 (c:Zk):Zrb c=some (decide (1<=c.quantum/\c.quantum<=4)&&decide (1<=c.maxSplit/\c.maxSplit<=12)&&decide (Zag c≠0)):=by
 have:=Z6d c;unfold Zrb Zag;simp only[Xk,Zvj,ZZa];by_cases h1:1<=c.quantum/\c.quantum<=4
 .by_cases h2:Zjr c=0
  .simp[h2]
  .have h3:Zjr c > 0:=by omega
   by_cases h4:1<=c.maxSplit/\c.maxSplit<=12
   .by_cases h5:1<=c.lockMost/\c.lockMost<=40
    .have:¬(2*Zjr c+c.lockMost=0):=by omega
     simp[h1,h2,h3,h4,h5,this]
    .simp[h1,h2,h3,h4,h5]
   .simp[h1,h2,h3,h4]
 .simp[h1]
theorem Ye2 (xs:List Zd):∀(n:Int),0<=n->n+xs.length < 4611686018427387904->∀{ρ:Type} (fin:Int->Option ρ),Z2w (λ(a:Zd) n=>some (.inl (if a.prio=true then Zt n 1 else n))) fin xs n=fin (n+(xs.countP (·.prio):Nat)):=by
 induction xs with
 | nil=>intro n _ _ ρ fin;simp[Z2w]
 | cons a l ih=>
  intro n h0 hl ρ fin;simp only[Vag] at hl;simp only[Z2w,ZZa,List.countP_cons];by_cases h:a.prio=true
  .rw[ZZj h,Yr (by omega) (by omega),ih _ (by omega) (by omega),ZZj h]
   congr 1;omega
  .rw[ZZi h,ih _ (by omega) (by omega),ZZi h]
   congr 1
theorem Yvx (c:Zk) (hl:c.masters.length < 1048577):Z0z c=some (Kr c:Int):=by
 unfold Z0z;rw[Ydf c.masters (by omega) (λ(a:Zd) n=>some (.inl (if a.prio=true then Zt n 1 else n))) some (Zpr c) (λm s i=>?_) 0,Ye2 _ _ (by omega) (by omega)]
 .simp[Kr]
 .show Zt4 c _ s i=_
  unfold Zt4
  congr 1;congr 1;funext a
  by_cases h:a.prio=true<;>simp[h,goL]
theorem Yks (c:Zk):Kr c<=c.masters.length:=List.countP_le_length
theorem Yox (c:Zk) (hl:c.masters.length < 1048577):0<=Zag c*(Kr c:Int)/\Zag c*(Kr c:Int)<=136314880:=by
 have h1:=Z5l c;have h2:=Yks c;constructor
 .exact Veg h1.1 (by omega)
 .have h3:Zag c*(Kr c:Int)<=130*(Kr c:Int):=Int.mul_le_mul_of_nonneg_right h1.2 (by omega)
  omega
theorem Yhn (c:Zk) (hl:c.masters.length < 1048577):Znv c=some (2*Zag c*Kr c):=by
 have h1:=Z5l c;have h2:=Yox c hl;unfold Znv;rw[Ycd,ZZa,Yvx c hl,ZZa];rw[Zfn (a:=2) (by omega) (by omega),Zfn (by rw[Int.mul_assoc];omega) (by rw[Int.mul_assoc];omega)]
theorem Ylp (c:Zk) (m:Zd) (hl:c.masters.length < 1048577):Zr9 m c=some (!Q8 c m):=by
 unfold Zr9 Q8;simp only[X6,ZZa,Yhn c hl];by_cases h1:1<=m.weight/\m.weight<=4
 .by_cases h2:m.prio=true
  .by_cases h3:2*Zag c*Kr c<=m.every/\m.every<=1000
   .simp[h1,h2,h3]
   .simp[h1,h2,h3]
  .by_cases h3:m.every=0
   .simp[h1,h2,h3]
   .simp[h1,h2,h3]
 .simp[h1]
theorem Yr5 (c:Zk) (xs:List Zd) (hl:c.masters.length < 1048577) (hx:xs.length < 4611686018427387904):X7 xs c=some (!xs.all (Q8 c)):=by
 unfold X7 Qz;have key:∀(m k:Nat),k<=xs.length->xs.length - k < m->∃r,Y1 xs c m k=some r/\decide (r≥0)=!(xs.drop k).all (Q8 c):=by
  intro m
  induction m with
  | zero=>intro k _ h;omega
  | succ m ih=>
   intro k hk hm;have e:Y1 xs c (m+1) k=W6 xs c (Y1 xs c m) k:=rfl;rw[e];unfold W6;by_cases hc:k < xs.length
   .have h1:decide ((k:Int) < (xs.length:Int))=true:=by simpa using hc
    rw[ZZj h1,Xu hc,ZZa,Ylp c _ hl,ZZa,Va4 hc,Va6];by_cases hq:Q8 c xs[k]=true
    .have h2:¬(!Q8 c xs[k])=true:=by simp[hq]
     rw[ZZi h2,Wp (by omega),hq,Vby];exact ih (k+1) (by omega) (by omega)
    .have h2:(!Q8 c xs[k])=true:=by simpa using hq
     rw[ZZj h2];refine⟨_,rfl,?_⟩;simp[hq]
   .have h1:¬decide ((k:Int) < (xs.length:Int))=true:=by simpa using hc
    rw[ZZi h1,Va9 (by omega)];exact⟨_,rfl,by simp⟩
 obtain⟨r,hr,hq⟩:=key FU 0 (Vbl _) (by have:=Kq;omega);rw[show ((0:Nat):Int)=0 from rfl] at hr;rw[hr,ZZa,hq,List.drop_zero]
theorem Z2y (c:Zk) (hl:c.masters.length < 1048577):Znr c=some (X8 c):=by
 unfold Znr X8;simp only[X6,ZZa,Ycd,Yr5 c c.masters hl (by omega),Vej];by_cases h1:1<=(c.masters.length:Int)/\(c.masters.length:Int)<=4
 .by_cases h2:1<=c.quantum/\c.quantum<=4
  .by_cases h3:1<=c.maxSplit/\c.maxSplit<=12
   .by_cases h4:Zag c=0<;>simp[h1,h2,h3,h4]
   .simp[h1,h2,h3]
  .simp[h1,h2]
 .simp[h1]
theorem Y3i (c:Zk) (m:Zd) (hl:c.masters.length < 1048577) (k:Option Bool):
  ((Z5 m.weight 1 4).bind λr1102=>
  if (!r1102)=true then some false
  else if (!m.prio)=true then
    if decide (m.every≠0)=true then some false
    else if decide (m.cap≠0)=true then some false
     else if m.prio=true then
       (Zf5 c).bind λr1128=>
       (Z5 m.every (Jr (Jr 2 (Kr c:Int)) r1128) 1000).bind λr1130=>
       if (!r1130)=true then some false
       else (Z5 m.cap 1 8).bind λr1135=>if (!r1135)=true then some false else k
      else k
   else if m.prio=true then
     (Zf5 c).bind λr1128=>
     (Z5 m.every (Jr (Jr 2 (Kr c:Int)) r1128) 1000).bind λr1130=>
     if (!r1130)=true then some false
     else (Z5 m.cap 1 8).bind λr1135=>if (!r1135)=true then some false else k
    else k)=if Q8 c m=true then k else some false:=by
 have h1:=Z5l c;have h2:=Yox c hl;have h3:=Yks c;have e:Jr (Jr 2 (Kr c:Int)) (Zag c)=2*Zag c*Kr c:=by
  have e2:2*(Kr c:Int)*Zag c=2*(Zag c*(Kr c:Int)):=by rw[Int.mul_assoc,Vc2 (Kr c:Int)]
  rw[Zfn (a:=2) (by omega) (by omega),Zfn (by rw[e2];omega) (by rw[e2];omega),e2,Int.mul_assoc]
 unfold Q8;simp only[Xk,ZZa,Ybo,e];by_cases h1:1<=m.weight/\m.weight<=4
 .by_cases h2:m.prio=true
  .by_cases h3:2*Zag c*Kr c<=m.every/\m.every<=1000
   .by_cases h4:1<=m.cap/\m.cap<=8<;>simp[h1,h2,h3,h4]
   .simp[h1,h2,h3]
  .by_cases h3:m.every=0
   .by_cases h4:m.cap=0<;>simp[h1,h2,h3,h4]
   .simp[h1,h2,h3]
 .simp[h1]
theorem Yg0 (c:Zk) (hl:c.masters.length < 1048577):Zav c FU (Kr c:Int) 0=some (X8 c):=by
 have key:∀(m k:Nat),k<=c.masters.length->c.masters.length - k < m->Zav c m (Kr c:Int) k=some (decide (1<=(c.masters.length:Int)/\(c.masters.length:Int)<=4)&&decide (1<=c.quantum/\c.quantum<=4)&&decide (1<=c.maxSplit/\c.maxSplit<=12)&&decide (Zag c≠0)&&(c.masters.drop k).all (Q8 c)):=by
  intro m
  induction m with
  | zero=>intro k _ h;omega
  | succ m ih=>
   intro k hk hm;have e:Zav c (m+1) (Kr c:Int) k=Zr7 c (Zav c m) (Kr c:Int) k:=rfl;rw[e];unfold Zr7;by_cases hc:k < c.masters.length
   .have h1:decide ((k:Int) < (c.masters.length:Int))=true:=by simpa using hc
    rw[ZZj h1,Xu hc,ZZa,Y3i c _ hl,Va4 hc,Va6,Wp (by omega),ih (k+1) (by omega) (by omega)];by_cases hq:Q8 c c.masters[k]=true
    .simp[hq]
    .simp[hq]
   .have h1:¬decide ((k:Int) < (c.masters.length:Int))=true:=by simpa using hc
    rw[ZZi h1,Va9 (by omega),Xk,ZZa,Yl7];by_cases h2:1<=(c.masters.length:Int)/\(c.masters.length:Int)<=4
    .simp[h2]
    .simp[h2]
 have:=key FU 0 (Vbl _) (by have:=Kq;omega);simpa [X8] using this
theorem Zoy (c:Zk) (hl:c.masters.length < 1048577):Zin c=some (X8 c):=by
 unfold Zin;rw[Ydf c.masters (by omega) (λ(a:Zd) n=>some (.inl (if a.prio=true then Zt n 1 else n))) (λn=>Zav c FU n 0) (Zns c) (λm s i=>?_) 0,Ye2 _ _ (by omega) (by omega)]
 .rw[show (0:Int)+(c.masters.countP (·.prio):Nat)=(Kr c:Int) by simp[Kr]]
  exact Yg0 c hl
 .show Zsk c _ s i=_
  unfold Zsk
  congr 1;congr 1;funext a
  by_cases h:a.prio=true<;>simp[h,goL]
def Z35 (c:Zk) (i:Int):Int:=((c.masters[i.toNat]?).map (·.weight)).getD 0
def Zv (c:Zk) (i:Int):Bool:=decide (0<=i/\i < (c.masters.length:Int))
def Zhh (c:Zk) (i:Int):Int:=if X8 c=true/\Zv c i=true then Z35 c i*c.quantum else 0
theorem Yfd {c:Zk} {i:Int} (h:Zv c i=true):∃m,idx c.masters i=some m/\m∈c.masters/\m.weight=Z35 c i:=by
 simp only[Zv,ZZl] at h;obtain⟨k,rfl⟩:∃k:Nat,i=k:=⟨i.toNat,by omega⟩;have hk:k < c.masters.length:=by omega
 refine⟨c.masters[k],Xu hk,Vas hk,?_⟩;simp[Z35,hk]
theorem Ybp {c:Zk} {m:Zd} (h:X8 c=true) (hm:m∈c.masters):1<=m.weight/\m.weight<=4:=by
 simp only[X8,ZZg,ZZk] at h;have:=h.2 m hm;simp only[Q8,ZZg,ZZl] at this;exact this.1
theorem Z87 {c:Zk} (h:X8 c=true):1<=c.quantum/\c.quantum<=4:=by
 simp only[X8,ZZg,ZZl] at h;exact h.1.1.1.2
theorem Ynd {c:Zk} {i:Int} (h:X8 c=true) (hm:Zv c i=true):1<=Z35 c i/\Z35 c i<=4:=by
 obtain⟨m,_,h1,h2⟩:=Yfd hm;rw[<-h2];exact Ybp h h1
theorem Ym0 {a b:Int} (h1:1<=a) (h2:a<=4) (h3:1<=b) (h4:b<=4):1<=a*b/\a*b<=16:=by
 have:a=1\/a=2\/a=3\/a=4:=by omega
 rcases this with rfl|rfl|rfl|rfl<;>omega
theorem Z05 {c:Zk} {i:Int} (h:X8 c=true) (hm:Zv c i=true):1<=Zhh c i/\Zhh c i<=16:=by
 unfold Zhh;rw[ZZj ⟨h,hm⟩];have h1:=Ynd h hm;have h2:=Z87 h;exact Ym0 h1.1 h1.2 h2.1 h2.2
theorem Yxy {c:Zk} {i:Int}:Zhh c i=0↔¬(X8 c=true/\Zv c i=true):=by
 constructor
 .intro h hc
  have:=Z05 hc.1 hc.2;omega
 .intro h;unfold Zhh;rw[ZZi h]
theorem Zy7 (c:Zk) (i:Int):0<=Zhh c i/\Zhh c i<=16:=by
 by_cases h:X8 c=true/\Zv c i=true
 .have:=Z05 h.1 h.2;omega
 .rw[Yxy.2 h];omega
theorem Z33 {c:Zk} (i:Int) (hl:c.masters.length < 1048577):decide (0<=i/\i<=Y8 (c.masters.length:Int) 1)=Zv c i:=by
 rw[Xh (by omega) (by omega)];unfold Zv
 congr 1
 apply propext;omega
theorem Zuq (c:Zk) (i:Int) (hl:c.masters.length < 1048577):Zjf c i=some (Zhh c i):=by
 unfold Zjf;rw[Zoy c hl,ZZa,Xk,ZZa,Z33 i hl];unfold Znu;by_cases h1:X8 c=true
 .by_cases h2:Zv c i=true
  .obtain⟨m,hm1,hm2,hm3⟩:=Yfd h2
   have hw:=Ybp h1 hm2;have hq:=Z87 h1;have:=Ym0 hw.1 hw.2 hq.1 hq.2;simp only[h1,h2,hm1,Va5,ZZf,if_false,ZZa];rw[Zfn (by omega) (by omega)];simp[Zhh,h1,h2,hm3]
  .simp[Zhh,h1,h2]
 .simp[Zhh,h1]
theorem Jl (c:Zk) (i:Int) (hl:c.masters.length < 1048577):K9 c i=some (Zv c i):=by
 unfold K9;rw[X6,ZZa,Z33 i hl]
theorem Z3c (c:Zk) (i:Int) (hl:c.masters.length < 1048577):Zop c i=some (Zhh c i):=by
 rw[<-Zuq c i hl];unfold Zop Zjf;rw[Zoy c hl,Z2y c hl,Jl c i hl,Xk,Z33 i hl];rfl
theorem Zce (a b:Int):Zjq a b=min a b:=by unfold Zjq;omega
theorem Zuh (a b:Int):Z2n a b=max a b:=by unfold Z2n;omega
theorem Zam {c:Zk} (h:X8 c=true):1<=(c.masters.length:Int)/\(c.masters.length:Int)<=4:=by
 simp only[X8,ZZg,ZZl] at h;exact h.1.1.1.1
theorem Zcd {c:Zk} (h:X8 c=true):c.masters.length < 1048577:=by have:=Zam h;omega
instance:Inhabited Zd:=⟨Zd.z0⟩
instance:Inhabited Zc:=⟨Zc.z0⟩
theorem Zkc {c:Zk} {i:Int} (h:X8 c=true) (hm:Zv c i=true):Q8 c (atI c.masters i)=true:=by
 simp only[Zv,ZZl] at hm;have:=Zj3 hm.1 hm.2;simp only[X8,ZZg,ZZk] at h;exact h.2 _ this
theorem Zg4 {c:Zk} {m:Zd} (h:Q8 c m=true):-1<=m.every/\m.every<=1000/\0<=m.cap/\m.cap<=8:=by
 have h1:=Z5l c;have h2:0<=2*Zag c*(Kr c:Int):=Veg (by omega) (by omega);simp only[Q8,ZZg,ZZl] at h;obtain⟨h3,h4⟩:=h;split at h4
 .simp only[ZZg,ZZl] at h4;omega
 .simp only[ZZg,ZZl] at h4;omega
def Y4 (b:Zc) (m:Zd):Bool:=if m.prio then decide (0<=b.tokens/\b.tokens<=m.cap)&&decide (0<=b.count/\b.count < m.every) else decide (b.tokens=0)&&decide (b.count=0)
def Zsd (b:Zc) (m:Zd):Zc:=if (m.prio&&Y4 b m)=true then (if b.count+1=m.every then ⟨min (b.tokens+1) m.cap,0⟩ else ⟨b.tokens,b.count+1⟩) else b
def Zgd (b:Zc) (m:Zd):Zc×Bool:=if (m.prio&&Y4 b m&&decide (b.tokens≠0))=true then (⟨b.tokens - 1,b.count⟩,true) else (b,false)
def Z0a (b:Zc) (m:Zd):Zc:=if (m.prio&&Y4 b m)=true then ⟨min (b.tokens+1) m.cap,b.count⟩ else b
theorem Zpq (b:Zc) {m:Zd} (h:-1<=m.every/\m.every<=1000):Zem b m=some (Y4 b m):=by
 unfold Zem Y4;rw[Xk,ZZa,Xk,ZZa,Xh (by omega) (by omega)];by_cases h1:m.prio=true
 .have e:(0<=b.count/\b.count<=m.every - 1)↔(0<=b.count/\b.count < m.every):=by omega
  by_cases h2:0<=b.tokens/\b.tokens<=m.cap
  .simp[h1,h2,e]
  .simp[h1,h2]
 .simp[h1]
theorem Z6o (b:Zc) (m:Zd):Zm9 b m=some (Y4 b m):=by
 unfold Zm9 Y4;rw[X6,ZZa];by_cases h1:m.prio=true
 .by_cases h2:0<=b.tokens/\b.tokens<=m.cap
  .by_cases h3:0<=b.count<;>simp[h1,h2,h3]
  .simp[h1,h2]
 .simp[h1]
theorem Zit {b:Zc} {c:Zk} {m:Zd} (h:Y4 b m=true) (hm:Q8 c m=true):0<=b.tokens/\b.tokens<=8/\0<=b.count/\b.count<=1000:=by
 have:=Zg4 hm;unfold Y4 at h;split at h<;>simp only[ZZg,ZZl] at h<;>omega
theorem Ye4 (b:Zc) {c:Zk} {m:Zd} (h:Q8 c m=true):Zok b m=some (Zsd b m):=by
 have hm:=Zg4 h;unfold Zok Zfu Zsd;rw[Zpq b ⟨hm.1,hm.2.1⟩,ZZa];by_cases h1:m.prio=true
 .by_cases h2:Y4 b m=true
  .have:=Zit h2 h
   simp only[h1,h2,Va5,ZZf,if_false,Vce,if_true];rw[Yr (by omega) (by omega),Yr (by omega) (by omega),Zce,Vdn];by_cases h3:b.count+1=m.every<;>simp[h3]
  .simp[h1,h2]
 .simp[h1]
theorem Z20 (b:Zc) (m:Zd):Zny b m=some (m.prio&&Y4 b m):=by
 unfold Zny;rw[Z6o,ZZa];by_cases h1:m.prio=true<;>simp[h1]
theorem Yhb (b:Zc) {c:Zk} {m:Zd} (h:Q8 c m=true):Zof b m=some (Zsd b m):=by
 unfold Zof Zsd;rw[Z20,ZZa];by_cases h1:(m.prio&&Y4 b m)=true
 .have h2:Y4 b m=true:=by simp only[ZZg] at h1;exact h1.2
  have:=Zit h2 h;rw[ZZi (by simp[h1]),ZZj h1,Yr (by omega) (by omega),Yr (by omega) (by omega),Zce];by_cases h3:b.count+1=m.every<;>simp[h3]
 .rw[ZZj (by cases hq:(m.prio&&Y4 b m)<;>simp_all),ZZi h1]
theorem Ye5 (b:Zc) {c:Zk} {m:Zd} (h:Q8 c m=true):Zoe b m=some (Zgd b m):=by
 have hm:=Zg4 h;unfold Zoe Zc4 Zgd;rw[Zpq b ⟨hm.1,hm.2.1⟩,ZZa];by_cases h1:m.prio=true
 .by_cases h2:Y4 b m=true
  .have:=Zit h2 h
   rw[Xh (by omega) (by omega)];by_cases h3:b.tokens=0<;>simp[h1,h2,h3]
  .simp[h1,h2]
 .simp[h1]
theorem Yf9 (b:Zc) {c:Zk} {m:Zd} (h:Q8 c m=true):Zn5 b m=some (Zgd b m):=by
 unfold Zn5 Zgc Zgd;rw[Z20,ZZa];by_cases h1:(m.prio&&Y4 b m)=true
 .have h2:Y4 b m=true:=by simp only[ZZg] at h1;exact h1.2
  have:=Zit h2 h;rw[Xh (by omega) (by omega)];by_cases h3:b.tokens=0<;>simp[h1,h3]
 .simp[h1]
theorem Yfb (b:Zc) {c:Zk} {m:Zd} (h:Q8 c m=true):Zn1 b m=some (Z0a b m):=by
 have hm:=Zg4 h;unfold Zn1 Zgg Z0a;rw[Zpq b ⟨hm.1,hm.2.1⟩,ZZa];by_cases h1:m.prio=true
 .by_cases h2:Y4 b m=true
  .have:=Zit h2 h
   simp only[h1,h2,if_true,Vce];rw[Yr (by omega) (by omega),Zce,Vdn]
  .simp[h1,h2]
 .simp[h1]
theorem Yeo (b:Zc) {c:Zk} {m:Zd} (h:Q8 c m=true):Znq b m=some (Z0a b m):=by
 unfold Znq Z0a;rw[Z20,ZZa];by_cases h1:(m.prio&&Y4 b m)=true
 .have h2:Y4 b m=true:=by simp only[ZZg] at h1;exact h1.2
  have h4:m.prio=true:=by simp only[ZZg] at h1;exact h1.1
  have:=Zit h2 h;have h5:b.tokens<=m.cap:=by
   unfold Y4 at h2;rw[ZZj h4] at h2;simp only[ZZg,ZZl] at h2;exact h2.1.2
  rw[ZZj h1,ZZj h1,Yr (by omega) (by omega)];by_cases h3:b.tokens < m.cap
  .rw[ZZj (by simpa using h3),Int.min_eq_left (by omega)]
  .rw[ZZi (by simpa using h3),Int.min_eq_right (by omega)]
   have:b.tokens=m.cap:=by omega
   rw[<-this]
 .rw[ZZi h1,ZZi h1]
theorem Y52 {b:Zc} {c:Zk} {m:Zd} (h:Y4 b m=true) (hm:Q8 c m=true):Y4 (Zsd b m) m=true:=by
 have hb:=Zg4 hm;have hn:=Zit h hm;unfold Zsd;split
 .rename_i h1
  simp only[ZZg] at h1;unfold Y4 at h;rw[ZZj h1.1] at h;simp only[ZZg,ZZl] at h;split
  .unfold Y4
   rw[ZZj h1.1];simp only[ZZg,ZZl];omega
  .unfold Y4
   rw[ZZj h1.1];simp only[ZZg,ZZl];omega
 .exact h
theorem Y6e {b:Zc} {c:Zk} {m:Zd} (h:Y4 b m=true) (hm:Q8 c m=true):Y4 (Zgd b m).1 m=true:=by
 unfold Zgd;split
 .rename_i h1
  simp only[ZZg,ZZl] at h1;unfold Y4 at h ⊢;rw[ZZj h1.1.1] at h ⊢;simp only[ZZg,ZZl] at h ⊢;omega
 .exact h
theorem Y3h {b:Zc} {c:Zk} {m:Zd} (h:Y4 b m=true) (hm:Q8 c m=true):Y4 (Z0a b m) m=true:=by
 have hb:=Zg4 hm;unfold Z0a;split
 .rename_i h1
  simp only[ZZg] at h1;unfold Y4 at h ⊢;rw[ZZj h1.1] at h ⊢;simp only[ZZg,ZZl] at h ⊢;omega
 .exact h
def Za0 (w:Z2) (c:Zk):Bool:=X8 c&&(Zv c w.at_&&decide (0<=w.credit/\w.credit<=Zhh c w.at_))
theorem Z5e (w:Z2) (c:Zk) (hl:c.masters.length < 1048577):Zq4 w c=some (Za0 w c):=by
 unfold Zq4 Za0;rw[Zoy c hl,ZZa,Xk,ZZa,Z33 _ hl,Zuq c _ hl,ZZa,Xk,ZZa];by_cases h1:X8 c=true<;>by_cases h2:Zv c w.at_=true<;>simp[h1,h2]
theorem Z6a (w:Z2) (c:Zk) (hl:c.masters.length < 1048577):Zmo w c=some (Za0 w c):=by
 unfold Zmo Za0;rw[Z2y c hl,ZZa,Jl c _ hl,ZZa,Z3c c _ hl,ZZa,X6,ZZa];by_cases h1:X8 c=true<;>by_cases h2:Zv c w.at_=true<;>simp[h1,h2]
def Zmv (w:Z2) (c:Zk) (wants:List Bool):Nat->Int->Z2×Int
 | 0,_=>(⟨w.at_,0⟩,-1)
 | r+1,k=>if atI wants ((w.at_+k) % (wants.length:Int))=true then (⟨(w.at_+k) % (wants.length:Int),Zhh c ((w.at_+k) % (wants.length:Int)) - 1⟩,(w.at_+k) % (wants.length:Int)) else Zmv w c wants r (k+1)
def Zc6 (w:Z2) (c:Zk) (wants:List Bool):Z2×Int:=if (decide (0 < w.credit)&&atI wants w.at_)=true then (⟨w.at_,w.credit - 1⟩,w.at_) else Zmv w c wants wants.length 1
def Zz9 (w:Z2) (c:Zk) (who:Int):Z2:=if w.at_=who then ⟨w.at_,min (w.credit+1) (Zhh c who)⟩ else w
theorem Zik {w:Z2} {c:Zk} (h:Za0 w c=true):X8 c=true/\Zv c w.at_=true/\0<=w.credit/\w.credit<=Zhh c w.at_:=by
 simp only[Za0,ZZg,ZZl] at h;exact⟨h.1,h.2.1,h.2.2.1,h.2.2.2⟩
theorem Yu3 (w:Z2) (c:Zk) (wants:List Bool) (h:Za0 w c=true) (hn:wants.length=c.masters.length):∀(m r:Nat) (k:Int),r < m->k+r=wants.length+1->1<=k->Zkm w c wants m k=some (Zmv w c wants r k)/\Zky w c wants m k=some (Zmv w c wants r k):=by
 obtain⟨hc,hm,h1,h2⟩:=Zik h;have hl:=Zam hc;have hl2:=Zcd hc;simp only[Zv,ZZl] at hm;intro m
 induction m with
 | zero=>intro r k hr;omega
 | succ m ih=>
  intro r k hr hk h1k;show Zqo w c wants _ k=_/\Zqd w c wants _ k=_;unfold Zqo Zqd;rw[<-hn];cases r with
  | zero=>
   rw[ZZi (by simp;omega),ZZi (by simp;omega)];exact⟨rfl,rfl⟩
  | succ r=>
   have h0:0<=(w.at_+k) % (wants.length:Int):=Vc0 _ (by omega);have h0':(w.at_+k) % (wants.length:Int) < (wants.length:Int):=Vcn _ (by omega);have hmm:Zv c ((w.at_+k) % (wants.length:Int))=true:=by
    simp only[Zv,ZZl];omega
   have ht:=Z05 hc hmm;rw[ZZj (by simp;omega),ZZj (by simp;omega),Zwp (by omega),ZZa,ZZa,Yr (a:=w.at_) (by omega) (by omega),Zei (by omega),Xp h0 h0',ZZa,ZZa,Z3c c _ hl2,Zuq c _ hl2,ZZa,Xh (by omega) (by omega),Yr (a:=k) (by omega) (by omega)];have:=ih r (k+1) (by omega) (by omega) (by omega);simp only[Zmv];by_cases hq:atI wants ((w.at_+k) % (wants.length:Int))=true
   .simp[hq]
   .simp only[hq,if_false,ZZf]
    exact this
theorem Yo3 (w:Z2) (c:Zk) (wants:List Bool) (h:Za0 w c=true) (hn:wants.length=c.masters.length):Zvh w c wants=some (Zc6 w c wants):=by
 obtain⟨hc,hm,h1,h2⟩:=Zik h;have hl:=Zam hc;have hl2:=Zcd hc;simp only[Zv,ZZl] at hm;have hs:=(Yu3 w c wants h hn FU wants.length 1 (by have:=Kq;omega) (by omega) (by omega)).1;have ht:=Zy7 c w.at_;unfold Zvh Zk3 Zk9 Zc6;rw[Z6a w c hl2,ZZa,h,Xp hm.1 (by omega),ZZa,hs,Xh (by omega) (by omega)];have h3:¬((wants.length:Int)≠(c.masters.length:Int)):=by omega
 by_cases h4:0 < w.credit<;>by_cases h5:atI wants w.at_=true<;>simp[h3,h4,h5]
theorem Ypx (w:Z2) (c:Zk) (wants:List Bool) (h:Za0 w c=true) (hn:wants.length=c.masters.length):Zvg w c wants=some (Zc6 w c wants):=by
 obtain⟨hc,hm,h1,h2⟩:=Zik h;have hl:=Zam hc;have hl2:=Zcd hc;simp only[Zv,ZZl] at hm;have hs:=(Yu3 w c wants h hn FU wants.length 1 (by have:=Kq;omega) (by omega) (by omega)).2;have ht:=Zy7 c w.at_;unfold Zvg Zly Zlc Zc6;rw[Z5e w c hl2,ZZa,h,Xp hm.1 (by omega),ZZa,hs,Xh (by omega) (by omega)];have h3:¬((wants.length:Int)≠(c.masters.length:Int)):=by omega
 by_cases h4:0 < w.credit<;>by_cases h5:atI wants w.at_=true<;>simp[h3,h4,h5]
theorem Yol (w:Z2) (c:Zk) (who:Int) (h:Za0 w c=true):Zvc w c who=some (Zz9 w c who):=by
 obtain⟨hc,hm,h1,h2⟩:=Zik h;have hl2:=Zcd hc;have ht:=Zy7 c w.at_;unfold Zvc Zkq Zz9;rw[Z5e w c hl2,ZZa,h,Zuq c _ hl2,ZZa,Yr (by omega) (by omega),Zce,Vdn];by_cases h4:w.at_=who<;>simp[h4]
theorem Ynf (w:Z2) (c:Zk) (who:Int) (h:Za0 w c=true):Zu5 w c who=some (Zz9 w c who):=by
 obtain⟨hc,hm,h1,h2⟩:=Zik h;have hl2:=Zcd hc;have ht:=Zy7 c w.at_;unfold Zu5 Zkv Zz9;rw[Z6a w c hl2,ZZa,h,Z3c c _ hl2,ZZa,Yr (by omega) (by omega),Zce];by_cases h4:w.at_=who
 .simp[h4]
 .have:¬who=w.at_:=λh=>h4 h.symm
  simp[h4,this]
theorem Y3j {w:Z2} {c:Zk} (who:Int) (h:Za0 w c=true):Za0 (Zz9 w c who) c=true:=by
 obtain⟨hc,hm,h1,h2⟩:=Zik h;unfold Zz9;split
 .rename_i h4
  subst h4;have ht:=Zy7 c w.at_;simp only[Za0,ZZg,ZZl];exact⟨hc,hm,by omega,by omega⟩
 .exact h
theorem Y2j {w:Z2} {c:Zk} {wants:List Bool} (h:Za0 w c=true) (hn:wants.length=c.masters.length):∀(r:Nat) (k:Int),1<=k->Za0 (Zmv w c wants r k).1 c=true/\((Zmv w c wants r k).2=-1\/(Zv c (Zmv w c wants r k).2=true/\atI wants (Zmv w c wants r k).2=true)):=by
 obtain⟨hc,hm,h1,h2⟩:=Zik h;have hl:=Zam hc;intro r
 induction r with
 | zero=>
  intro k _;refine⟨?_,.inl rfl⟩;simp only[Zmv];simp only[Za0,ZZg,ZZl];exact⟨hc,hm,by omega,by omega⟩
 | succ r ih=>
  intro k hk;simp only[Zmv];split
  .rename_i hq
   have h0:0<=(w.at_+k) % (wants.length:Int):=Vc0 _ (by omega);have h0':(w.at_+k) % (wants.length:Int) < (wants.length:Int):=Vcn _ (by omega);have hmm:Zv c ((w.at_+k) % (wants.length:Int))=true:=by
    simp only[Zv,ZZl];omega
   have ht:=Z05 hc hmm;refine⟨?_,.inr ⟨hmm,hq⟩⟩;simp only[Za0,ZZg,ZZl];exact⟨hc,hmm,by omega,by omega⟩
  .exact ih (k+1) (by omega)
theorem Y21 {w:Z2} {c:Zk} {wants:List Bool} (h:Za0 w c=true) (hn:wants.length=c.masters.length):Za0 (Zc6 w c wants).1 c=true/\((Zc6 w c wants).2=-1\/(Zv c (Zc6 w c wants).2=true/\atI wants (Zc6 w c wants).2=true)):=by
 obtain⟨hc,hm,h1,h2⟩:=Zik h;unfold Zc6;split
 .rename_i h3
  simp only[ZZg,ZZl] at h3;refine⟨?_,.inr ⟨hm,h3.2⟩⟩;simp only[Za0,ZZg,ZZl];exact⟨hc,hm,by omega,by omega⟩
 .exact Y2j h hn _ _ (by omega)
def Yy (s:Int):Int:=if s=0 then 1 else if s=1 then 2 else if s=2 then 4 else 0
def Zfx (s:Int):Int:=if s=0 then 256 else if s=1 then 65536 else if s=2 then 4294967296 else 0
def X0 (b:Int):Int:=if b=0 then 1 else if b=1 then 4 else if b=2 then 4 else if b=3 then 8 else 0
theorem Zij (s:Int):0<=Yy s/\Yy s<=4:=by unfold Yy;repeat' split<;>omega
theorem Z1j (s:Int):0<=Zfx s/\Zfx s<=4294967296:=by unfold Zfx;repeat' split<;>omega
theorem Zml (b:Int):0<=X0 b/\X0 b<=8:=by unfold X0;repeat' split<;>omega
theorem Zbd (s:Int):Jo s=some (Yy s):=by
 unfold Jo;rw[Xk,ZZa];by_cases h:0<=s/\s<=2
 .have:s=0\/s=1\/s=2:=by omega
  rcases this with rfl|rfl|rfl<;>rfl
 .have:Yy s=0:=by unfold Yy;repeat' split<;>omega
  simp[h,this]
theorem Zhx (s:Int):J8 s=some (Yy s):=by
 rw[<-Zbd];unfold J8 Jo;rw[X6,Xk]
theorem Zib (b:Int):Za5 b=some (X0 b):=by
 unfold Za5;rw[Xk,ZZa];by_cases h:0<=b/\b<=3
 .have:b=0\/b=1\/b=2\/b=3:=by omega
  rcases this with rfl|rfl|rfl|rfl<;>rfl
 .have:X0 b=0:=by unfold X0;repeat' split<;>omega
  simp[h,this]
theorem Zrp (b:Int):Zg5 b=some (X0 b):=by
 rw[<-Zib];unfold Zg5 Za5;rw[X6,Xk]
theorem Zbg (s:Int):Qn s=some (Zfx s):=by
 unfold Qn;rw[Zbd,ZZa,ZZa];by_cases h:s=0\/s=1\/s=2
 .rcases h with rfl|rfl|rfl<;>rfl
 .have h1:Yy s=0:=by unfold Yy;repeat' split<;>omega
  have h2:Zfx s=0:=by unfold Zfx;repeat' split<;>omega
  simp[h1,h2]
theorem Z9j (s:Int):Zo1 s=some (Zfx s):=by
 rw[<-Zbg];unfold Zo1 Qn;simp only[Zhx,Zbd]
def Xz (v s:Int):Bool:=decide (0<=v/\v < Zfx s)
theorem Zjm (v s:Int):Zd8 v s=some (Xz v s):=by
 have:=Z1j s;unfold Zd8 Xz;rw[Z9j,ZZa,X6,ZZa,Xh (by omega) (by omega)]
 congr 2
 apply propext;omega
theorem Zqp (v s:Int):Z5 v 0 (Y8 (Zfx s) 1)=some (Xz v s):=by
 have:=Z1j s;unfold Xz;rw[Xk,Xh (by omega) (by omega)]
 congr 2
 apply propext;omega
def Wc (a s:Int):Bool:=decide (0 < Yy s)&&(decide (0<=a)&&decide (a % Yy s=0))
theorem Zry (a s:Int):Za7 a s=some (Wc a s):=by
 unfold Za7 Wc;rw[Zbd,ZZa,ZZa];by_cases h1:0 < Yy s
 .by_cases h2:0<=a
  .rw[Zwp (by omega),Zei h2];simp[h1,h2]
  .simp[h1,h2]
 .simp[h1]
theorem Zq6 (s:Int):0 < Yy s↔(0<=s/\s<=2):=by
 unfold Yy
 repeat' split<;>omega
theorem Zsw (a s:Int):Zgz a s=some (Wc a s):=by
 unfold Zgz Wc;rw[X6,ZZa,Zhx,ZZa];by_cases h1:0 < Yy s
 .have h3:=(Zq6 s).1 h1
  by_cases h2:0<=a
  .rw[Zwp (by omega),Zei h2];simp[h1,h2,h3]
  .simp[h1,h2,h3]
 .have h3:¬(0<=s/\s<=2):=λh=>h1 ((Zq6 s).2 h)
  simp[h1,h3]
def Zlb (a s b:Int):Int:=if (Wc a s=true/\a < 512)/\X0 b≠0 then (if b=2/\(a+Yy s) % (4*Yy s)=0 then a+Yy s - 4*Yy s else a+Yy s) else -1
theorem Zbw {a s:Int} (h:Wc a s=true):0 < Yy s/\0<=a/\a % Yy s=0:=by
 simpa [Wc,ZZg,ZZl] using h
theorem Ylt (a s b:Int):Zm4 a s b=some (Zlb a s b):=by
 have hb:=Zij s;unfold Zm4 Ze4 Zjp Zlb;rw[Zbd,ZZa,Zry,ZZa,Xk,ZZa,Zib,ZZa];by_cases h1:Wc a s=true
 .obtain⟨h2,h3,h4⟩:=Zbw h1
  by_cases h5:a < 512
  .have h6:0<=a/\a<=511:=by omega
   rw[Zfn (by omega) (by omega),Yr (by omega) (by omega),Xh (by omega) (by omega),Zwp (by omega),Zei (by omega)];by_cases h7:X0 b=0
   .simp[h1,h5,h6,h7]
   .by_cases h8:b=2
    .subst h8
     by_cases h9:(a+Yy s) % (4*Yy s)=0<;>simp[h1,h5,h6,h7,h9]
    .simp[h1,h5,h6,h7,h8]
  .have h6:¬(0<=a/\a<=511):=by omega
   simp[h1,h5,h6]
 .simp[h1]
theorem Yl0 (a s b:Int):Zti a s b=some (Zlb a s b):=by
 have hb:=Zij s;unfold Zti Zes Zlb;rw[Zsw,ZZa,Zhx,ZZa,ZZa,Zrp,ZZa];by_cases h1:Wc a s=true
 .obtain⟨h2,h3,h4⟩:=Zbw h1
  by_cases h5:a < 512
  .have h6:¬a≥512:=by omega
   rw[Zfn (by omega) (by omega),Yr (by omega) (by omega),Xh (by omega) (by omega),Zwp (by omega),Zei (by omega)];by_cases h7:X0 b=0
   .simp[h1,h5,h6,h7]
   .by_cases h8:b=2
    .subst h8
     by_cases h9:(a+Yy s) % (4*Yy s)=0<;>simp[h1,h5,h6,h7,h9]
    .simp[h1,h5,h6,h7,h8]
  .have h6:a≥512:=by omega
   simp[h1,h5,h6]
 .simp[h1]
theorem Yue {a s b:Int} (h:0<=Zlb a s b):Wc a s=true/\a < 512:=by
 unfold Zlb at h;split at h
 .rename_i h1;exact h1.1
 .omega
def Zc1 (s b:Int):Nat->Int->Option (List Int)
 | 0,_=>some []
 | n+1,a=>if Zlb a s b < 0 then none else (Zc1 s b n (Zlb a s b)).map (a::·)
def Zaa (a s b:Int):List Int:=(Zc1 s b (X0 b).toNat a).getD []
theorem Z10 (a s b:Int):Zh3 a s b=some (Zaa a s b):=by
 have hb:=Zml b;unfold Zh3;rw[Zrp,ZZa];have key:∀(n m:Nat) (x:Int) (out:List Int) (k:Nat),n < m->(k:Int)+n=X0 b->out.length=k->Zgm a s b m x out (X0 b) k=some (match Zc1 s b n x with|some l=>out++l|none=>[]):=by
  intro n
  induction n with
  | zero=>
   intro m x out k hm hk ho;obtain⟨m,rfl⟩:∃m',m=m'+1:=⟨m - 1,by omega⟩;show Zb2 a s b _ x out (X0 b) k=_;unfold Zb2;rw[ZZi (by simp;omega)];simp[Zc1]
  | succ n ih=>
   intro m x out k hm hk ho;obtain⟨m,rfl⟩:∃m',m=m'+1:=⟨m - 1,by omega⟩;show Zb2 a s b _ x out (X0 b) k=_;unfold Zb2;rw[ZZj (by simp;omega),Yl0,ZZa];simp only[Zc1];by_cases h1:Zlb x s b < 0
   .rw[ZZj (by simpa using h1),ZZj h1]
   .rw[ZZi (by simpa using h1),ZZi h1,Ke (by simp;omega) (by simp;omega),ZZa,Wp (by omega),ih m _ _ (k+1) (by omega) (by omega) (by simp[ho])]
    cases Zc1 s b n (Zlb x s b)<;>simp
 have:=key (X0 b).toNat FU a [] 0 (by have:=Kq;omega) (by omega) rfl;rw[show ((0:Nat):Int)=0 from rfl] at this;rw[this];unfold Zaa;cases Zc1 s b (X0 b).toNat a<;>simp
theorem Z1y (a s b:Int):Zia a s b=some (Zaa a s b):=by
 have hb:=Zml b;unfold Zia;have key:∀(n m:Nat) (x:Int) (out:List Int),n < m->(out.length:Int)+n=X0 b->Zgi a s b m x out=some (match Zc1 s b n x with|some l=>out++l|none=>[]):=by
  intro n
  induction n with
  | zero=>
   intro m x out hm hk;obtain⟨m,rfl⟩:∃m',m=m'+1:=⟨m - 1,by omega⟩;show Zb4 a s b _ x out=_;unfold Zb4 Zcy;have h1:¬((out.length:Int) < X0 b):=by omega
   simp[Zib,h1,Zc1]
  | succ n ih=>
   intro m x out hm hk;obtain⟨m,rfl⟩:∃m',m=m'+1:=⟨m - 1,by omega⟩;show Zb4 a s b _ x out=_;unfold Zb4 Zcy;have h1:(out.length:Int) < X0 b:=by omega
   simp only[Zib,Ylt,ZZa,h1,decide_true,if_true,Zc1,ZZl];by_cases h2:Zlb x s b < 0
   .have h3:¬(Zlb x s b≥0):=by omega
    rw[ZZi h3,ZZj h2]
   .have h3:Zlb x s b≥0:=by omega
    rw[ZZj h3,ZZi h2,Ke (by simp;omega) (by simp;omega),ZZa,ih m _ _ (by omega) (by simp;omega)];cases Zc1 s b n (Zlb x s b)<;>simp
 have:=key (X0 b).toNat FU a [] (by have:=Kq;omega) (by simp;omega);rw[this];unfold Zaa;cases Zc1 s b (X0 b).toNat a<;>simp
theorem Yk0 {s b:Int}:∀{n:Nat} {a:Int} {l:List Int},Zc1 s b n a=some l->l.length=n/\(∀x∈l,Wc x s=true/\x < 512)/\(0 < n->l.head?=some a):=by
 intro n
 induction n with
 | zero=>intro a l h;simp only[Zc1,ZZd] at h;subst h;simp
 | succ n ih=>
  intro a l h;simp only[Zc1] at h;split at h
  .cases h
  .rename_i h1
   obtain⟨l',h2,rfl⟩:=ZZc.1 h;obtain⟨h3,h4,_⟩:=ih h2;refine⟨by simp[h3],λx hx=>?_,λ_=>rfl⟩;rcases Vau.1 hx with rfl|hx
   .exact Yue (s:=s) (b:=b) (by omega)
   .exact h4 x hx
theorem Ygj (a s b:Int):Zaa a s b=[]\/((Zaa a s b).length:Int)=X0 b:=by
 unfold Zaa;have hb:=Zml b;cases h:Zc1 s b (X0 b).toNat a with
 | none=>exact .inl rfl
 | some l=>
  have:=(Yk0 h).1;exact .inr (by simp only[Vaz];omega)
theorem Z44 {a s b x:Int} (h:x∈Zaa a s b):Wc x s=true/\0<=x/\x < 512:=by
 unfold Zaa at h;cases h2:Zc1 s b (X0 b).toNat a with
 | none=>rw[h2] at h;simp at h
 | some l=>
  rw[h2] at h;have:=(Yk0 h2).2.1 x h;exact⟨this.1,(Zbw this.1).2.1,this.2⟩
theorem Yj3 (a s b:Int):(Zaa a s b).length<=8:=by
 have:=Zml b;rcases Ygj a s b with h|h
 .rw[h];simp
 .omega
def Zpc (a s b:Int):Bool:=(Zaa a s b).all (λx=>decide (x / 64=atI (Zaa a s b) 0 / 64))&&decide (Zaa a s b≠[])
theorem Yaq {x:Int} (h0:0<=x) (h1:x < 512):Zsy x 64=x / 64:=Yan h0 (by omega) (by omega)
theorem Yok (a s b:Int):Zu0 a s b=some (Zpc a s b):=by
 unfold Zu0 Zpc;rw[Z10,ZZa];generalize hA:Zaa a s b=l;have hm:∀x∈l,0<=x/\x < 512:=λx hx=>by rw[<-hA] at hx;exact (Z44 hx).2
 have hl:l.length<=8:=by rw[<-hA];exact Yj3 a s b
 have key:∀(m k:Nat),k<=l.length->l.length - k < m->Zlr a s b m l (l.length:Int) k=some ((l.drop k).all (λx=>decide (x / 64=atI l 0 / 64))&&decide (l≠[])):=by
  intro m
  induction m with
  | zero=>intro k _ h;omega
  | succ m ih=>
   intro k hk hm2;show Zqa a s b _ l (l.length:Int) k=_;unfold Zqa;by_cases hc:k < l.length
   .have h0:=hm _ (Vas hc)
    have h1:=hm _ (Vas (by omega:0 < l.length));rw[ZZj (by simpa using hc),Xu hc,ZZa,show (0:Int)=((0:Nat):Int) from rfl,Xu (by omega:0 < l.length),ZZa,Yaq h0.1 h0.2,Yaq h1.1 h1.2,Ql (by omega:0 < l.length),Va4 hc,Va6];by_cases hq:(l[k]:Int) / (64:Int)=(l[0]:Int) / (64:Int)
    .rw[ZZi (by simpa using hq),Wp (by omega),ih (k+1) (by omega) (by omega),show (0:Int)=((0:Nat):Int) from rfl,Ql (by omega:0 < l.length),decide_eq_true hq,Vby]
    .rw[ZZj (by simpa using hq),decide_eq_false hq,Vbq,Vbq]
   .rw[ZZi (by simpa using hc),Va9 (by omega)]
    simp[Vao]
 have:=key FU 0 (Vbl _) (by have:=Kq;omega);simpa using this
theorem Ym2 (a s b:Int):Zvb a s b=some (Zpc a s b):=by
 unfold Zvb Zpc;rw[Z1y,ZZa];generalize hA:Zaa a s b=l;have hm:∀x∈l,0<=x/\x < 512:=λx hx=>by rw[<-hA] at hx;exact (Z44 hx).2
 have hl:l.length<=8:=by rw[<-hA];exact Yj3 a s b
 have key:∀(m k:Nat),k<=l.length->l.length - k < m->Zlh a s b m l k=some ((l.drop k).all (λx=>decide (x / 64=atI l 0 / 64))&&decide (l≠[])):=by
  intro m
  induction m with
  | zero=>intro k _ h;omega
  | succ m ih=>
   intro k hk hm2;show Zqb a s b _ l k=_;unfold Zqb;by_cases hc:k < l.length
   .have h0:=hm _ (Vas hc)
    have h1:=hm _ (Vas (by omega:0 < l.length));rw[ZZj (by simpa using hc),Xu hc,ZZa,show (0:Int)=((0:Nat):Int) from rfl,Xu (by omega:0 < l.length),ZZa,Yaq h0.1 h0.2,Yaq h1.1 h1.2,Ql (by omega:0 < l.length),Va4 hc,Va6];by_cases hq:(l[k]:Int) / (64:Int)=(l[0]:Int) / (64:Int)
    .rw[ZZi (by simpa using hq),Wp (by omega),ih (k+1) (by omega) (by omega),show (0:Int)=((0:Nat):Int) from rfl,Ql (by omega:0 < l.length),decide_eq_true hq,Vby]
    .rw[ZZj (by simpa using hq),decide_eq_false hq,Vbq,Vbq]
   .rw[ZZi (by simpa using hc),Va9 (by omega)]
    simp[Vao]
 have:=key FU 0 (Vbl _) (by have:=Kq;omega);simpa using this
instance:Inhabited Zf:=⟨Zf.z0⟩
def Zdw (r:Zf):Bool:=Zpc r.addr r.size r.burst&&(decide ((r.data_.length:Int)=if r.write then X0 r.burst else 0)&&r.data_.all λv=>Xz v r.size)
def Zf.sm (r:Zf):Prop:=r.data_.length < 1048577
theorem Yf7 (r:Zf) (hs:r.sm):Zwa r=some (Zdw r):=by
 unfold Zf.sm at hs;have hf:Wt r.data_ r=some (!r.data_.all λv=>Xz v r.size):=by
  unfold Wt K4;refine Z0x r.data_ (by omega) (λv=>Zun v r) (λv=>Xz v r.size) (λv _=>?_) _ (λm i=>rfl);unfold Zun;rw[Zjm];rfl
 unfold Zwa Zpw Zdw;rw[Zrp,ZZa,Yok,ZZa,hf,ZZa,Vej];by_cases h1:Zpc r.addr r.size r.burst=true
 .by_cases h2:r.write=true
  .by_cases h3:(r.data_.length:Int)=X0 r.burst<;>simp[h1,h2,h3]
  .by_cases h3:r.data_=[]<;>simp[h1,h2,h3]
 .by_cases h2:r.write=true<;>simp[h1,h2]
theorem Yeu (r:Zf) (hs:r.sm):Zv5 r=some (Zdw r):=by
 unfold Zf.sm at hs;unfold Zv5;rw[Ym2,ZZa];have hb:=Zml r.burst;have key:∀(m k:Nat),k<=r.data_.length->r.data_.length - k < m->Zpu r m k=some (decide ((r.data_.length:Int)=if r.write then X0 r.burst else 0)&&(r.data_.drop k).all λv=>Xz v r.size):=by
  intro m
  induction m with
  | zero=>intro k _ h;omega
  | succ m ih=>
   intro k hk hm;show Zuf r _ k=_;unfold Zuf;by_cases hc:k < r.data_.length
   .rw[ZZj (by simpa using hc),Xu hc,ZZa,Zbg,ZZa,Zqp,ZZa,Va4 hc,Va6]
    by_cases hq:Xz r.data_[k] r.size=true
    .rw[ZZi (by simp[hq]),Wp (by omega),ih (k+1) (by omega) (by omega)]
     simp[hq]
    .rw[ZZj (by simp[hq])]
     simp[hq]
   .rw[ZZi (by simpa using hc),Va9 (by omega),Zib]
    cases h2:r.write<;>simp only[if_true,if_false,ZZf,ZZa,Vdl,Vci]<;>generalize decide ((r.data_.length:Int)=0)=x<;>generalize decide ((r.data_.length:Int)=X0 r.burst)=y<;>cases x<;>cases y<;>rfl
 have:=key FU 0 (Vbl _) (by have:=Kq;omega);unfold Zdw;by_cases h1:Zpc r.addr r.size r.burst=true
 .rw[ZZi (by simp[h1]),show (0:Int)=((0:Nat):Int) from rfl,this]
  simp[h1]
 .rw[ZZj (by simp[h1])]
  simp[h1]
theorem Zil {r:Zf} (h:Zdw r=true):Zpc r.addr r.size r.burst=true/\(r.data_.length:Int)=(if r.write then X0 r.burst else 0)/\∀v∈r.data_,Xz v r.size=true:=by
 simp only[Zdw,ZZg,ZZl,ZZk] at h;exact⟨h.1,h.2.1,h.2.2⟩
theorem Zq3 {a s b:Int} (h:Zpc a s b=true):((Zaa a s b).length:Int)=X0 b/\1<=X0 b:=by
 simp only[Zpc,ZZg,ZZl] at h;rcases Ygj a s b with h1|h1
 .exact absurd h1 h.2
 .have:0 < (Zaa a s b).length:=Vao.2 h.2
  omega
theorem Y1g {r:Zf} (h:Zdw r=true):r.sm:=by
 have:=(Zil h).2.1;have hb:=Zml r.burst;unfold Zf.sm;split at this<;>omega
theorem Z7n (r:Zf) (hs:r.sm):Zir r=some r:=by
 unfold Zf.sm at hs;unfold Zir Xc;rw[Ke (by simp;omega) (by simp;omega)];rfl
theorem Z88 (r:Zf) (hs:r.sm):Zi1 r=some r:=by
 unfold Zf.sm at hs;unfold Zi1;rw[Ke (by simp;omega) (by simp;omega)];rfl
instance:Inhabited Zb:=⟨Zb.z0⟩
def Z0 (m:Zb):Int:=if m.queue=[] then 0 else X0 (atI m.queue 0).burst
theorem Zs6 (m:Zb):0<=Z0 m/\Z0 m<=8:=by
 unfold Z0;have:=Zml (atI m.queue 0).burst;split<;>omega
def Zwn (m:Zb):Bool:=decide (m.queue.length<=4)&&(decide (0<=m.tries)&&(m.queue.all Zdw&&
 (if m.queue=[] then decide (m.beat=0)&&(decide (m.done=0)&&(decide (m.tries=0)&&(!m.parted&&!m.broken))) else decide (0<=m.done/\m.done<=Z0 m - 1)&&decide (m.done<=m.beat/\m.beat<=min (m.done+2) (Z0 m)))))
def Zb.sm (m:Zb):Prop:=m.queue.length < 1048577/\∀r∈m.queue,r.sm
structure Yt (m:Zb):Prop where
 len:m.queue.length<=4
 tries:0<=m.tries
 reqs:∀r∈m.queue,Zdw r=true
 none:m.queue=[]->m.beat=0/\m.done=0/\m.tries=0/\m.parted=false/\m.broken=false
 some:m.queue≠[]->0<=m.done/\m.done < Z0 m/\m.done<=m.beat/\m.beat<=m.done+2/\m.beat<=Z0 m
theorem Jg {m:Zb}:Zwn m=true↔Yt m:=by
 unfold Zwn;by_cases h:m.queue=[]
 .constructor
  .intro h1
   simp only[h,if_true,ZZg,ZZl,Vb1] at h1;exact⟨by simp[h],h1.2.1,by simp[h],λ_=>⟨h1.2.2.2.1,h1.2.2.2.2.1,h1.2.2.2.2.2.1,h1.2.2.2.2.2.2.1,h1.2.2.2.2.2.2.2⟩,λh2=>absurd h h2⟩
  .intro h1
   obtain⟨h2,h3,h4,h5,h6⟩:=h1.none h;simp[h,h2,h3,h4,h5,h6]
 .constructor
  .intro h1
   rw[ZZi h] at h1;simp only[ZZg,ZZl,ZZk] at h1;exact⟨h1.1,h1.2.1,h1.2.2.1,λh2=>absurd h2 h,λ_=>by omega⟩
  .intro h1
   have h2:=h1.some h;rw[ZZi h];simp only[ZZg,ZZl,ZZk];exact⟨h1.len,h1.tries,h1.reqs,by omega,by omega⟩
theorem Yt.sm {m:Zb} (h:Yt m):m.sm:=⟨by have:=h.len;omega,λr hr=>Y1g (h.reqs r hr)⟩
theorem Zxx (m:Zb):Zbx m=some (Z0 m):=by
 unfold Zbx Z0;by_cases h:m.queue=[]
 .simp[h]
 .have h1:0 < m.queue.length:=Vao.2 h
  rw[ZZi (by simpa using h),ZZi h,Xp (by omega) (by omega),ZZa,Zrp];rfl
theorem Zxf (m:Zb):Zc0 m=some (Z0 m):=by
 unfold Zc0 Z0;by_cases h:m.queue=[]
 .simp[h]
 .have h1:0 < m.queue.length:=Vao.2 h
  rw[ZZi (by simpa using h),ZZi h,Xp (by omega) (by omega),ZZa,Zib];rfl
theorem Zbu (m:Zb) (hs:m.sm):Kg m=some (Zwn m):=by
 have hf:X2 m.queue=some (!m.queue.all Zdw):=by
  unfold X2 Qo;refine Z0x m.queue (by have:=hs.1;omega) Zf4 Zdw (λr hr=>?_) _ (λm i=>rfl);unfold Zf4;rw[Yf7 r (hs.2 r hr)];rfl
 have hb:=Zs6 m;have hJ:Wq m false=some (if m.queue=[] then decide (m.beat=0)&&(decide (m.done=0)&&(decide (m.tries=0)&&(!m.parted&&!m.broken))) else decide (0<=m.done/\m.done<=Z0 m - 1)&&decide (m.done<=m.beat/\m.beat<=min (m.done+2) (Z0 m))):=by
  unfold Wq;rw[Zxx,ZZa,ZZa,X6,ZZa,X6,ZZa,Xh (by omega) (by omega)];by_cases h:m.queue=[]
  .rw[ZZi (by simp),ZZj (by simpa using h),ZZj h]
   by_cases h1:m.beat=0<;>by_cases h2:m.done=0<;>by_cases h3:m.tries=0<;>by_cases h4:m.parted=true<;>simp[h1,h2,h3,h4]
  .rw[ZZi (by simp),ZZi (by simpa using h),ZZi h]
   by_cases h1:0<=m.done/\m.done<=Z0 m - 1
   .rw[Yr (by omega) (by omega),Zce]
    simp[h1]
   .simp[h1]
 unfold Kg Zwn;rw[hf,ZZa];by_cases h1:(m.queue.length:Int) > 4
 .have h2:¬m.queue.length<=4:=by omega
  simp[h1,h2,Wq]
 .have h2:m.queue.length<=4:=by omega
  by_cases h3:m.tries < 0
  .have h4:¬0<=m.tries:=by omega
   simp[h1,h2,h3,h4,Wq]
  .have h4:0<=m.tries:=by omega
   rw[ZZi (by simpa using h1),ZZi (by simpa using h3)];by_cases h5:m.queue.all Zdw=true
   .rw[h5,Va5,hJ]
    simp only[h2,h4,decide_true,Vby]
   .have h6:m.queue.all Zdw=false:=by simpa using h5
    rw[h6,Vbi];simp[Wq]
theorem Zfr (m:Zb) (hs:m.sm):Zbo m=some (Zwn m):=by
 have hb:=Zs6 m;have hJ:Zaj m false=some (if m.queue=[] then decide (m.beat=0)&&(decide (m.done=0)&&(decide (m.tries=0)&&(!m.parted&&!m.broken))) else decide (0<=m.done/\m.done<=Z0 m - 1)&&decide (m.done<=m.beat/\m.beat<=min (m.done+2) (Z0 m))):=by
  unfold Zaj;rw[Zxf,ZZa,ZZa,Xk,ZZa,Xk,ZZa,Xh (by omega) (by omega)];by_cases h:m.queue=[]
  .rw[ZZi (by simp),ZZj (by simpa using h),ZZj h]
   by_cases h1:m.beat=0<;>by_cases h2:m.done=0<;>by_cases h3:m.tries=0<;>by_cases h4:m.parted=true<;>simp[h1,h2,h3,h4]
  .rw[ZZi (by simp),ZZi (by simpa using h),ZZi h]
   by_cases h1:0<=m.done/\m.done<=Z0 m - 1
   .rw[Yr (by omega) (by omega),Zce]
    simp[h1]
   .simp[h1]
 unfold Zbo;have hl:=hs.1;have key:∀(n k:Nat),k<=m.queue.length->m.queue.length - k < n->Zi9 m n k=some (decide (m.queue.length<=4)&&(decide (0<=m.tries)&&((m.queue.drop k).all Zdw&&
 (if m.queue=[] then decide (m.beat=0)&&(decide (m.done=0)&&(decide (m.tries=0)&&(!m.parted&&!m.broken))) else decide (0<=m.done/\m.done<=Z0 m - 1)&&decide (m.done<=m.beat/\m.beat<=min (m.done+2) (Z0 m)))))):=by
  intro n
  induction n with
  | zero=>intro k _ h;omega
  | succ n ih=>
   intro k hk hm;show Zot m _ k=_;unfold Zot;by_cases hc:k < m.queue.length
   .rw[ZZj (by simpa using hc),Xu hc,ZZa,Yeu _ (hs.2 _ (Vas hc)),ZZa,Va4 hc,Va6]
    by_cases hq:Zdw m.queue[k]=true
    .rw[ZZi (by simp[hq]),Wp (by omega),ih (k+1) (by omega) (by omega)]
     simp[hq]
    .rw[ZZj (by simp[hq])]
     simp[hq]
   .rw[ZZi (by simpa using hc),Va9 (by omega)]
    by_cases h1:(m.queue.length:Int) > 4
    .have h2:¬m.queue.length<=4:=by omega
     simp[h1,h2,Zaj]
    .have h2:m.queue.length<=4:=by omega
     by_cases h3:m.tries < 0
     .have h4:¬0<=m.tries:=by omega
      simp[h1,h2,h3,h4,Zaj]
     .have h4:0<=m.tries:=by omega
      rw[ZZi (by simpa using h1),decide_eq_false h3,hJ];simp only[h2,h4,decide_true,Vby,Vdl]
 have:=key FU 0 (Vbl _) (by have:=Kq;omega);simpa [Zwn] using this
theorem Zpe (m:Zb) (hs:m.sm):Zf8 m=some m:=by
 unfold Zf8;refine (Ykf 64 (by decide) m.queue hs.1 Zir (λr hr=>Z7n r (hs.2 r hr)) (λv=>some {m with queue:=v}) (Znm m) (λn v i=>rfl)).trans ?_;rfl
theorem Zm7 (m:Zb) (hs:m.sm):Zd3 m=some m:=by
 unfold Zd3;refine (Ykf 64 (by decide) m.queue hs.1 Zi1 (λr hr=>Z88 r (hs.2 r hr)) (λv=>some {m with queue:=v}) (Zlf m) (λn v i=>rfl)).trans ?_;rfl
def J0 (m:Zb) (r:Zf):Zb:=if Zdw r=true/\m.queue.length≠4 then {m with queue:=m.queue++[r]} else m
def Zo2 (m:Zb):Bool:=decide (m.beat < Z0 m)
def X4 (m:Zb) (b:Int):Int:=if 0<=b/\b<=Z0 m - 1 then atI (Zaa (atI m.queue 0).addr (atI m.queue 0).size (atI m.queue 0).burst) b else -1
def X5 (m:Zb):Zb:=if m.beat < Z0 m/\m.beat≠m.done+2 then {m with beat:=m.beat+1} else m
def Zbn (m:Zb):Zb:=if m.beat=m.done then m else {m with beat:=m.beat - 1}
def Ji (m:Zb):Zb:=if m.beat=m.done then m else if m.done+1=Z0 m then Zb.mk m.queue.tail 0 0 0 false false else Zb.mk m.queue m.beat (m.done+1) 0 false m.broken
theorem Je {m:Zb} (h:Yt m):0<=m.done/\m.done<=8/\0<=m.beat/\m.beat<=8:=by
 have hb:=Zs6 m;by_cases hq:m.queue=[]
 .have:=h.none hq;omega
 .have:=h.some hq;omega
theorem Zu3 {m:Zb} (h:Yt m) (hq:m.queue≠[]):Zdw (atI m.queue 0)=true/\Z0 m=X0 (atI m.queue 0).burst/\1<=Z0 m:=by
 have h1:0 < m.queue.length:=Vao.2 hq;have h2:Zdw (atI m.queue 0)=true:=h.reqs _ (Zj3 (by omega) (by omega));have h3:Z0 m=X0 (atI m.queue 0).burst:=by unfold Z0;rw[ZZi hq]
 exact⟨h2,h3,by rw[h3];exact (Zq3 (Zil h2).1).2⟩
theorem Ym5 {m:Zb} {b:Int} (h:Yt m) (h0:0<=b) (h1:b < Z0 m):X4 m b∈Zaa (atI m.queue 0).addr (atI m.queue 0).size (atI m.queue 0).burst/\Wc (X4 m b) (atI m.queue 0).size=true/\0<=X4 m b/\X4 m b < 512:=by
 have hq:m.queue≠[]:=by
  intro hq;unfold Z0 at h1;rw[ZZj hq] at h1;omega
 obtain⟨h2,h3,h4⟩:=Zu3 h hq;have h5:=(Zq3 (Zil h2).1).1;have h6:X4 m b=atI (Zaa (atI m.queue 0).addr (atI m.queue 0).size (atI m.queue 0).burst) b:=by
  unfold X4;rw[ZZj (by omega)]
 have h7:=Zj3 (xs:=Zaa (atI m.queue 0).addr (atI m.queue 0).size (atI m.queue 0).burst) h0 (by omega);rw[h6];have h8:=Z44 h7;exact⟨h7,h8.1,h8.2.1,h8.2.2⟩
theorem Zex {m:Zb} (b:Int) (h:Yt m):Zd5 m b=some (X4 m b):=by
 have hb:=Zs6 m;unfold Zd5 Zlq;rw[Zbu m h.sm,ZZa,Jg.2 h,Zxx,ZZa,X6,ZZa,Xh (by omega) (by omega)];by_cases h1:0<=b/\b<=Z0 m - 1
 .have hq:m.queue≠[]:=by
   intro hq;unfold Z0 at h1;rw[ZZj hq] at h1;omega
  obtain⟨h2,h3,h4⟩:=Zu3 h hq;have h5:=(Zq3 (Zil h2).1).1;have h6:0 < m.queue.length:=Vao.2 hq;rw[Xp (by omega) (by omega),ZZa,Z10,ZZa,Xp h1.1 (by omega)];simp[h1,X4]
 .simp[h1,X4]
theorem Zh2 {m:Zb} (b:Int) (h:Yt m):Zgu m b=some (X4 m b):=by
 have hb:=Zs6 m;unfold Zgu Zli;rw[Zfr m h.sm,ZZa,Jg.2 h,Zxf,ZZa,Xk,ZZa,Xh (by omega) (by omega)];by_cases h1:0<=b/\b<=Z0 m - 1
 .have hq:m.queue≠[]:=by
   intro hq;unfold Z0 at h1;rw[ZZj hq] at h1;omega
  obtain⟨h2,h3,h4⟩:=Zu3 h hq;have h5:=(Zq3 (Zil h2).1).1;have h6:0 < m.queue.length:=Vao.2 hq;rw[Xp (by omega) (by omega),ZZa,Z1y,ZZa,Xp h1.1 (by omega)];simp[h1,X4]
 .simp[h1,X4]
theorem Z6w {m:Zb} (h:Yt m):Zme m=some (Zo2 m):=by
 unfold Zme Zo2;rw[Zbu m h.sm,ZZa,Jg.2 h,Zxx];rfl
theorem Z62 {m:Zb} (h:Yt m):Zmd m=some (Zo2 m):=by
 unfold Zmd Zo2;rw[Zfr m h.sm,ZZa,Jg.2 h,Zxf];rfl
theorem Ynl {m:Zb} {r:Zf} (h:Yt m) (hr:r.sm):∃b,Zul m r=some (J0 m r,b):=by
 have hl:=h.len;unfold Zul Zgl J0;rw[Zpe m h.sm,ZZa,Zbu m h.sm,ZZa,Jg.2 h,Yf7 r hr,ZZa,Z7n r hr,ZZa,Ke (by simp;omega) (by simp;omega),ZZa];by_cases h1:Zdw r=true
 .by_cases h2:m.queue.length=4
  .simp[h1,h2]
  .have h3:¬((m.queue.length:Int)=4):=by omega
   simp[h1,h2,h3]
 .simp[h1]
theorem Yov {m:Zb} {r:Zf} (h:Yt m) (hr:r.sm):∃b,Zu6 m r=some (J0 m r,b):=by
 have hl:=h.len;unfold Zu6 Zfv J0;rw[Zm7 m h.sm,ZZa,Zfr m h.sm,ZZa,Jg.2 h,Yeu r hr,ZZa,Z88 r hr,ZZa,Ke (by simp;omega) (by simp;omega),ZZa];by_cases h1:Zdw r=true
 .by_cases h2:m.queue.length=4
  .simp[h1,h2]
  .have h3:¬((m.queue.length:Int)=4):=by omega
   simp[h1,h2,h3]
 .simp[h1]
theorem Ylj {m:Zb} (h:Yt m):∃b,Zrq m=some (X5 m,b):=by
 have hb:=Je h;unfold Zrq Zji X5;rw[Zpe m h.sm,ZZa,Z6w h,ZZa,Yr (a:=m.done) (by omega) (by omega),Yr (by omega) (by omega)];unfold Zo2;by_cases h1:m.beat < Z0 m
 .by_cases h2:m.beat=m.done+2<;>simp[h1,h2]
 .simp[h1]
theorem Yl3 {m:Zb} (h:Yt m):∃b,Zsg m=some (X5 m,b):=by
 have hb:=Je h;unfold Zsg Zjd X5;rw[Zm7 m h.sm,ZZa,Z62 h,ZZa,Yr (a:=m.done) (by omega) (by omega),Yr (by omega) (by omega)];unfold Zo2;by_cases h1:m.beat < Z0 m
 .by_cases h2:m.beat=m.done+2<;>simp[h1,h2]
 .simp[h1]
theorem Ypc {m:Zb} (h:Yt m):∃b,Zvq m=some (Zbn m,b):=by
 have hb:=Je h;unfold Zvq Zkw Zbn;rw[Zpe m h.sm,ZZa,Zbu m h.sm,ZZa,Jg.2 h,Xh (by omega) (by omega)];by_cases h1:m.beat=m.done<;>simp[h1]
theorem Yog {m:Zb} (h:Yt m):∃b,Zu1 m=some (Zbn m,b):=by
 have hb:=Je h;unfold Zu1 Zkr Zbn;rw[Zm7 m h.sm,ZZa,Zfr m h.sm,ZZa,Jg.2 h,Xh (by omega) (by omega)];by_cases h1:m.beat=m.done<;>simp[h1]
theorem Zxt {α:Type} (xs:List α) (h:xs≠[]) (hl:xs.length < 1048577):Zab xs 1 (xs.length:Int)=some xs.tail:=by
 have h1:0 < xs.length:=Vao.2 h;unfold Zab;rw[ZZj ⟨by omega,by omega,by omega⟩]
 congr 1
 rw[Vbh (by simp),<-List.drop_one];rfl
theorem Zg1 {m:Zb} (h:Yt m) (hb:m.beat≠m.done):m.queue≠[]:=by
 intro hq;have:=h.none hq;omega
theorem Yt2 {m:Zb} (h:Yt m):∃b,Zxu m=some (Ji m,b):=by
 have hb:=Je h;have hl:=h.len;unfold Zxu Zog Ji;rw[Zpe m h.sm,ZZa,Zbu m h.sm,ZZa,Jg.2 h,Yr (by omega) (by omega),Zxx,ZZa];have e:Z0 {m with done:=m.done+1}=Z0 m:=rfl;rw[e];by_cases h1:m.beat=m.done
 .simp[h1]
 .rw[Zxt _ (Zg1 h h1) (by omega),ZZa]
  by_cases h2:m.done+1=Z0 m<;>simp[h1,h2]
theorem Ysp {m:Zb} (h:Yt m):∃b,Zx4 m=some (Ji m,b):=by
 have hb:=Je h;have hl:=h.len;unfold Zx4 Zng Ji;rw[Zm7 m h.sm,ZZa,Zfr m h.sm,ZZa,Jg.2 h,Yr (by omega) (by omega),Zxf,ZZa];by_cases h1:m.beat=m.done
 .simp[h1]
 .rw[Zxt _ (Zg1 h h1) (by omega),ZZa]
  by_cases h2:m.done+1=Z0 m<;>simp[h1,h2]
theorem Ya4 {m:Zb} {r:Zf} (h:m.queue≠[]):atI (m.queue++[r]) 0=atI m.queue 0:=by
 cases hq:m.queue with
 | nil=>exact absurd hq h
 | cons a l=>rfl
theorem Yvt {m:Zb} {r:Zf} (h:Yt m):Yt (J0 m r):=by
 unfold J0;split
 .rename_i h1
  have hl:=h.len;have Yh:m.queue++[r]≠[]:=by simp
  refine⟨by simp;omega,h.tries,λx hx=>?_,λhx=>absurd hx Yh,λ_=>?_⟩
  .rcases Var.1 hx with hx|hx
   .exact h.reqs x hx
   .rw[List.mem_singleton.1 hx];exact h1.1
  .by_cases hq:m.queue=[]
   .obtain⟨h2,h3,h4,h5,h6⟩:=h.none hq
    have hm:Z0 {m with queue:=m.queue++[r]}=X0 r.burst:=by
     unfold Z0;rw[ZZi Yh];simp[hq,atI]
    have:=(Zq3 (Zil h1.1).1).2;rw[hm];simp only[h2,h3];omega
   .have h2:=h.some hq
    have hm:Z0 {m with queue:=m.queue++[r]}=Z0 m:=by
     unfold Z0;rw[ZZi Yh,ZZi hq];simp only[Ya4 hq]
    rw[hm];exact h2
 .exact h
theorem Yrt {m:Zb} (h:Yt m):Yt (X5 m):=by
 unfold X5;split
 .rename_i h1
  have hq:m.queue≠[]:=by
   intro hq;unfold Z0 at h1;rw[ZZj hq] at h1;have:=Je h;omega
  have h2:=h.some hq;refine⟨h.len,h.tries,h.reqs,λhx=>absurd hx hq,λ_=>?_⟩;have hm:Z0 {m with beat:=m.beat+1}=Z0 m:=rfl;rw[hm];simp only;omega
 .exact h
theorem Ygl {m:Zb} (h:Yt m):Yt (Zbn m):=by
 unfold Zbn;split
 .exact h
 .rename_i h1
  have hq:=Zg1 h h1;have h2:=h.some hq;refine⟨h.len,h.tries,h.reqs,λhx=>absurd hx hq,λ_=>?_⟩;have hm:Z0 {m with beat:=m.beat - 1}=Z0 m:=rfl;rw[hm];simp only;omega
theorem Yzc {m:Zb} (h:Yt m):Yt (Ji m):=by
 unfold Ji;split
 .exact h
 .rename_i h1
  have hq:=Zg1 h h1;have h2:=h.some hq;split
  .have hr:∀r∈m.queue.tail,Zdw r=true:=λr hr=>h.reqs r (List.mem_of_mem_tail hr)
   refine⟨by have:=h.len;simp;omega,by simp,hr,λ_=>by simp,λhx=>?_⟩;have h3:Yt (Zb.mk m.queue.tail 0 0 0 false false)->True:=λ_=>trivial;have h4:0 < m.queue.tail.length:=Vao.2 hx;have h5:Zdw (atI m.queue.tail 0)=true:=hr _ (Zj3 (by omega) (by omega));have h6:=(Zq3 (Zil h5).1).2;have hm:Z0 (Zb.mk m.queue.tail 0 0 0 false false)=X0 (atI m.queue.tail 0).burst:=by
    unfold Z0;rw[ZZi hx]
   rw[hm];simp only;omega
  .rename_i h3
   refine⟨h.len,by simp,h.reqs,λhx=>absurd hx hq,λ_=>?_⟩;have hm:Z0 (Zb.mk m.queue m.beat (m.done+1) 0 false m.broken)=Z0 m:=rfl;rw[hm];simp only;omega
theorem Y4y {a b:Int} {k:Nat} (h0:0<=a) (h1:a < 2^k) (hb:0<=b) (hk:b*2^k+a < 9223372036854775808):orW a (b*2^k)=a+b*2^k:=by
 obtain⟨a,rfl⟩:=Vc7 h0;obtain⟨b,rfl⟩:=Vc7 hb;have e1:(b:Int)*2^k=((b*2^k:Nat):Int):=by simp
 rw[e1] at hk ⊢;have h1':a < 2^k:=by
  have:((a:Nat):Int) < ((2^k:Nat):Int):=by simpa using h1
  exact Int.ofNat_lt.1 this
 have h2:a+b*2^k < 18446744073709551616:=by omega
 unfold orW;show IntKind.i64.wrap (((BitVec.ofInt 64 ((a:Nat):Int) ||| BitVec.ofInt 64 ((b*2^k:Nat):Int)).toNat:Nat):Int)=_;rw[Vcw,Vcw,BitVec.toNat_or,Vc3,Vc3,Vdf (by omega),Vdf (by omega)];have h3:a ||| b*2^k=a+b*2^k:=by
  rw[Nat.or_comm,<-Nat.shiftLeft_eq,<-Nat.shiftLeft_add_eq_or_of_lt h1',Vdh]
 rw[h3,Zyr (by omega) (by omega)];simp
theorem Y2f {a:Int} (h0:0<=a) (h1:a < 9223372036854775808):andW a 255=a % 256:=by
 obtain⟨a,rfl⟩:=Vc7 h0;unfold andW;show IntKind.i64.wrap (((BitVec.ofInt 64 ((a:Nat):Int) &&& BitVec.ofInt 64 ((255:Nat):Int)).toNat:Nat):Int)=_;rw[Vcw,Vcw,BitVec.toNat_and,Vc3,Vc3,Vdf (by omega),Vdf (by omega)];have h3:a &&& 255=a % 256:=Nat.and_two_pow_sub_one_eq_mod a 8;rw[h3,Zyr (by omega) (by omega)];omega
theorem Y5u {a:Int} {k:Nat} (hk:k<=64) (h0:0<=a) (h1:a*2^k < 9223372036854775808):Ydb a (k:Int)=a*2^k:=by
 unfold Ydb;have:min ((k:Int).toNat) IntKind.i64.bits=k:=by
  show min ((k:Int).toNat) 64=k;omega
 rw[this];have:0<=a*2^k:=Veg h0 (Int.pow_nonneg (by omega));exact Zyr (by omega) h1
theorem Y6g {a:Int} {k:Nat} (hk:k<=64) (h0:0<=a):shrW a (k:Int)=a / 2^k:=by
 unfold shrW;have:min ((k:Int).toNat) IntKind.i64.bits=k:=by
  show min ((k:Int).toNat) 64=k;omega
 rw[this,Int.fdiv_eq_ediv_of_nonneg _ (Int.pow_nonneg (by omega))]
def Zcr (n:Int):Bool:=decide (0<=n/\n<=255)
def Z27 (mem:List Int):Bool:=decide (mem.length<=512)&&mem.all Zcr
def Zkp (mem:List Int) (a s:Int):Bool:=Z27 mem&&(Wc a s&&decide (a<=(mem.length:Int) - Yy s))
theorem Z8s (mem:List Int) (a s:Int) (hl:mem.length < 1048577):Zt6 mem a s=some (Zkp mem a s):=by
 have hb:=Zij s;have hf:Wz mem=some (!mem.all Zcr):=by
  unfold Wz Jd;refine Z0x mem (by omega) Zxo Zcr (λr hr=>?_) _ (λm i=>rfl);unfold Zxo;rw[X6];rfl
 unfold Zt6 Zkp Z27;rw[hf,ZZa,Zsw,ZZa,Zhx,ZZa,Xh (by omega) (by omega)];by_cases h1:mem.length<=512
 .have h2:(mem.length:Int)<=512:=by omega
  by_cases h3:mem.all Zcr=true
  .by_cases h4:Wc a s=true<;>simp only[h1,h2,h3,h4,decide_true,if_true,Va5,Vbi,Vby,Vce,Vbq,ZZf,if_false]
  .simp[h1,h2,h3]
 .have h2:¬(mem.length:Int)<=512:=by omega
  simp[h1,h2]
theorem Z9o (mem:List Int) (hl:mem.length < 1048577):Zow mem=some (Z27 mem):=by
 unfold Zow Z27;have key:∀(n k:Nat),k<=mem.length->mem.length - k < n->Zlo mem n k=some (decide (mem.length<=512)&&(mem.drop k).all Zcr):=by
  intro n
  induction n with
  | zero=>intro k _ h;omega
  | succ n ih=>
   intro k hk hm;show Zp7 mem _ k=_;unfold Zp7;by_cases hc:k < mem.length
   .rw[ZZj (by simpa using hc),Xu hc,ZZa,Xk,ZZa,Va4 hc,Va6]
    by_cases hq:0<=mem[k]/\mem[k]<=255
    .rw[ZZi (by simp[hq]),Wp (by omega),ih (k+1) (by omega) (by omega)]
     simp[hq,Zcr]
    .rw[ZZj (by simp[hq])]
     simp[hq,Zcr]
   .rw[ZZi (by simpa using hc),Va9 (by omega)]
    by_cases h1:mem.length<=512
    .have h2:(mem.length:Int)<=512:=by omega
     simp[h1,h2]
    .have h2:¬(mem.length:Int)<=512:=by omega
     simp[h1,h2]
 have:=key FU 0 (Vbl _) (by have:=Kq;omega);simpa using this
theorem Ycg (mem:List Int) (a s:Int) (hl:mem.length < 1048577):Zs4 mem a s=some (Zkp mem a s):=by
 have hb:=Zij s;unfold Zs4 Zkp;rw[Z9o mem hl,ZZa,Zry,ZZa,Zbd,ZZa,Xh (by omega) (by omega)];by_cases h3:Z27 mem=true
 .by_cases h4:Wc a s=true<;>simp only[h3,h4,if_true,Vby,Vbq,ZZf,if_false]
 .simp[h3]
def Zh4 (mem:List Int):Nat->Int->Int
 | 0,_=>0
 | n+1,a=>atI mem a+256*Zh4 mem n (a+1)
def Z4p:Nat->List Int->Int->Int->List Int
 | 0,l,_,_=>l
 | n+1,l,a,v=>Z4p n (l.set a.toNat (v % 256)) (a+1) (v / 256)
theorem Y2k:∀(n:Nat) (l:List Int) (a v:Int),(Z4p n l a v).length=l.length:=by
 intro n
 induction n with
 | zero=>intro l a v;rfl
 | succ n ih=>intro l a v;simp only[Z4p,ih,Vbf]
theorem Yw8:∀(n:Nat) (l:List Int) (a v:Int),l.all Zcr=true->(Z4p n l a v).all Zcr=true:=by
 intro n
 induction n with
 | zero=>intro l a v h;exact h
 | succ n ih=>
  intro l a v h;refine ih _ _ _ ?_;rw[ZZk] at h ⊢;intro x hx;rcases Vca hx with hx|rfl
  .exact h x hx
  .have h1:0<=v % 256:=Vc0 _ (by omega)
   have h2:v % 256 < 256:=Vcn _ (by omega);simp[Zcr];omega
theorem Yki (mem:List Int):∀(n:Nat) (a:Int),Zh4 mem (n+1) a=Zh4 mem n a+256^n*atI mem (a+n):=by
 intro n
 induction n with
 | zero=>intro a;simp[Zh4]
 | succ n ih=>
  intro a;rw[Zh4,ih (a+1),Zh4];rw[Int.mul_add,<-Int.mul_assoc,show (256:Int)*256^n=256^(n+1) by rw[Int.pow_succ,Vc2],show a+1+(n:Int)=a+((n+1:Nat):Int) by omega];omega
theorem Yvc {mem:List Int} (h:mem.all Zcr=true):∀(n:Nat) (a:Int),0<=a->a+n<=(mem.length:Int)->0<=Zh4 mem n a/\Zh4 mem n a < 256^n:=by
 intro n
 induction n with
 | zero=>intro a _ _;simp[Zh4]
 | succ n ih=>
  intro a h0 h1;have h2:=ih (a+1) (by omega) (by omega);have h3:=ZZk.1 h _ (Zj3 h0 (by omega:a < (mem.length:Int)));simp only[Zcr,ZZl] at h3;simp only[Zh4];have e:(256:Int)^(n+1)=256*256^n:=by rw[Int.pow_succ,Vc2]
  rw[e];omega
def Z9h (mem:List Int) (a s:Int):Int:=Zh4 mem (Yy s).toNat a
def Z8w (mem:List Int) (a s v:Int):List Int:=Z4p (Yy s).toNat mem a v
theorem Zso {mem:List Int} {a s:Int} (h:Zkp mem a s=true):mem.length<=512/\mem.all Zcr=true/\0 < Yy s/\0<=a/\a+Yy s<=(mem.length:Int):=by
 simp only[Zkp,Z27,ZZg,ZZl] at h;have:=Zbw h.2.1;exact⟨h.1.1,h.1.2,this.1,this.2.1,by omega⟩
theorem Yp5 (k:Nat) (h:k<=4):(256:Int)^k=2^(8*k)/\(256:Int)^k<=4294967296:=by
 have:k=0\/k=1\/k=2\/k=3\/k=4:=by omega
 rcases this with rfl|rfl|rfl|rfl|rfl<;>decide
theorem Yrf {mem:List Int} {a s:Int} (h:Zkp mem a s=true):Zxg mem a s=some (Z9h mem a s,true):=by
 obtain⟨h1,h2,h3,h4,h5⟩:=Zso h;have hb:=Zij s;unfold Zxg Z9h;rw[Z8s mem a s (by omega),ZZa,h,ZZi (by simp),Zhx,ZZa];have key:∀(r n k:Nat),r < n->(k:Int)+r=Yy s->Znp mem a s n (Zh4 mem k a) (Yy s) k=some (Zh4 mem (k+r) a,true):=by
  intro r
  induction r with
  | zero=>
   intro n k hn hk;obtain⟨n,rfl⟩:∃m',n=m'+1:=⟨n - 1,by omega⟩;show Zgn mem a s _ (Zh4 mem k a) (Yy s) k=_;unfold Zgn;rw[ZZi (by simp;omega)];rfl
  | succ r ih=>
   intro n k hn hk;obtain⟨n,rfl⟩:∃m',n=m'+1:=⟨n - 1,by omega⟩;show Zgn mem a s _ (Zh4 mem k a) (Yy s) k=_;unfold Zgn;have h6:0<=a+(k:Int):=by omega
   have h7:a+(k:Int) < (mem.length:Int):=by omega
   have h8:=ZZk.1 h2 _ (Zj3 h6 h7);simp only[Zcr,ZZl] at h8;have h9:=Yvc h2 k a h4 (by omega);have hp:=Yp5 k (by omega);have hp1:(0:Int) < 2^(8*k):=Int.pow_pos (by omega);have h10:atI mem (a+k)*2^(8*k)<=255*4294967296:=by
    rw[<-hp.1];exact Int.mul_le_mul h8.2 hp.2 (by rw[hp.1];omega) (by omega)
   rw[ZZj (by simp;omega),Yr (by omega) (by omega),Xp h6 h7,ZZa,Zfn (by omega) (by omega),Y1y (by omega),ZZa,show (8:Int)*(k:Int)=((8*k:Nat):Int) by omega,Y5u (by omega) h8.1 (by omega),Y4y h9.1 (by rw[<-hp.1];exact h9.2) h8.1 (by have:=h9.2;rw[hp.1] at this;have:=hp.2;rw[hp.1] at this;omega),Wp (by omega)];have e:Zh4 mem k a+atI mem (a+k)*2^(8*k)=Zh4 mem (k+1) a:=by
    rw[Yki,hp.1,Vc2]
   rw[e,ih n (k+1) (by omega) (by omega),show k+1+r=k+(r+1) by omega]
 have:=key (Yy s).toNat FU 0 (by have:=Kq;omega) (by omega);simpa [Zh4] using this
theorem Ytj {mem:List Int} {a s:Int} (h:Zkp mem a s=true):Zx0 mem a s=some (Z9h mem a s,true):=by
 obtain⟨h1,h2,h3,h4,h5⟩:=Zso h;have hb:=Zij s;unfold Zx0 Z9h;rw[Ycg mem a s (by omega),ZZa,h,ZZi (by simp),Zbd,ZZa,Xh (by omega) (by omega)];have key:∀(r n j:Nat) (v:Int),r < n->(r:Int)<=Yy s->j+r<=4->0<=v->v < 256^j->Zoj mem a s n v ((r:Int) - 1)=some (v*256^r+Zh4 mem r a,true):=by
  intro r
  induction r with
  | zero=>
   intro n j v hn hk _ _ _;obtain⟨n,rfl⟩:∃m',n=m'+1:=⟨n - 1,by omega⟩;show Zgo mem a s _ v _=_;unfold Zgo;rw[ZZi (by simp)];simp[Zh4]
  | succ r ih=>
   intro n j v hn hk hj hv hv2;obtain⟨n,rfl⟩:∃m',n=m'+1:=⟨n - 1,by omega⟩;show Zgo mem a s _ v _=_;unfold Zgo;have h6:0<=a+(r:Int):=by omega
   have h7:a+(r:Int) < (mem.length:Int):=by omega
   have h8:=ZZk.1 h2 _ (Zj3 h6 h7);simp only[Zcr,ZZl] at h8;have hp:=(Yp5 j (by omega)).2;have e1:(256:Int)^(r+1)=256^r*256:=Int.pow_succ ..;have e3:(256:Int)^(j+1)=256^j*256:=Int.pow_succ ..;have e2:(((r+1:Nat):Int) - 1)=(r:Int):=by omega
   rw[e2,ZZj (by simp),Yr (by omega) (by omega),Xp h6 h7,ZZa,Zfn (by omega) (by omega),Yr (by omega) (by omega),Xh (by omega) (by omega),ih n (j+1) _ (by omega) (by omega) (by omega) (by omega) (by rw[e3];omega)];rw[Yki,Int.add_mul,e1,Vc2 (256^r) 256,<-Int.mul_assoc,Vc2 (256^r) (atI mem (a+r))]
   congr 2
   omega
 have:=key (Yy s).toNat FU 0 0 (by have:=Kq;omega) (by omega) (by omega) (by omega) (by simp);rw[show ((Yy s).toNat:Int)=Yy s by omega] at this;simpa using this
theorem Zt5 (xs:List Int) (h:xs.length < 1048577):Xc xs=some xs:=by
 unfold Xc;rw[Ke (by simp;omega) (by simp;omega)];rfl
theorem Z3u (xs:List Int) (h:xs.length < 1048577):Wd 8 [] xs=some xs:=by
 rw[Ke (by simp;omega) (by simp;omega)];rfl
theorem Ysx {mem:List Int} {a s v:Int} (h:Zkp mem a s=true) (hv:Xz v s=true):Zxl mem a s v=some (Z8w mem a s v,true):=by
 obtain⟨h1,h2,h3,h4,h5⟩:=Zso h;have hb:=Zij s;have hl:=Z1j s;simp only[Xz,ZZl] at hv;unfold Zxl Znx Z8w;rw[Zt5 mem (by omega),ZZa,Z8s mem a s (by omega),ZZa,h,ZZi (by simp),Zjm,ZZa,Zhx,ZZa];have hn:Xz v s=true:=by simp[Xz,hv]
 rw[hn,ZZi (by simp)];have key:∀(r n k:Nat) (l:List Int),r < n->(k:Int)+r=Yy s->l.length=mem.length->Zno mem a s v n l (Yy s) k=some (Z4p r l (a+k) (v / 256^k),true):=by
  intro r
  induction r with
  | zero=>
   intro n k l hn hk _;obtain⟨n,rfl⟩:∃m',n=m'+1:=⟨n - 1,by omega⟩;show Zgh mem a s v _ l (Yy s) k=_;unfold Zgh;rw[ZZi (by simp;omega)];rfl
  | succ r ih=>
   intro n k l hn hk hl2;obtain⟨n,rfl⟩:∃m',n=m'+1:=⟨n - 1,by omega⟩;show Zgh mem a s v _ l (Yy s) k=_;unfold Zgh;have h6:0<=a+(k:Int):=by omega
   have h7:a+(k:Int) < (l.length:Int):=by omega
   have hp:=Yp5 k (by omega);have hp1:(0:Int) < 256^k:=Int.pow_pos (by omega);have h8:0<=v / 256^k:=Int.ediv_nonneg hv.1 (by omega);have h9:v / 256^k<=v:=Int.ediv_le_self _ hv.1;rw[ZZj (by simp;omega),Zfn (by omega) (by omega),Y1y (by omega),ZZa,Yr (a:=a) (by omega) (by omega),Xp h6 h7,ZZa,Wx,ZZa,show (8:Int)*(k:Int)=((8*k:Nat):Int) by omega,Y6g (by omega) hv.1,<-hp.1,Y2f h8 (by omega),Wp (by omega),ih n (k+1) _ (by omega) (by omega) (by simp[hl2])];simp only[Z4p];rw[Int.ediv_ediv_of_nonneg (by omega),<-Int.pow_succ,show a+((k+1:Nat):Int)=a+k+1 by omega]
 have:=key (Yy s).toNat FU 0 mem (by have:=Kq;omega) (by omega) rfl;simpa using this
theorem Yrm {mem:List Int} {a s v:Int} (h:Zkp mem a s=true) (hv:Xz v s=true):Zx5 mem a s v=some (Z8w mem a s v,true):=by
 obtain⟨h1,h2,h3,h4,h5⟩:=Zso h;have hb:=Zij s;have hl:=Z1j s;unfold Zx5 Zoa Z8w;rw[Z3u mem (by omega),ZZa,Ycg mem a s (by omega),ZZa,h,ZZi (by simp),Zbg,ZZa,Zqp,ZZa,hv,ZZi (by simp)];simp only[Xz,ZZl] at hv;have key:∀(r n k:Nat) (l:List Int) (x:Int),r < n->(k:Int)+r=Yy s->l.length=mem.length->0<=x->x < 9223372036854775808->Zn9 mem a s v n x l k=some (Z4p r l (a+k) x,true):=by
  intro r
  induction r with
  | zero=>
   intro n k l x hn hk _ _ _;obtain⟨n,rfl⟩:∃m',n=m'+1:=⟨n - 1,by omega⟩;show Zgf mem a s v _ x l k=_;unfold Zgf;rw[Zbd,ZZa,ZZi (by simp;omega)];rfl
  | succ r ih=>
   intro n k l x hn hk hl2 hx hx2;obtain⟨n,rfl⟩:∃m',n=m'+1:=⟨n - 1,by omega⟩;show Zgf mem a s v _ x l k=_;unfold Zgf;have h6:0<=a+(k:Int):=by omega
   have h7:a+(k:Int) < (l.length:Int):=by omega
   rw[Zbd,ZZa,ZZj (by simp;omega),Yr (a:=a) (by omega) (by omega),Xp h6 h7,ZZa,Wx,ZZa,Zei hx,Yan hx hx2 (by omega),Wp (by omega),ih n (k+1) _ _ (by omega) (by omega) (by simp[hl2]) (by omega) (by omega)];simp only[Z4p];rw[show a+((k+1:Nat):Int)=a+k+1 by omega]
 have:=key (Yy s).toNat FU 0 mem v (by have:=Kq;omega) (by omega) rfl hv.1 (by omega);simpa using this
def Zn.sm (d:Zn):Prop:=d.regs.length < 1048577/\d.fifo.length < 1048577
def Ydp (d:Zn):Bool:=decide (d.regs.length=4)&&(d.regs.all (λv=>Xz v 2)&&(Xz d.timer 2&&(decide (d.fifo.length<=4)&&d.fifo.all λv=>Xz v 2)))
theorem Ygx (d:Zn) (hs:d.sm):Zwd d=some (Ydp d):=by
 have hf:∀xs:List Int,xs.length < 1048577->Xy xs=some (!xs.all λv=>Xz v 2):=by
  intro xs hl;unfold Xy K6;refine Z0x xs (by omega) Zvo (λv=>Xz v 2) (λr hr=>?_) _ (λm i=>rfl);unfold Zvo;rw[Zjm];rfl
 unfold Zwd Ydp;rw[hf _ hs.1,ZZa,hf _ hs.2,ZZa,Zjm,ZZa];by_cases h1:d.regs.length=4
 .have h2:(d.regs.length:Int)=4:=by omega
  by_cases h3:d.fifo.length<=4
  .have h4:(d.fifo.length:Int)<=4:=by omega
   cases h5:(d.regs.all λv=>Xz v 2)<;>cases h6:(d.fifo.all λv=>Xz v 2)<;>cases h7:Xz d.timer 2<;>simp[h1,h2,h3,h4]
  .have h4:¬(d.fifo.length:Int)<=4:=by omega
   simp[h1,h2,h3,h4]
 .have h2:¬(d.regs.length:Int)=4:=by omega
  simp[h1,h2]
theorem Z7t (xs:List Int) (hl:xs.length < 1048577):Zpb xs=some (xs.all λv=>Xz v 2):=by
 unfold Zpb;have key:∀(n k:Nat),k<=xs.length->xs.length - k < n->Zls xs n k=some ((xs.drop k).all λv=>Xz v 2):=by
  intro n
  induction n with
  | zero=>intro k _ h;omega
  | succ n ih=>
   intro k hk hm;show Zp8 xs _ k=_;unfold Zp8;by_cases hc:k < xs.length
   .rw[ZZj (by simpa using hc),Xu hc,ZZa,Zbg,ZZa,Zqp,ZZa,Va4 hc,Va6]
    by_cases hq:Xz xs[k] 2=true
    .rw[ZZi (by simp[hq]),Wp (by omega),ih (k+1) (by omega) (by omega)]
     simp[hq]
    .rw[ZZj (by simp[hq])]
     simp[hq]
   .rw[ZZi (by simpa using hc),Va9 (by omega)]
    rfl
 have:=key FU 0 (Vbl _) (by have:=Kq;omega);simpa using this
theorem Yg5 (d:Zn) (hs:d.sm):Zwl d=some (Ydp d):=by
 unfold Zwl Ydp;rw[Z7t _ hs.1,ZZa,Z7t _ hs.2,ZZa,Zbg,ZZa,Zqp,ZZa];by_cases h1:d.regs.length=4
 .have h2:(d.regs.length:Int)=4:=by omega
  by_cases h3:d.fifo.length<=4
  .have h4:(d.fifo.length:Int)<=4:=by omega
   cases h5:(d.regs.all λv=>Xz v 2)<;>cases h6:(d.fifo.all λv=>Xz v 2)<;>cases h7:Xz d.timer 2<;>simp[h1,h2,h3,h4]
  .have h4:¬(d.fifo.length:Int)<=4:=by omega
   cases h5:(d.regs.all λv=>Xz v 2)<;>cases h7:Xz d.timer 2<;>simp[h1,h2,h3,h4]
 .have h2:¬(d.regs.length:Int)=4:=by omega
  simp[h1,h2]
structure Z9d (d:Zn):Prop where
 regs:d.regs.length=4
 nums:∀v∈d.regs,Xz v 2=true
 timer:Xz d.timer 2=true
 len:d.fifo.length<=4
 fifo:∀v∈d.fifo,Xz v 2=true
theorem Yjm {d:Zn}:Ydp d=true↔Z9d d:=by
 simp only[Ydp,ZZg,ZZl,ZZk];constructor
 .intro h;exact⟨h.1,h.2.1,h.2.2.1,h.2.2.2.1,h.2.2.2.2⟩
 .intro h;exact⟨h.regs,h.nums,h.timer,h.len,h.fifo⟩
theorem Z9d.sm {d:Zn} (h:Z9d d):d.sm:=⟨by have:=h.regs;omega,by have:=h.len;omega⟩
theorem Ybr (d:Zn) (hs:d.sm):Zrs d=some d:=by
 unfold Zrs;rw[Zt5 _ hs.1,ZZa,Zt5 _ hs.2];rfl
theorem Yb1 (d:Zn) (hs:d.sm):Zse d=some d:=by
 unfold Zse;rw[Z3u _ hs.1,ZZa,Z3u _ hs.2];rfl
def Zbm (d:Zn) (w:Bool) (a v:Int):Zn×Int×Bool:=
 if (w&&!Xz v 2)=true then (d,0,false) else
 if a=16 then (if w then ({d with timer:=v},v,true) else ({d with timer:=(d.timer+1) % 4294967296},d.timer,true)) else
 if a=20 then (if w then (if d.fifo.length < 4 then ({d with fifo:=d.fifo++[v]},v,true) else (d,0,false)) else (if d.fifo=[] then (d,0,false) else ({d with fifo:=d.fifo.tail},atI d.fifo 0,true))) else
 if (0<=a/\a < 16)/\a % 4=0 then (if w then ({d with regs:=d.regs.set (a / 4).toNat v},v,true) else (d,atI d.regs (a / 4),true)) else (d,0,false)
theorem num2 {v:Int} (h:Xz v 2=true):0<=v/\v < 4294967296:=by
 simpa [Xz,Zfx] using h
theorem Yxo {d:Zn} (w:Bool) (a v:Int) (h:Z9d d):Z1v d w a v=some (Zbm d w a v):=by
 have ht:=num2 h.timer;have hl:=h.len;have hr:=h.regs;unfold Z1v;rw[Ybr d h.sm,ZZa,Ygx d h.sm,ZZa,Yjm.2 h,Zjm,ZZa];have hJ:Zdm d w a v d false=some (if a=16 then (if w then ({d with timer:=v},v,true) else ({d with timer:=(d.timer+1) % 4294967296},d.timer,true)) else
 if a=20 then (if w then (if d.fifo.length < 4 then ({d with fifo:=d.fifo++[v]},v,true) else (d,0,false)) else (if d.fifo=[] then (d,0,false) else ({d with fifo:=d.fifo.tail},atI d.fifo 0,true))) else
 if (0<=a/\a < 16)/\a % 4=0 then (if w then ({d with regs:=d.regs.set (a / 4).toNat v},v,true) else (d,atI d.regs (a / 4),true)) else (d,0,false)):=by
  unfold Zdm Zps Zj0 Zjv Zj5;by_cases h16:a=16
  .subst h16
   rw[Z9j,ZZa,show Zfx 2=4294967296 from rfl,Zwp (by omega),Yr (by omega) (by omega),Zei (by omega)];cases w<;>simp
  .by_cases h20:a=20
   .subst h20
    cases w with
    | true=>
     by_cases h3:d.fifo.length < 4
     .have h4:(d.fifo.length:Int) < 4:=by omega
      rw[Ke (by simp;omega) (by simp;omega)];simp[h3,h4]
     .have h4:¬(d.fifo.length:Int) < 4:=by omega
      simp[h3,h4]
    | false=>
     by_cases h3:d.fifo=[]
     .simp[h3]
     .have h4:0 < d.fifo.length:=Vao.2 h3
      have h5:(d.fifo.length:Int) > 0:=by omega
      rw[Xp (by omega) (by omega),ZZa,Zxt _ h3 (by omega),ZZa,Zt5 _ (by simp;omega)];simp[h3,h5]
   .by_cases h3:(0<=a/\a < 16)/\a % 4=0
    .obtain⟨⟨h4,h5⟩,h6⟩:=h3
     have h7:¬a≥16:=by omega
     have h8:¬a < 0:=by omega
     rw[Yan h4 (by omega) (by omega),Xp (xs:=d.regs) (by omega) (by omega),ZZa,ZZa,Wx,Zei h4];cases w<;>simp[h16,h20,h4,h5,h6,h7,h8]
    .by_cases h4:a≥16
     .have h5:¬a < 16:=by omega
      cases w<;>simp[h16,h20,h4,h5]
     .by_cases h5:a < 0
      .have h6:¬0<=a:=by omega
       cases w<;>simp[h16,h20,h4,h5,h6]
      .have h6:a % 4≠0:=λh=>h3 ⟨by omega,h⟩
       rw[Zei (by omega)];cases w<;>simp[h16,h20,h4,h5,h6]
 unfold Zbm;cases w with
 | false=>simp only[Va5,ZZf,if_false,Vbq];exact hJ
 | true=>
  by_cases hv:Xz v 2=true
  .simp only[hv,Va5,ZZf,if_false,if_true,Vc5]
   exact hJ
  .simp[hv,Zdm]
theorem Yw5 {d:Zn} (w:Bool) (a v:Int) (h:Z9d d):Z1f d w a v=some (Zbm d w a v):=by
 have ht:=num2 h.timer;have hl:=h.len;have hr:=h.regs;unfold Z1f;rw[Yb1 d h.sm,ZZa,Yg5 d h.sm,ZZa,Yjm.2 h,Zbg,ZZa,Zqp,ZZa];have hJ:∀_:Za1 a 4=0,Zac d w a v d false=some (if a=16 then (if w then ({d with timer:=v},v,true) else ({d with timer:=(d.timer+1) % 4294967296},d.timer,true)) else
 if a=20 then (if w then (if d.fifo.length < 4 then ({d with fifo:=d.fifo++[v]},v,true) else (d,0,false)) else (if d.fifo=[] then (d,0,false) else ({d with fifo:=d.fifo.tail},atI d.fifo 0,true))) else
 if (0<=a/\a < 16)/\a % 4=0 then (if w then ({d with regs:=d.regs.set (a / 4).toNat v},v,true) else (d,atI d.regs (a / 4),true)) else (d,0,false)):=by
  intro Z3g;unfold Zac Zp0 Zpx Zj2 Zjx;rw[Xk,ZZa,ZZa];by_cases h16:a=16
  .subst h16
   rw[Zbg,ZZa,show Zfx 2=4294967296 from rfl,Zwp (by omega),Yr (by omega) (by omega),Zei (by omega)];cases w<;>simp
  .by_cases h20:a=20
   .subst h20
    cases w with
    | true=>
     by_cases h3:d.fifo.length < 4
     .have h4:(d.fifo.length:Int) < 4:=by omega
      rw[Ke (by simp;omega) (by simp;omega)];simp[h3,h4]
     .have h4:¬(d.fifo.length:Int) < 4:=by omega
      simp[h3,h4]
    | false=>
     by_cases h3:d.fifo=[]
     .simp[h3]
     .have h4:0 < d.fifo.length:=Vao.2 h3
      have h5:(d.fifo.length:Int) > 0:=by omega
      rw[Xp (xs:=d.fifo) (by omega) (by omega),ZZa,Zxt _ h3 (by omega),ZZa];simp[h3,h5]
   .by_cases h3:0<=a/\a < 16
    .rw[Zei h3.1] at Z3g
     have h4:0<=a/\a<=12:=by omega
     rw[Yan h3.1 (by omega) (by omega),Xp (xs:=d.regs) (by omega) (by omega),ZZa,ZZa,Wx];cases w<;>simp[h16,h20,h3,h4,Z3g]
    .have h4:¬(0<=a/\a<=12):=by omega
     cases w<;>simp[h16,h20,h3,h4]
 unfold Zbm;by_cases Z3g:Za1 a 4=0
 .rw[ZZi (by simp),ZZi (by simp[Z3g])]
  cases w with
  | false=>simp only[ZZf,if_false,Vbq];exact hJ Z3g
  | true=>
   by_cases hv:Xz v 2=true
   .simp only[hv,Va5,ZZf,if_false,if_true,Vc5]
    exact hJ Z3g
   .simp[hv,Zac]
 .have h16:a≠16:=λh=>Z3g (by subst h;rfl)
  have h20:a≠20:=λh=>Z3g (by subst h;rfl);have h3:¬((0<=a/\a < 16)/\a % 4=0):=λh=>Z3g (by rw[Zei h.1.1];exact h.2);rw[ZZi (by simp),ZZj (by simp[Z3g])];simp only[h16,h20,h3,if_false,Zac,if_true];split<;>rfl
theorem Y5h {xs:List Int} {p:Int->Prop} (h:∀x∈xs,p x) {k:Nat} {v:Int} (hv:p v):∀x∈xs.set k v,p x:=by
 intro x hx;rcases Vca hx with hx|rfl
 .exact h x hx
 .exact hv
theorem Y2d {d:Zn} {w:Bool} {a v:Int} (h:Z9d d):Z9d (Zbm d w a v).1/\((Zbm d w a v).2.2=true->Xz (Zbm d w a v).2.1 2=true):=by
 have ht:=num2 h.timer;have hl:=h.len;unfold Zbm;split
 .exact⟨h,by simp⟩
 .rename_i hw
  have hv:w=true->Xz v 2=true:=by
   intro h1;rw[h1] at hw;simpa using hw
  split
  .split
   .rename_i h1
    exact⟨⟨h.regs,h.nums,hv h1,h.len,h.fifo⟩,λ_=>hv h1⟩
   .refine⟨⟨h.regs,h.nums,?_,h.len,h.fifo⟩,λ_=>h.timer⟩
    have:Zfx 2=4294967296:=rfl;simp only[Xz,this,ZZl];omega
  .split
   .split
    .rename_i h1
     split
     .rename_i h2
      refine⟨⟨h.regs,h.nums,h.timer,by simp;omega,λx hx=>?_⟩,λ_=>hv h1⟩;rcases Var.1 hx with hx|hx
      .exact h.fifo x hx
      .rw[List.mem_singleton.1 hx];exact hv h1
     .exact⟨h,by simp⟩
    .split
     .exact⟨h,by simp⟩
     .rename_i h2
      have h4:0 < d.fifo.length:=Vao.2 h2;refine⟨⟨h.regs,h.nums,h.timer,by simp;omega,λx hx=>h.fifo x (List.mem_of_mem_tail hx)⟩,λ_=>h.fifo _ (Zj3 (by omega) (by omega))⟩
   .split
    .rename_i h3
     split
     .rename_i h1
      exact⟨⟨by simp[h.regs],Y5h h.nums (hv h1),h.timer,h.len,h.fifo⟩,λ_=>hv h1⟩
     .refine⟨h,λ_=>h.nums _ (Zj3 (by omega) (by have:=h.regs;omega))⟩
    .exact⟨h,by simp⟩
def Yx (a:Int):Int:=if a < 0\/224<=a then 0 else if a < 128 then 1 else if a < 192 then 2 else 3
theorem Zz6 (a:Int):Zpl a=some (Yx a):=by
 unfold Zpl Zlg Yx;by_cases h1:a < 0
 .simp[h1]
 .by_cases h2:a≥224
  .simp[h1,h2]
  .by_cases h3:a < 128
   .simp[h1,h2,h3]
   .by_cases h4:a < 192<;>simp[h1,h2,h3,h4]
theorem Z86 (a:Int):Zvs a=some (Yx a):=by
 rw[<-Zz6];rfl
def Zh.sm (m:Zh):Prop:=m.mem.length < 1048577/\m.dev.sm
def Z0e (m:Zh):Bool:=decide (m.mem.length=192)&&(m.mem.all Zcr&&Ydp m.dev)
structure Ze3 (m:Zh):Prop where
 len:m.mem.length=192
 bytes:m.mem.all Zcr=true
 dev:Z9d m.dev
theorem Zv6 {m:Zh}:Z0e m=true↔Ze3 m:=by
 simp only[Z0e,ZZg,ZZl,Yjm];constructor
 .intro h;exact⟨h.1,h.2.1,h.2.2⟩
 .intro h;exact⟨h.len,h.bytes,h.dev⟩
theorem Ze3.sm {m:Zh} (h:Ze3 m):m.sm:=⟨by have:=h.len;omega,h.dev.sm⟩
theorem Z8i (m:Zh) (hs:m.sm):Zgy m=some (Z0e m):=by
 unfold Zgy Z0e;rw[Z8s m.mem 0 0 hs.1,ZZa,Ygx m.dev hs.2,ZZa];by_cases h1:m.mem.length=192
 .have h2:(m.mem.length:Int)=192:=by omega
  have h3:Zkp m.mem 0 0=m.mem.all Zcr:=by
   simp[Zkp,Z27,h1,Wc,Yy]
  rw[h3];cases h4:m.mem.all Zcr<;>simp[h1,h2]
 .have h2:¬(m.mem.length:Int)=192:=by omega
  simp[h1,h2]
theorem Z7m (m:Zh) (hs:m.sm):Zo9 m=some (Z0e m):=by
 unfold Zo9 Z0e;rw[Z9o m.mem hs.1,ZZa,Yg5 m.dev hs.2,ZZa];by_cases h1:m.mem.length=192
 .have h2:(m.mem.length:Int)=192:=by omega
  have h3:Z27 m.mem=m.mem.all Zcr:=by
   simp[Z27,h1]
  rw[h3];cases h4:m.mem.all Zcr<;>simp[h1,h2]
 .have h2:¬(m.mem.length:Int)=192:=by omega
  simp[h1,h2]
theorem Zw5 (m:Zh) (hs:m.sm):Zh0 m=some m:=by
 unfold Zh0;rw[Zt5 _ hs.1,ZZa,Ybr _ hs.2];rfl
theorem Ya3 (m:Zh) (hs:m.sm):Zs0 m=some m:=by
 unfold Zs0;rw[Z3u _ hs.1,ZZa,Yb1 _ hs.2];rfl
def Ze6 (m:Zh) (w:Bool) (a s v:Int):Zh×Int×Int:=
 if (Wc a s&&!(w&&!Xz v s))=true then
  (if Yx a=1\/Yx a=2 then (if w then ({m with mem:=Z8w m.mem a s v},v,0) else (m,Z9h m.mem a s,0))
  else if Yx a=3/\s=2 then (if (Zbm m.dev w (a - 192) v).2.2=true then ({m with dev:=(Zbm m.dev w (a - 192) v).1},(Zbm m.dev w (a - 192) v).2.1,0) else (m,0,1))
  else (m,0,1))
 else (m,0,1)
theorem Yzn {a:Int} (h:Yx a=1\/Yx a=2):0<=a/\a < 192:=by
 unfold Yx at h
 repeat' split at h
 all_goals omega
theorem Yk2 {a:Int} (h:Yx a=3):192<=a/\a < 224:=by
 unfold Yx at h
 repeat' split at h
 all_goals omega
theorem Ydj {m:Zh} {a s:Int} (h:Ze3 m) (ha:Wc a s=true) (hs:Yx a=1\/Yx a=2):Zkp m.mem a s=true:=by
 have h1:=Yzn hs;have h2:=h.len;have h3:=Zbw ha;have h4:a+Yy s<=192:=by
  have h5:=(Zq6 s).1 h3.1;have h6:s=0\/s=1\/s=2:=by omega
  have h7:=h3.2.2;rcases h6 with rfl|rfl|rfl<;>simp[Yy] at h7 ⊢<;>omega
 simp only[Zkp,Z27,ZZg,ZZl];exact⟨⟨by omega,h.bytes⟩,ha,by omega⟩
theorem Yp3 {m:Zh} (w:Bool) (a s v:Int) (h:Ze3 m):Zvf m w a s v=some (Ze6 m w a s v):=by
 unfold Zvf Ze6;rw[Zw5 m h.sm,ZZa,Z8i m h.sm,ZZa,Zv6.2 h,Zsw,ZZa,Zjm,ZZa,ZZi (by simp)];by_cases ha:Wc a s=true
 .rw[ha,ZZi (by simp)]
  have hJ:(w=true->Xz v s=true)->K0 m w a s v m false=some (if Yx a=1\/Yx a=2 then (if w then ({m with mem:=Z8w m.mem a s v},v,0) else (m,Z9h m.mem a s,0))
  else if Yx a=3/\s=2 then (if (Zbm m.dev w (a - 192) v).2.2=true then ({m with dev:=(Zbm m.dev w (a - 192) v).1},(Zbm m.dev w (a - 192) v).2.1,0) else (m,0,1))
  else (m,0,1)):=by
   intro hw;unfold K0;rw[ZZi (by simp),Zz6,ZZa];unfold Zks Zk8 Zdf;rw[Zw5 m h.sm,ZZa];by_cases h1:Yx a=1\/Yx a=2
   .have h3:¬Yx a=3:=by omega
    have hf:=Ydj h ha h1;cases w with
    | true=>
     rw[Ysx hf (hw rfl),ZZa];rcases h1 with h1|h1<;>simp[h1,h3]
    | false=>
     rw[Yrf hf,ZZa];rcases h1 with h1|h1<;>simp[h1,h3]
   .have h2:¬Yx a=1:=λh=>h1 (.inl h)
    have h4:¬Yx a=2:=λh=>h1 (.inr h);by_cases h3:Yx a=3
    .have h5:=Yk2 h3
     rw[Xh (by omega) (by omega),Yxo w _ v h.dev,ZZa];by_cases h6:s=2
     .by_cases h7:(Zbm m.dev w (a - 192) v).2.2=true<;>simp[h3,h6,h7]
     .simp[h3,h6]
    .simp[h2,h3,h4]
  cases w with
  | false=>
   simp only[ZZf,if_false,Vbq,Vbi,Vci,if_true];exact hJ (by simp)
  | true=>
   by_cases hv:Xz v s=true
   .simp only[hv,Va5,if_true,Vc5,Vbi,Vci]
    exact hJ (λ_=>hv)
   .simp[hv,K0]
 .simp[ha,K0]
theorem Z8p {m:Zh} (w:Bool) (a s v:Int) (h:Ze3 m):Zo3 m w a s v=some (Ze6 m w a s v):=by
 unfold Zo3 Ze6;rw[Ya3 m h.sm,ZZa,Z7m m h.sm,ZZa,Zv6.2 h,Zry,ZZa,Zbg,ZZa,Zqp,ZZa,ZZi (by simp)];by_cases ha:Wc a s=true
 .rw[ha,ZZi (by simp)]
  have hJ:(w=true->Xz v s=true)->Kx m w a s v m false=some (if Yx a=1\/Yx a=2 then (if w then ({m with mem:=Z8w m.mem a s v},v,0) else (m,Z9h m.mem a s,0))
  else if Yx a=3/\s=2 then (if (Zbm m.dev w (a - 192) v).2.2=true then ({m with dev:=(Zbm m.dev w (a - 192) v).1},(Zbm m.dev w (a - 192) v).2.1,0) else (m,0,1))
  else (m,0,1)):=by
   intro hw;unfold Kx;rw[ZZi (by simp),Z86,ZZa];unfold Zla Zlt;by_cases h1:Yx a=1\/Yx a=2
   .have h3:¬Yx a=3:=by omega
    have hf:=Ydj h ha h1;cases w with
    | true=>
     rw[Yrm hf (hw rfl),ZZa];rcases h1 with h1|h1<;>simp[h1,h3]
    | false=>
     rw[Ytj hf,ZZa];rcases h1 with h1|h1<;>simp[h1,h3]
   .have h2:¬Yx a=1:=λh=>h1 (.inl h)
    have h4:¬Yx a=2:=λh=>h1 (.inr h);by_cases h3:Yx a=3
    .have h5:=Yk2 h3
     rw[Xh (by omega) (by omega),Yw5 w _ v h.dev,ZZa];by_cases h6:s=2
     .by_cases h7:(Zbm m.dev w (a - 192) v).2.2=true<;>simp[h3,h6,h7]
     .simp[h3,h6]
    .simp[h2,h3,h4]
  cases w with
  | false=>
   simp only[ZZf,if_false,Vbq,Vbi,Vci,if_true];exact hJ (by simp)
  | true=>
   by_cases hv:Xz v s=true
   .simp only[hv,Va5,if_true,Vc5,Vbi,Vci]
    exact hJ (λ_=>hv)
   .simp[hv,Kx]
 .simp[ha,Kx]
theorem Y1f (s:Int) (h:0 < Yy s):(256:Int)^(Yy s).toNat=Zfx s:=by
 have h1:=(Zq6 s).1 h;have:s=0\/s=1\/s=2:=by omega
 rcases this with rfl|rfl|rfl<;>decide
theorem Yhe {m:Zh} {w:Bool} {a s v:Int} (h:Ze3 m) (hs:Wc a s=true):Ze3 (Ze6 m w a s v).1/\Xz (Ze6 m w a s v).2.1 s=true/\((Ze6 m w a s v).2.2=0\/(Ze6 m w a s v).2.2=1):=by
 have hp:=Zbw hs;have hz:Xz 0 s=true:=by
  have h1:=(Zq6 s).1 hp.1;have:s=0\/s=1\/s=2:=by omega
  rcases this with rfl|rfl|rfl<;>decide
 unfold Ze6;split
 .rename_i h1
  split
  .rename_i h2
   have hf:=Ydj h hs h2;split
   .rename_i hw
    have hv:Xz v s=true:=by
     rw[hw] at h1;simpa [hs] using h1
    exact⟨⟨by simp only[Z8w,Y2k,h.len],Yw8 _ _ _ _ h.bytes,h.dev⟩,hv,.inl rfl⟩
   .obtain⟨h3,h4,h5,h6,h7⟩:=Zso hf
    have h8:=Yvc h4 (Yy s).toNat a h6 (by omega);rw[Y1f s h5] at h8;exact⟨h,by simp only[Xz,Z9h];exact decide_eq_true h8,.inl rfl⟩
  .split
   .rename_i h3
    split
    .rename_i h4
     have h5:=Y2d (w:=w) (a:=a - 192) (v:=v) h.dev;have h6:=h5.2 h4;rw[h3.2];exact⟨⟨h.len,h.bytes,h5.1⟩,h6,.inl rfl⟩
    .exact⟨h,hz,.inr rfl⟩
   .exact⟨h,hz,.inr rfl⟩
 .exact⟨h,hz,.inr rfl⟩
def Y2 (p:Option Bool) (P:Prop):Prop:=∃r,p=some r/\(r=true↔P)
theorem Y2.of {b:Bool} {P:Prop} (h:b=true↔P):Y2 (some b) P:=⟨b,rfl,h⟩
theorem Y2.iff {p:Option Bool} {P Q:Prop} (h:Y2 p P) (e:P↔Q):Y2 p Q:=by
 obtain⟨r,h1,h2⟩:=h;exact⟨r,h1,h2.trans e⟩
theorem Y2.yes {P:Prop} (h:P):Y2 (some true) P:=⟨true,rfl,by simp[h]⟩
theorem Y2.no {P:Prop} (h:¬P):Y2 (some false) P:=⟨false,rfl,by simp[h]⟩
theorem Y2.eq {p q:Option Bool} {P:Prop} (h:Y2 p P) (h':Y2 q P):∃r,p=some r/\q=some r/\(r=true↔P):=by
 obtain⟨r,h1,h2⟩:=h;obtain⟨r',h3,h4⟩:=h';have:r=r':=by
  cases r<;>cases r'<;>simp_all
 subst this;exact⟨r,h1,h3,h2⟩
theorem Y2.bnd {x:Option Bool} {P Q:Prop} {f:Bool->Option Bool} (h:Y2 x P) (h1:P->Y2 (f true) Q) (h2:¬P->Y2 (f false) Q):Y2 (x.bind f) Q:=by
 obtain⟨r,rfl,hr⟩:=h;rw[ZZa];cases r with
 | true=>exact h1 (hr.1 rfl)
 | false=>exact h2 (λhp=>by simpa using hr.2 hp)
theorem Y2.and {x y:Option Bool} {P Q:Prop} (h:Y2 x P) (h1:P->Y2 y Q):Y2 (x.bind λr=>if r=true then y else some false) (P/\Q):=by
 refine h.bnd (λhp=>?_) (λhp=>?_)
 .rw[ZZj rfl];exact (h1 hp).iff ⟨λq=>⟨hp,q⟩,λq=>q.2⟩
 .rw[ZZi (by simp)];exact .no λq=>hp q.1
section
variable {σ:Type}
theorem Zx1 {n:Nat} (hn:n < 4611686018427387904) {P:Nat->Prop} {Q:Prop} (st:Nat->σ) {B:(σ->Int->Option Bool)->σ->Int->Option Bool} {L:Nat->σ->Int->Option Bool} (hL:∀m s i,L (m+1) s i=B (L m) s i)
  (hs:∀k,k < n->(P k/\∀κ,B κ (st k) (k:Int)=κ (st (k+1)) (Zt (k:Int) 1))\/(¬P k/\∀κ,B κ (st k) (k:Int)=some false))
  (hf:(∀k,k < n->P k)->∃r,(∀κ,B κ (st n) (n:Int)=some r)/\(r=true↔Q)):Y2 (L FU (st 0) 0) ((∀k,k < n->P k)/\Q):=by
 have key:∀(m k:Nat),k<=n->n - k < m->(∀j,j < k->P j)->Y2 (L m (st k) (k:Int)) ((∀j,j < n->P j)/\Q):=by
  intro m
  induction m with
  | zero=>intro k _ h;omega
  | succ m ih=>
   intro k hk hm hp;rw[hL];by_cases hc:k < n
   .rcases hs k hc with⟨h1,h2⟩|⟨h1,h2⟩
    .rw[h2,Wp (by omega)]
     refine ih (k+1) (by omega) (by omega) λj hj=>?_;by_cases hjk:j=k
     .subst hjk;exact h1
     .exact hp j (by omega)
    .rw[h2];exact .no λq=>h1 (q.1 k hc)
   .have:k=n:=by omega
    subst this;obtain⟨r,hr,hq⟩:=hf hp;rw[hr];exact .of ⟨λh=>⟨hp,hq.1 h⟩,λh=>hq.2 h.2⟩
 have:=key FU 0 (Vbl _) (by have:=Kq;omega) (λj hj=>by omega);simpa using this
theorem Zpg {n:Nat} (hn:n < 4611686018427387904) {P:Nat->Prop} {Q:Prop} {B:(Int->Option Bool)->Int->Option Bool} {L:Nat->Int->Option Bool} (hL:∀m i,L (m+1) i=B (L m) i)
  (hs:∀k,k < n->(P k/\∀κ,B κ (k:Int)=κ (Zt (k:Int) 1))\/(¬P k/\∀κ,B κ (k:Int)=some false))
  (hf:(∀k,k < n->P k)->∃r,(∀κ,B κ (n:Int)=some r)/\(r=true↔Q)):Y2 (L FU 0) ((∀k,k < n->P k)/\Q):=
 Zx1 (σ:=Unit) hn (λ_=>()) (B:=λκ _ i=>B (κ ()) i) (L:=λm _ i=>L m i) (λm _ i=>hL m i) (λk hk=>(hs k hk).imp (λh=>⟨h.1,λκ=>h.2 _⟩) λh=>⟨h.1,λκ=>h.2 _⟩)
  (λh=>by obtain⟨r,h1,h2⟩:=hf h;exact⟨r,λκ=>h1 _,h2⟩)
end
instance:Inhabited Zm:=⟨Zm.z0⟩
instance:Inhabited Zg:=⟨Zg.z0⟩
def Yl (m:Zb):Bool:=decide (m.queue≠[])&&((atI m.queue 0).lock&&!m.broken)
def K5 (b:Za) (i:Int):Int:=(if b.addr.live=true/\b.addr.who=i then 1 else 0)+(if b.data_.live=true/\b.data_.who=i then 1 else 0)
structure Zw4 (c:Zk) (b:Za) (i:Int):Prop where
 right:Yt (atI b.m i)
 tries:(atI b.m i).tries<=c.maxRetry
 bucket:Y4 (atI b.buckets i) (atI c.masters i)=true
 split:0<=atI b.splits i/\atI b.splits i<=c.maxSplit
def Zaf (b:Za) (x:Zg):Prop:=Zv b.conf x.who=true/\(1<=x.by_/\x.by_<=3)/\atI b.splits x.who=0
def K1 (b:Za):Prop:=if b.addr.live=true then b.addr.beat=(atI b.m b.addr.who).beat - 1/\b.addr.left=0/\b.addr.resp=0/\b.addr.second=false else b.addr=Zg.z0
def Km (b:Za):Prop:=if b.data_.live=true then
  (b.data_.beat=(atI b.m b.data_.who).done/\(0<=b.data_.left/\b.data_.left<=b.conf.maxWait+2)/\(0<=b.data_.resp/\b.data_.resp<=3))/\
  (b.data_.resp=2->(atI b.m b.data_.who).tries < b.conf.maxRetry)/\(b.data_.resp=3->(atI b.m b.data_.who).parted=false/\b.data_.who≠b.holder)/\
  (b.data_.second=true->b.data_.left=0/\b.data_.resp≠0/\b.addr.live=false)
 else b.data_=Zg.z0
def Zi8 (b:Za):Prop:=(∀i,Zv b.conf i=true->(atI b.m i).beat > 0->Yl (atI b.m i)=true->b.holder=i)/\
 (if b.holder=-1 then b.held=0 else Zv b.conf b.holder=true/\Yl (atI b.m b.holder)=true/\atI b.splits b.holder=0/\(0<=b.held/\b.held<=b.conf.lockMost))
def Z50 (c:Zk) (now:Int) (d:Zm):Prop:=(0<=d.cycle/\d.cycle < now)/\Zv c d.who=true/\Wc d.addr d.size=true/\d.addr < 512/\Xz d.value d.size=true/\(d.resp=0\/d.resp=1)
def Z5k (b:Za):Prop:=(∀d∈b.log,Z50 b.conf b.now d)/\b.log.Pairwise λx y=>x.cycle < y.cycle
structure Zqm (b:Za):Prop where
 conf:X8 b.conf=true
 now:0<=b.now/\b.now<=4000
 ml:b.m.length=b.conf.masters.length
 bl:b.buckets.length=b.conf.masters.length
 sl:b.splits.length=b.conf.masters.length
 mst:∀i,Zv b.conf i=true->Zw4 b.conf b i
 arb:Za0 b.arb b.conf=true
 last:b.last=-1\/Zv b.conf b.last=true
 model:Ze3 b.model
 picks:0<=b.picks/\b.picks<=b.now
 alive:b.addr.live=true->Zaf b b.addr
 dlive:b.data_.live=true->Zaf b b.data_
 fly:∀i,Zv b.conf i=true->(atI b.m i).beat - (atI b.m i).done=K5 b i
 addr:K1 b
 data:Km b
 held:Zi8 b
 log:Z5k b
structure Za.sm (b:Za):Prop where
 conf:b.conf.masters.length < 1048577
 ml:b.m.length < 1048577
 mst:∀x∈b.m,x.sm
 bl:b.buckets.length < 1048577
 sl:b.splits.length < 1048577
 model:b.model.sm
 log:b.log.length < 1048577
theorem mas {c:Zk} {k:Nat} (h:k < c.masters.length):Zv c (k:Int)=true:=by simp[Zv,h]
theorem Yuo {c:Zk} {i:Int} (h:Zv c i=true):∃k:Nat,i=(k:Int)/\k < c.masters.length:=by
 simp only[Zv,ZZl] at h;exact⟨i.toNat,by omega,by omega⟩
theorem Zyf {c:Zk} {P:Int->Prop}:(∀i,Zv c i=true->P i)↔∀k:Nat,k < c.masters.length->P (k:Int):=by
 constructor
 .intro h k hk;exact h _ (mas hk)
 .intro h i hi
  obtain⟨k,rfl,hk⟩:=Yuo hi;exact h k hk
theorem We {b:Za} (hl:b.m.length=b.conf.masters.length) {i:Int} (h:Zv b.conf i=true):idx b.m i=some (atI b.m i):=by
 simp only[Zv,ZZl] at h;exact Xp h.1 (by omega)
theorem Yak {b:Za} (hl:b.buckets.length=b.conf.masters.length) {i:Int} (h:Zv b.conf i=true):idx b.buckets i=some (atI b.buckets i):=by
 simp only[Zv,ZZl] at h;exact Xp h.1 (by omega)
theorem Zp2 {b:Za} (hl:b.splits.length=b.conf.masters.length) {i:Int} (h:Zv b.conf i=true):idx b.splits i=some (atI b.splits i):=by
 simp only[Zv,ZZl] at h;exact Xp h.1 (by omega)
theorem Z02 {c:Zk} {i:Int} (h:Zv c i=true):idx c.masters i=some (atI c.masters i):=by
 simp only[Zv,ZZl] at h;exact Xp h.1 h.2
theorem mem_m {b:Za} (hl:b.m.length=b.conf.masters.length) {i:Int} (h:Zv b.conf i=true):atI b.m i∈b.m:=by
 simp only[Zv,ZZl] at h;exact Zj3 h.1 (by omega)
theorem Yhj (x:Zg):((x.live == false)&&(decide (x.who=0)&&(decide (x.beat=0)&&((x.first == false)&&(decide (x.by_=0)&&(decide (x.left=0)&&(decide (x.resp=0)&&((x.second == false)&&true))))))))=true↔x=Zg.z0:=by
 obtain⟨a1,a2,a3,a4,a5,a6,a7,a8⟩:=x;simp only[ZZg,beq_iff_eq,ZZl,Zg.mk.injEq,and_true]
theorem Z5y (m:Zb):Zqx m=some (Yl m):=by
 unfold Zqx Yl;by_cases h:m.queue=[]
 .simp[h]
 .have h1:0 < m.queue.length:=Vao.2 h
  rw[Xp (by omega) (by omega),ZZa,ZZj (by simp;omega)];cases h2:(atI m.queue 0).lock<;>simp[h]
theorem Zwg (b:Za) (hs:b.sm) (hc:X8 b.conf=true):Y2 (Zge b) (b.m.length=b.conf.masters.length/\b.buckets.length=b.conf.masters.length/\b.splits.length=b.conf.masters.length/\∀i,Zv b.conf i=true->Zw4 b.conf b i):=by
 unfold Zge;by_cases h1:b.m.length=b.conf.masters.length
 .rw[ZZi (by simp;omega)]
  by_cases h2:b.buckets.length=b.conf.masters.length
  .rw[ZZi (by simp;omega)]
   unfold Qr;by_cases h3:b.splits.length=b.conf.masters.length
   .rw[ZZi (by simp;omega)]
    have:=Zam hc;refine (Zpg (n:=b.m.length) (P:=λk=>Zw4 b.conf b (k:Int)) (Q:=True) (by omega) (B:=Zb1 b) (λm i=>rfl) (λk hk=>?_) λ_=>⟨true,λκ=>?_,by simp⟩).iff ?_
    .have hm:=mas (c:=b.conf) (k:=k) (by omega)
     have hms:=hs.mst _ (mem_m h1 hm);unfold Zb1;simp only[ZZj (show decide ((k:Int) < (b.m.length:Int))=true by simpa using hk),We h1 hm,Yak h2 hm,Zp2 h3 hm,Z02 hm,ZZa,Zbu _ hms,Z6o,X6];by_cases e1:Zwn (atI b.m (k:Int))=true
     .by_cases e2:(atI b.m (k:Int)).tries<=b.conf.maxRetry
      .by_cases e3:Y4 (atI b.buckets (k:Int)) (atI b.conf.masters (k:Int))=true
       .by_cases e4:0<=atI b.splits (k:Int)/\atI b.splits (k:Int)<=b.conf.maxSplit
        .refine .inl ⟨⟨Jg.1 e1,e2,e3,e4⟩,λκ=>?_⟩
         have e5:¬(atI b.m (k:Int)).tries > b.conf.maxRetry:=by omega
         simp[e1,e3,e4,e5]
        .refine .inr ⟨λh=>e4 h.split,λκ=>?_⟩
         simp[e1,e3,e4]
       .refine .inr ⟨λh=>e3 h.bucket,λκ=>?_⟩
        simp[e1,e3]
      .refine .inr ⟨λh=>e2 h.tries,λκ=>?_⟩
       have e5:(atI b.m (k:Int)).tries > b.conf.maxRetry:=by omega
       simp[e1,e5]
     .refine .inr ⟨λh=>e1 (Jg.2 h.right),λκ=>?_⟩
      simp[e1]
    .unfold Zb1
     rw[ZZi (by simp)]
    .rw[and_true,h1,<-Zyf]
     exact⟨λh=>⟨rfl,h2,h3,h⟩,λh=>h.2.2.2⟩
   .rw[ZZj (by simp;omega)]
    exact .no λh=>h3 h.2.2.1
  .rw[ZZj (by simp;omega)]
   unfold Qr;rw[ZZj rfl];exact .no λh=>h2 h.2.1
 .rw[ZZj (by simp;omega)]
  unfold Qr;rw[ZZj rfl];exact .no λh=>h1 h.1
theorem Y0n (b:Za):Zrz b=some ([b.addr,b.data_].filter (·.live)):=by
 unfold Zrz;have:Wi [b.addr,b.data_]=some ([b.addr,b.data_].filter (·.live)):=by
  unfold Wi Qw;exact Ytf [b.addr,b.data_] Zg.z0 (by simp) Znj (·.live) (λa _=>rfl) _ (λm i=>rfl) _ (λm v i j=>rfl)
 rw[this];rfl
def Zfm:List Zg->List Int->List Int
 | [],l=>l
 | x::xs,l=>Zfm xs (l.set x.who.toNat (atI l x.who+1))
theorem Y0z:∀(xs:List Zg) (x:Zg) (l:List Int),Zfm (xs++[x]) l=(Zfm xs l).set x.who.toNat (atI (Zfm xs l) x.who+1):=by
 intro xs
 induction xs with
 | nil=>intro x l;rfl
 | cons y xs ih=>intro x l;exact ih x _
theorem Ynp:∀(xs:List Zg) (l:List Int),(Zfm xs l).length=l.length:=by
 intro xs
 induction xs with
 | nil=>intro l;rfl
 | cons y xs ih=>intro l;rw[Zfm,ih,Vbf]
theorem Y44:∀(xs:List Zg) (l:List Int) (i:Int),0<=i->i < (l.length:Int)->(∀x∈xs,0<=x.who/\x.who < (l.length:Int))->atI (Zfm xs l) i=atI l i+(xs.countP λx=>decide (x.who=i):Nat):=by
 intro xs
 induction xs with
 | nil=>intro l i _ _ _;simp[Zfm]
 | cons y xs ih=>
  intro l i h0 h1 hx;have hy:=hx y (Vaa ..);rw[Zfm,ih _ i h0 (by simpa using h1) (λx hxm=>by simpa using hx x (Vac _ hxm)),List.countP_cons];by_cases h:y.who=i
  .subst h
   rw[Zpa _ hy.1 hy.2];simp;omega
  .rw[Yk1 _ hy.1 h0 h]
   simp[h]
theorem Yy6 (b:Za) (i:Int):(([b.addr,b.data_].filter (·.live)).countP λx=>decide (x.who=i):Nat)=K5 b i:=by
 unfold K5;by_cases h1:b.addr.live=true<;>by_cases h2:b.data_.live=true<;>by_cases h3:b.addr.who=i<;>by_cases h4:b.data_.who=i<;>simp[h1,h2,h3,h4]
theorem Y3r {b:Za} {P:Zg->Prop}:(∀k (h:k < ([b.addr,b.data_].filter (·.live)).length),P (([b.addr,b.data_].filter (·.live))[k]))↔(b.addr.live=true->P b.addr)/\(b.data_.live=true->P b.data_):=by
 have:(∀k (h:k < ([b.addr,b.data_].filter (·.live)).length),P (([b.addr,b.data_].filter (·.live))[k]))↔∀x∈[b.addr,b.data_].filter (·.live),P x:=by
  constructor
  .intro h x hx
   obtain⟨k,hk,rfl⟩:=Vbr hx;exact h k hk
  .intro h k hk;exact h _ (Vas hk)
 rw[this];constructor
 .intro h;exact⟨λh1=>h _ (by simp[h1]),λh1=>h _ (by simp[h1])⟩
 .intro h x hx
  simp only[Vb4,Vau,List.not_mem_nil,or_false] at hx;rcases hx with⟨rfl|rfl,hx⟩
  .exact h.1 hx
  .exact h.2 hx
theorem Yew (b:Za):Y2 (Qg b false) (b.data_.second=true->b.data_.left=0/\b.data_.resp≠0/\b.addr.live=false):=by
 unfold Qg;rw[ZZi (by simp)];by_cases h1:b.data_.second=true
 .rw[ZZi (by simp[h1])]
  by_cases h2:b.data_.left=0
  .rw[ZZj (by simpa using h2)]
   by_cases h3:b.data_.resp=0
   .rw[ZZi (by simpa using h3)];exact .no λh=>(h h1).2.1 h3
   .rw[ZZj (by simpa using h3)]
    exact .of (by simp[h1,h2,h3])
  .rw[ZZi (by simpa using h2)];exact .no λh=>h2 (h h1).1
 .rw[ZZj (by simpa using h1)];exact .yes λh=>absurd h h1
theorem Qk {c:Zk} (hc:X8 c=true):(0<=c.maxRetry/\c.maxRetry<=3)/\(0<=c.maxWait/\c.maxWait<=3)/\(1<=c.lockMost/\c.lockMost<=40)/\(1<=c.maxSplit/\c.maxSplit<=12):=by
 simp only[X8,ZZg,ZZl] at hc;have h3:=hc.1.2;have h4:Zjr c≠0:=λh=>h3 (by unfold Zag;rw[ZZj h]);have h5:1<=c.lockMost/\c.lockMost<=40:=by
  unfold Zag at h3;rw[ZZi h4] at h3;by_cases h6:1<=c.lockMost/\c.lockMost<=40
  .exact h6
  .rw[ZZi h6] at h3;exact absurd rfl h3
 have h6:(0<=c.maxRetry/\c.maxRetry<=3)/\(0<=c.maxWait/\c.maxWait<=3):=by
  unfold Zjr at h4;by_cases h7:(0<=c.maxRetry/\c.maxRetry<=3)/\(0<=c.maxWait/\c.maxWait<=3)
  .exact h7
  .rw[ZZi h7] at h4;exact absurd rfl h4
 exact⟨h6.1,h6.2,h5,hc.1.1.2⟩
theorem Ywb (b:Za) (hc:X8 b.conf=true) (h1:b.m.length=b.conf.masters.length) (hl:b.data_.live=true->Zaf b b.data_):Y2 (Xe b false) (Km b):=by
 have hw:=(Qk hc).2.1;unfold Xe Km;rw[ZZi (by simp)];by_cases hd:b.data_.live=true
 .obtain⟨hm,hby,hsp⟩:=hl hd
  rw[ZZi (by simp[hd]),We h1 hm,ZZa,ZZj hd,X6,ZZa,X6,ZZa,Yr (by omega) (by omega)];have hJ6:∀v,Y2 (Zbc b (atI b.m b.data_.who) v) (v=false/\(b.data_.resp=3->(atI b.m b.data_.who).parted=false/\b.data_.who≠b.holder)/\(b.data_.second=true->b.data_.left=0/\b.data_.resp≠0/\b.addr.live=false)):=by
   intro v;unfold Zbc;cases v with
   | true=>rw[ZZj rfl];exact .no λh=>by simp at h
   | false=>
    rw[ZZi (by simp)];by_cases h3:b.data_.resp=3
    .rw[ZZj (by simpa using h3)]
     by_cases h4:(atI b.m b.data_.who).parted=true
     .rw[ZZj h4]
      unfold Qg;rw[ZZj rfl];exact .no λh=>by have:=(h.2.1 h3).1;rw[h4] at this;cases this
     .rw[ZZi h4]
      by_cases h5:b.data_.who=b.holder
      .rw[decide_eq_true h5]
       unfold Qg;rw[ZZj rfl];exact .no λh=>(h.2.1 h3).2 h5
      .rw[decide_eq_false h5]
       exact (Yew b).iff ⟨λh=>⟨rfl,λ_=>⟨by simpa using h4,h5⟩,h⟩,λh=>h.2.2⟩
    .rw[ZZi (by simpa using h3)]
     exact (Yew b).iff ⟨λh=>⟨rfl,λh6=>absurd h6 h3,h⟩,λh=>h.2.2⟩
  have hJ5:∀v,Y2 (Jv b (atI b.m b.data_.who) v) (v=false/\(b.data_.resp=2->(atI b.m b.data_.who).tries < b.conf.maxRetry)/\(b.data_.resp=3->(atI b.m b.data_.who).parted=false/\b.data_.who≠b.holder)/\(b.data_.second=true->b.data_.left=0/\b.data_.resp≠0/\b.addr.live=false)):=by
   intro v;unfold Jv;cases v with
   | true=>rw[ZZj rfl];exact .no λh=>by simp at h
   | false=>
    rw[ZZi (by simp)];by_cases h3:b.data_.resp=2
    .rw[ZZj (by simpa using h3)]
     refine (hJ6 _).iff ?_;simp[h3]
    .rw[ZZi (by simpa using h3)]
     refine (hJ6 _).iff ?_;simp[h3]
  by_cases h3:b.data_.beat=(atI b.m b.data_.who).done
  .rw[ZZi (by simpa using h3)]
   by_cases h4:0<=b.data_.left/\b.data_.left<=b.conf.maxWait+2
   .rw[ZZi (by simpa using h4)]
    refine (hJ5 _).iff ?_;simp[h3,h4]
   .rw[ZZj (by rw[decide_eq_false h4];rfl)]
    exact (hJ5 _).iff ⟨λh=>by simp at h,λh=>absurd h.1.2.1 h4⟩
  .rw[ZZj (by simpa using h3)]
   exact (hJ5 _).iff ⟨λh=>by simp at h,λh=>absurd h.1.1 h3⟩
 .rw[ZZj (by simpa using hd),ZZi hd]
  exact .of (Yhj _)
theorem Yzh {l:List Int} {N:Int} (hN:0<=N) (h:∀v∈l,0<=v/\v<=N) (i:Int):0<=atI l i/\atI l i<=N:=by
 unfold atI;rw[Vaw];cases hg:l[i.toNat]? with
 | none=>exact⟨Vd8 _,hN⟩
 | some v=>exact h v (Vaf hg)
theorem Y2c:∀(xs:List Zg) (l:List Int) (N:Int),0<=N->(∀v∈l,0<=v/\v<=N)->∀v∈Zfm xs l,0<=v/\v<=N+xs.length:=by
 intro xs
 induction xs with
 | nil=>intro l N _ h v hv;have:=h v hv;simpa using this
 | cons x xs ih=>
  intro l N hN h v hv;have h2:=Yzh hN h x.who;have:=ih (l.set x.who.toNat (atI l x.who+1)) (N+1) (by omega) (λy hy=>by
   rcases Vca hy with hy|rfl
   .have:=h y hy;omega
   .omega) v hv
  simp only[Vag];omega
theorem Ydy (b:Za) (hc:X8 b.conf=true) (h1:b.m.length=b.conf.masters.length) (h3:b.splits.length=b.conf.masters.length) (hr:∀i,Zv b.conf i=true->Yt (atI b.m i)):
  Y2 (Zch b) (((b.addr.live=true->Zaf b b.addr)/\(b.data_.live=true->Zaf b b.data_))/\(∀i,Zv b.conf i=true->(atI b.m i).beat - (atI b.m i).done=K5 b i)/\K1 b/\Km b):=by
 have Yo:=Zam hc;have Ya:=Zcd hc;unfold Zch;rw[Zvz (by omega) (by omega),ZZa,Y0n,ZZa];generalize hLs:[b.addr,b.data_].filter (·.live)=ls;have hls:ls.length<=2:=by
  rw[<-hLs];exact Vb5 (Vbs ..) (by simp)
 have Y4b:∀x:Zg,Zv b.conf x.who=true->0<=x.who/\x.who < (b.m.length:Int):=λx h=>by
  simp only[Zv,ZZl] at h;omega
 have hL2:(∀x∈ls,Zv b.conf x.who=true)->((b.addr.live=true->Zaf b b.addr)/\(b.data_.live=true->Zaf b b.data_))->Y2 (Zbf b FU (Zfm ls (List.replicate b.m.length 0)) 0) ((∀i,Zv b.conf i=true->(atI b.m i).beat - (atI b.m i).done=K5 b i)/\K1 b/\Km b):=by
  intro hml Y4c;have hfa:∀i,Zv b.conf i=true->atI (Zfm ls (List.replicate b.m.length 0)) i=K5 b i:=by
   intro i hi;simp only[Zv,ZZl] at hi;rw[Y44 _ _ i hi.1 (by simp;omega) (λx hx=>by have:=Y4b x (hml x hx);simpa using this),<-Yy6,hLs];have:atI (List.replicate b.m.length (0:Int)) i=0:=by
    unfold atI;rw[Vaw,Vd4];split<;>rfl
   rw[this];simp
  have hQ:∃r,(∀κ,Wn b κ (Zfm ls (List.replicate b.m.length 0)) (b.m.length:Int)=some r)/\(r=true↔K1 b/\Km b):=by
   obtain⟨r,h4,h5⟩:=Ywb b hc h1 Y4c.2;have Yqx:Xe b true=some false:=by unfold Xe;rw[ZZj rfl]
   by_cases ha:b.addr.live=true
   .obtain⟨hm,hby,hsp⟩:=Y4c.1 ha
    have hrb:=Je (hr _ hm);by_cases e1:b.addr.beat=(atI b.m b.addr.who).beat - 1/\b.addr.left=0/\b.addr.resp=0/\b.addr.second=false
    .refine⟨r,λκ=>?_,?_⟩
     .unfold Wn
      obtain⟨f1,f2,f3,f4⟩:=e1;rw[ZZi (by simp),ZZj ha,We h1 hm,ZZa,Xh (by omega) (by omega)];simp only[f1,f2,f3,f4,ha,ne_eq,not_true_eq_false,decide_false,ZZf,if_false,Va5,h4]
     .rw[h5];unfold K1;rw[ZZj ha];exact⟨λh=>⟨e1,h⟩,λh=>h.2⟩
    .refine⟨false,λκ=>?_,?_⟩
     .unfold Wn
      rw[ZZi (by simp),ZZj ha,We h1 hm,ZZa,Xh (by omega) (by omega)];by_cases f1:b.addr.beat=(atI b.m b.addr.who).beat - 1
      .by_cases f2:b.addr.left=0
       .by_cases f3:b.addr.resp=0
        .have f4:b.addr.second=true:=by
          cases hs:b.addr.second with
          | true=>rfl
          | false=>exact absurd ⟨f1,f2,f3,hs⟩ e1
         rw[ZZi (by simpa using f1),ZZi (by simpa using f2),ZZi (by simpa using f3),ZZj f4,Yqx]
        .rw[ZZi (by simpa using f1),ZZi (by simpa using f2),ZZj (by simpa using f3),Yqx]
       .rw[ZZi (by simpa using f1),ZZj (by simpa using f2),Yqx]
      .rw[ZZj (by simpa using f1),Yqx]
     .unfold K1;rw[ZZj ha];simp[e1]
   .by_cases e1:b.addr=Zg.z0
    .refine⟨r,λκ=>?_,?_⟩
     .unfold Wn
      rw[ZZi (by simp),ZZi ha,ZZj (by simpa using ha),(Yhj b.addr).2 e1];exact h4
     .rw[h5];unfold K1;rw[ZZi ha];exact⟨λh=>⟨e1,h⟩,λh=>h.2⟩
    .refine⟨false,λκ=>?_,?_⟩
     .unfold Wn
      rw[ZZi (by simp),ZZi ha,ZZj (by simpa using ha)];have:((b.addr.live == false)&&(decide (b.addr.who=0)&&(decide (b.addr.beat=0)&&((b.addr.first == false)&&(decide (b.addr.by_=0)&&(decide (b.addr.left=0)&&(decide (b.addr.resp=0)&&((b.addr.second == false)&&true))))))))=false:=by
       rw[<-Bool.not_eq_true,Yhj];exact e1
      rw[this,Vbi,Yqx]
     .unfold K1;rw[ZZi ha];simp[e1]
  obtain⟨r,Zw,Z6⟩:=hQ;refine (Zx1 (σ:=List Int) (n:=b.m.length) (by omega) (P:=λk=>(atI b.m (k:Int)).beat - (atI b.m (k:Int)).done=K5 b (k:Int)) (Q:=K1 b/\Km b) (λ_=>Zfm ls (List.replicate b.m.length 0)) (B:=Wn b) (L:=Zbf b) (λm s i=>rfl) (λk hk=>?_) λ_=>⟨r,Zw,Z6⟩).iff ?_
  .have hm:=mas (c:=b.conf) (k:=k) (by omega)
   have hrb:=Je (hr _ hm);have Kc:=Ynp ls (List.replicate b.m.length 0);rw[Vdg] at Kc;have hi:idx (Zfm ls (List.replicate b.m.length 0)) (k:Int)=some (K5 b (k:Int)):=by
    rw[Xp (by omega) (by omega),hfa _ hm]
   by_cases e1:(atI b.m (k:Int)).beat - (atI b.m (k:Int)).done=K5 b (k:Int)
   .refine .inl ⟨e1,λκ=>?_⟩
    unfold Wn;rw[ZZj (by simpa using hk),We h1 hm,ZZa,hi,ZZa,Xh (by omega) (by omega),ZZi (by simpa using e1)]
   .refine .inr ⟨e1,λκ=>?_⟩
    unfold Wn;rw[ZZj (by simpa using hk),We h1 hm,ZZa,hi,ZZa,Xh (by omega) (by omega),ZZj (by simpa using e1)]
  .rw[h1,<-Zyf (P:=λi=>(atI b.m i).beat - (atI b.m i).done=K5 b i)]
 have hlv:(∀k,k < ls.length->Zaf b (atI ls (k:Int)))↔((b.addr.live=true->Zaf b b.addr)/\(b.data_.live=true->Zaf b b.data_)):=by
  rw[<-Y3r (P:=Zaf b),hLs];constructor
  .intro h k hk;have:=h k hk;rwa [Ql hk] at this
  .intro h k hk;rw[Ql hk];exact h k hk
 have hstep:∀k,k < ls.length->(Zaf b (atI ls (k:Int))/\∀κ,Wm b κ (Zfm (ls.take k) (List.replicate b.m.length 0)) ls (ls.length:Int) (k:Int)=κ (Zfm (ls.take (k+1)) (List.replicate b.m.length 0)) ls (ls.length:Int) (Zt (k:Int) 1))\/(¬Zaf b (atI ls (k:Int))/\∀κ,Wm b κ (Zfm (ls.take k) (List.replicate b.m.length 0)) ls (ls.length:Int) (k:Int)=some false):=by
  intro k hk;have Kc:=Ynp (ls.take k) (List.replicate b.m.length 0);rw[Vdg] at Kc;have hJ3:∀κ x,Ki b κ x (Zfm (ls.take k) (List.replicate b.m.length 0)) ls (ls.length:Int) (k:Int) true=some false:=λκ x=>by unfold Ki;rw[ZZj rfl]
  by_cases e1:Zv b.conf (atI ls (k:Int)).who=true
  .by_cases e2:1<=(atI ls (k:Int)).by_/\(atI ls (k:Int)).by_<=3
   .by_cases e3:atI b.splits (atI ls (k:Int)).who=0
    .refine .inl ⟨⟨e1,e2,e3⟩,λκ=>?_⟩
     unfold Wm;have hw:=Y4b _ e1;rw[ZZj (by simpa using hk),Xp (by omega) (by omega),ZZa,Jl _ _ Ya,ZZa,e1,ZZi (by simp),X6,ZZa,ZZi (by simpa using e2),Zp2 h3 e1,ZZa,e3];unfold Ki;have hb:=Yzh (by omega) (Y2c (ls.take k) (List.replicate b.m.length 0) 0 (by omega) (λv hv=>by rw[List.eq_of_mem_replicate hv];omega)) (atI ls (k:Int)).who;have hk2:(ls.take k).length<=2:=by rw[Vbu];omega
     rw[ZZi (by simp),Xp hw.1 (by omega),ZZa,Yr (a:=atI (Zfm (ls.take k) (List.replicate b.m.length 0)) (atI ls (k:Int)).who) (by omega) (by omega),Wx,ZZa,List.take_succ_eq_append_getElem hk,Y0z,Ql hk]
    .refine .inr ⟨λh=>e3 h.2.2,λκ=>?_⟩
     unfold Wm;rw[ZZj (by simpa using hk),Xp (by omega) (by omega),ZZa,Jl _ _ Ya,ZZa,e1,ZZi (by simp),X6,ZZa,ZZi (by simpa using e2),Zp2 h3 e1,ZZa,decide_eq_true e3,hJ3]
   .refine .inr ⟨λh=>e2 h.2.1,λκ=>?_⟩
    unfold Wm;rw[ZZj (by simpa using hk),Xp (by omega) (by omega),ZZa,Jl _ _ Ya,ZZa,e1,ZZi (by simp),X6,ZZa,ZZj (by rw[decide_eq_false e2];rfl),hJ3]
  .refine .inr ⟨λh=>e1 h.1,λκ=>?_⟩
   unfold Wm;rw[ZZj (by simpa using hk),Xp (by omega) (by omega),ZZa,Jl _ _ Ya,ZZa,ZZj (by simpa using e1),hJ3]
 have hl1:=Zx1 (σ:=List Int×List Zg×Int) (n:=ls.length) (by omega) (P:=λk=>Zaf b (atI ls (k:Int)))
  (Q:=(∀i,Zv b.conf i=true->(atI b.m i).beat - (atI b.m i).done=K5 b i)/\K1 b/\Km b)
  (λk=>(Zfm (ls.take k) (List.replicate b.m.length 0),ls,(ls.length:Int))) (B:=λκ s i=>Wm b (λv l n i=>κ (v,l,n) i) s.1 s.2.1 s.2.2 i) (L:=λm s i=>Zdz b m s.1 s.2.1 s.2.2 i) (λm s i=>rfl)
  (λk hk=>(hstep k hk).imp (λh=>⟨h.1,λκ=>h.2 _⟩) λh=>⟨h.1,λκ=>h.2 _⟩)
 have hml:(∀k,k < ls.length->Zaf b (atI ls (k:Int)))->∀x∈ls,Zv b.conf x.who=true:=by
  intro h x hx;obtain⟨k,hk,rfl⟩:=Vbr hx;have:=(h k hk).1
  rwa [Ql hk] at this
 have hl2:=hl1 λQ1=>by
  obtain⟨r,Zw,Z6⟩:=hL2 (hml Q1) (hlv.1 Q1);refine⟨r,λκ=>?_,Z6⟩;unfold Wm;rw[ZZi (by simp),Vbx];exact Zw
 simp only[List.take_zero,Zfm] at hl2;exact hl2.iff (by rw[hlv])
theorem Yjt (b:Za) (hc:X8 b.conf=true) (h1:b.m.length=b.conf.masters.length) (h3:b.splits.length=b.conf.masters.length):Y2 (Zef b) (Zi8 b):=by
 have Yo:=Zam hc;have Ya:=Zcd hc;unfold Zef Zi8;refine (Zpg (n:=b.m.length) (by omega) (P:=λk=>(atI b.m (k:Int)).beat > 0->Yl (atI b.m (k:Int))=true->b.holder=(k:Int))
  (Q:=if b.holder=-1 then b.held=0 else Zv b.conf b.holder=true/\Yl (atI b.m b.holder)=true/\atI b.splits b.holder=0/\(0<=b.held/\b.held<=b.conf.lockMost))
  (B:=Zfb b) (λm i=>rfl) (λk hk=>?_) λ_=>?_).iff ?_
 .have hm:=mas (c:=b.conf) (k:=k) (by omega)
  unfold Zfb;simp only[ZZj (show decide ((k:Int) < (b.m.length:Int))=true by simpa using hk),We h1 hm,ZZa,Z5y];by_cases e1:(atI b.m (k:Int)).beat > 0
  .by_cases e2:Yl (atI b.m (k:Int))=true
   .by_cases e3:b.holder=(k:Int)
    .exact .inl ⟨λ_ _=>e3,λκ=>by simp[e1,e2,e3]⟩
    .exact .inr ⟨λh=>e3 (h e1 e2),λκ=>by simp[e1,e2,e3]⟩
   .exact .inl ⟨λ_ h=>absurd h e2,λκ=>by simp[e1,e2]⟩
  .exact .inl ⟨λh=>absurd h e1,λκ=>by simp[e1]⟩
 .unfold Zfb
  simp only[Int.lt_irrefl,decide_false,ZZf,if_false];by_cases e1:b.holder=-1
  .exact⟨decide (b.held=0),λκ=>by simp[e1],by simp[e1]⟩
  .simp only[e1,decide_false,ZZf,if_false,Jl _ _ Ya,ZZa]
   by_cases e2:Zv b.conf b.holder=true
   .simp only[e2,if_true,We h1 e2,Zp2 h3 e2,ZZa,Z5y,X6]
    by_cases e3:Yl (atI b.m b.holder)=true
    .by_cases e4:atI b.splits b.holder=0
     .exact⟨decide (0<=b.held/\b.held<=b.conf.lockMost),λκ=>by simp only[e3,e4,decide_true,if_true],by simp[e3,e4]⟩
     .exact⟨false,λκ=>by simp[e3,e4],by simp[e4]⟩
    .exact⟨false,λκ=>by simp[e3],by simp[e3]⟩
   .exact⟨false,λκ=>by simp[e2],by simp[e2]⟩
 .rw[h1,<-Zyf (P:=λi=>(atI b.m i).beat > 0->Yl (atI b.m i)=true->b.holder=i)]
def Zdh (l:List Zm):Nat->Int
 | 0=>-1
 | k+1=>(atI l (k:Int)).cycle
theorem Yp9 {l:List Zm}:(l.Pairwise λx y=>x.cycle < y.cycle)↔∀k,k+1 < l.length->(atI l (k:Int)).cycle < (atI l ((k+1:Nat):Int)).cycle:=by
 constructor
 .intro h k hk
  rw[Ql (by omega),Ql hk];exact Vdy.1 h k (k+1) (by omega) hk (by omega)
 .intro h
  rw[Vdy];have key:∀(d i:Nat) (hj:i+d+1 < l.length),(l[i]'(by omega)).cycle < (l[i+d+1]'hj).cycle:=by
   intro d
   induction d with
   | zero=>
    intro i hj;have:=h i hj;rw[Ql (by omega),Ql hj] at this;exact this
   | succ d ih=>
    intro i hj;have h4:=ih i (by omega);have h5:=h (i+d+1) (by omega);rw[Ql (by omega),Ql (by omega)] at h5;exact Int.lt_trans h4 h5
  intro i j hi hj hij;have:=key (j - i - 1) i (by omega);have e:i+(j - i - 1)+1=j:=by omega
  simp only[e] at this;exact this
theorem Yus {b:Za}:Z5k b↔∀k,k < b.log.length->Z50 b.conf b.now (atI b.log (k:Int))/\Zdh b.log k < (atI b.log (k:Int)).cycle:=by
 unfold Z5k;constructor
 .intro h k hk
  have h1:=h.1 _ (Zj3 (xs:=b.log) (i:=(k:Int)) (by omega) (by omega));refine⟨h1,?_⟩;cases k with
  | zero=>have:=h1.1.1;simp only[Zdh];omega
  | succ k=>exact Yp9.1 h.2 k hk
 .intro h
  refine⟨λd hd=>?_,Yp9.2 λk hk=>?_⟩
  .obtain⟨k,hk,rfl⟩:=Vbr hd
   have:=(h k hk).1
   rwa [Ql hk] at this
  .exact (h (k+1) hk).2
def doneQ (c:Zk) (now:Int) (d:Zm):Prop:=d.cycle < now/\Zv c d.who=true/\Wc d.addr d.size=true/\d.addr < 512/\Xz d.value d.size=true/\(d.resp=0\/d.resp=1)
theorem Y3w {b:Za}:Z5k b↔∀k,k < b.log.length->doneQ b.conf b.now (atI b.log (k:Int))/\Zdh b.log k < (atI b.log (k:Int)).cycle:=by
 rw[Yus];constructor
 .intro h k hk
  have:=h k hk;exact⟨⟨this.1.1.2,this.1.2⟩,this.2⟩
 .intro h
  have h0:∀k,k<=b.log.length->-1<=Zdh b.log k:=by
   intro k
   induction k with
   | zero=>intro _;simp[Zdh]
   | succ k ih=>
    intro hk;have h1:=ih (by omega);have h2:=(h k (by omega)).2;simp only[Zdh];omega
  intro k hk;have h1:=h k hk;have h2:=h0 k (by omega);exact⟨⟨⟨by omega,h1.1.1⟩,h1.1.2⟩,h1.2⟩
theorem Yec (b:Za) (hc:X8 b.conf=true) (hl:b.log.length < 1048577) (hn:0<=b.now/\b.now<=4000):Y2 (Zcl b) (Z5k b):=by
 have Ya:=Zcd hc;unfold Zcl;have:=Zx1 (σ:=Int) (n:=b.log.length) (by omega) (P:=λk=>doneQ b.conf b.now (atI b.log (k:Int))/\Zdh b.log k < (atI b.log (k:Int)).cycle) (Q:=True)
  (Zdh b.log) (B:=Zdi b) (L:=Zdx b) (λm s i=>rfl) (λk hk=>?_) λ_=>⟨true,λκ=>?_,by simp⟩
 .exact this.iff (by rw[and_true,Y3w])
 .have e0:Zdh b.log (k+1)=(atI b.log (k:Int)).cycle:=rfl
  rw[e0];unfold Zdi;simp only[ZZj (show decide ((k:Int) < (b.log.length:Int))=true by simpa using hk),Xp (xs:=b.log) (i:=(k:Int)) (by omega) (by omega),ZZa,Jl _ _ Ya,Zsw,Zjm];generalize atI b.log (k:Int)=d;by_cases e1:Zdh b.log k < d.cycle
  .have e1':¬d.cycle<=Zdh b.log k:=by omega
   by_cases e2:d.cycle < b.now
   .have e2':¬d.cycle≥b.now:=by omega
    by_cases e3:Zv b.conf d.who=true
    .by_cases e4:Wc d.addr d.size=true
     .by_cases e5:d.addr < 512
      .have e5':¬d.addr≥512:=by omega
       by_cases e6:Xz d.value d.size=true
       .by_cases e7:d.resp=0
        .exact .inl ⟨⟨⟨e2,e3,e4,e5,e6,.inl e7⟩,e1⟩,λκ=>by simp[e1',e2',e3,e4,e5',e6,e7]⟩
        .by_cases e8:d.resp=1
         .exact .inl ⟨⟨⟨e2,e3,e4,e5,e6,.inr e8⟩,e1⟩,λκ=>by simp[e1',e2',e3,e4,e5',e6,e8]⟩
         .exact .inr ⟨λh=>by have:=h.1.2.2.2.2.2;omega,λκ=>by simp[e1',e2',e3,e4,e5',e6,e7,e8]⟩
       .exact .inr ⟨λh=>e6 h.1.2.2.2.2.1,λκ=>by simp[e1',e2',e3,e4,e5',e6]⟩
      .have e5':d.addr≥512:=by omega
       exact .inr ⟨λh=>e5 h.1.2.2.2.1,λκ=>by simp[e1',e2',e3,e4,e5']⟩
     .exact .inr ⟨λh=>e4 h.1.2.2.1,λκ=>by simp[e1',e2',e3,e4]⟩
    .exact .inr ⟨λh=>e3 h.1.2.1,λκ=>by simp[e1',e2',e3]⟩
   .have e2':d.cycle≥b.now:=by omega
    exact .inr ⟨λh=>e2 h.1.1,λκ=>by simp[e1',e2']⟩
  .have e1':d.cycle<=Zdh b.log k:=by omega
   exact .inr ⟨λh=>e1 h.2,λκ=>by simp[e1']⟩
 .unfold Zdi
  rw[ZZi (by simp)]
theorem Yma (b:Za) (hs:b.sm):Y2 (Zqt b) (Zqm b):=by
 unfold Zqt;rw[Z2y _ hs.conf,ZZa];by_cases hc:X8 b.conf=true
 .rw[ZZj hc,X6,ZZa]
  by_cases hn:0<=b.now/\b.now<=4000
  .rw[ZZj (decide_eq_true hn)]
   have Y4d:b.m.length=b.conf.masters.length->b.buckets.length=b.conf.masters.length->b.splits.length=b.conf.masters.length->(∀i,Zv b.conf i=true->Zw4 b.conf b i)->
     Y2 ((Zgy b.model).bind λr133=>if r133=true then (Yu b.picks 0 b.now).bind λr140=>if r140=true then (Zch b).bind λr143=>if r143=true then (Zef b).bind λr146=>if r146=true then (Zcl b).bind λr149=>some r149 else some false else some false else some false else some false)
      (Ze3 b.model/\(0<=b.picks/\b.picks<=b.now)/\(((b.addr.live=true->Zaf b b.addr)/\(b.data_.live=true->Zaf b b.data_))/\(∀i,Zv b.conf i=true->(atI b.m i).beat - (atI b.m i).done=K5 b i)/\K1 b/\Km b)/\Zi8 b/\Z5k b):=by
    intro h1 h2 h3 hm;rw[Z8i _ hs.model];refine Y2.and (Y2.of Zv6) λ_=>?_;rw[X6];refine Y2.and (Y2.of (decide_eq_true_iff)) λ_=>?_;refine Y2.and (Ydy b hc h1 h3 λi hi=>(hm i hi).right) λ_=>?_;refine Y2.and (Yjt b hc h1 h3) λ_=>?_;obtain⟨r,h4,h5⟩:=Yec b hc hs.log hn;rw[h4];exact .of h5
   have hw:Y2 (Zmo b.arb b.conf) (Za0 b.arb b.conf=true):=by rw[Z6a _ _ hs.conf];exact .of Iff.rfl
   by_cases hla:b.last=-1
   .simp only[hla,decide_true,if_true]
    refine (Y2.and (Zwg b hs hc) λhm=>Y2.and hw λ_=>Y4d hm.1 hm.2.1 hm.2.2.1 hm.2.2.2).iff ⟨λh=>?_,λh=>?_⟩
    .obtain⟨⟨h1,h2,h3,h4⟩,h5,h6,h7,⟨⟨h8,h9⟩,h10,h11,h12⟩,h13,h14⟩:=h
     exact⟨hc,hn,h1,h2,h3,h4,h5,.inl hla,h6,h7,h8,h9,h10,h11,h12,h13,h14⟩
    .exact⟨⟨h.ml,h.bl,h.sl,h.mst⟩,h.arb,h.model,h.picks,⟨⟨h.alive,h.dlive⟩,h.fly,h.addr,h.data⟩,h.held,h.log⟩
   .have e:decide (b.last=-1)=false:=decide_eq_false hla
    simp only[e,ZZf,if_false];have hi:Y2 (K9 b.conf b.last) (Zv b.conf b.last=true):=by rw[Jl _ _ hs.conf];exact .of Iff.rfl
    refine (Y2.and (Zwg b hs hc) λhm=>Y2.and hw λ_=>Y2.and hi λ_=>Y4d hm.1 hm.2.1 hm.2.2.1 hm.2.2.2).iff ⟨λh=>?_,λh=>?_⟩
    .obtain⟨⟨h1,h2,h3,h4⟩,h5,hx,h6,h7,⟨⟨h8,h9⟩,h10,h11,h12⟩,h13,h14⟩:=h
     exact⟨hc,hn,h1,h2,h3,h4,h5,.inr hx,h6,h7,h8,h9,h10,h11,h12,h13,h14⟩
    .exact⟨⟨h.ml,h.bl,h.sl,h.mst⟩,h.arb,h.last.resolve_left hla,h.model,h.picks,⟨⟨h.alive,h.dlive⟩,h.fly,h.addr,h.data⟩,h.held,h.log⟩
  .rw[ZZi (by simpa using hn)]
   exact .no λh=>hn h.now
 .rw[ZZi hc]
  exact .no λh=>hc h.conf
theorem Yz9 (b:Za) (i:Int):Zuu b i=some (K5 b i):=by
 unfold Zuu Zlk Zk5 K5;by_cases h1:b.addr.live=true<;>by_cases h2:b.data_.live=true<;>by_cases h3:b.addr.who=i<;>by_cases h4:b.data_.who=i<;>simp[h1,h2,h3,h4]<;>rfl
theorem Ylz (n:Int):∃w,Zsp n=some w/\((!(w.toList == ByteArray.empty.toList))=true↔(0<=n/\n<=3)):=by
 unfold Zsp;rw[Xk,ZZa];by_cases h:0<=n/\n<=3
 .have:n=0\/n=1\/n=2\/n=3:=by omega
  rcases this with rfl|rfl|rfl|rfl<;>exact⟨_,rfl,by rw[Ykx,Ykx];decide⟩
 .rw[ZZj (by rw[decide_eq_false h];rfl)]
  exact⟨_,rfl,by simp[h]⟩
theorem Zjy {b:Za} (h1:b.m.length=b.conf.masters.length) (Ya:b.conf.masters.length < 1048577) (i:Int):Z5 i 0 (Y8 (b.m.length:Int) 1)=some (Zv b.conf i):=by
 rw[Xk,h1,Z33 i Ya]
theorem Yim (b:Za) (hs:b.sm) (hc:X8 b.conf=true) (h1:b.m.length=b.conf.masters.length) (h3:b.splits.length=b.conf.masters.length) (hm:∀i,Zv b.conf i=true->Zw4 b.conf b i):
  Y2 (Zcp b b.addr false) ((b.addr.live=true->Zaf b b.addr)/\K1 b):=by
 have Ya:=Zcd hc;have hJ1:Q3 b b.addr false true=some false:=by unfold Q3;rw[ZZj rfl]
 unfold Zcp K1;by_cases ha:b.addr.live=true
 .rw[ZZi (by simp[ha]),ZZj ha,Zjy h1 Ya,ZZa,Xk,ZZa]
  by_cases e1:Zv b.conf b.addr.who=true
  .rw[e1,ZZi (by simp)]
   by_cases e2:1<=b.addr.by_/\b.addr.by_<=3
   .rw[ZZi (by simpa using e2),Zp2 h3 e1,ZZa]
    have hsp:=(hm _ e1).split;by_cases e3:atI b.splits b.addr.who=0
    .rw[decide_eq_false (by omega)]
     have hrb:=Je (hm _ e1).right;unfold Q3;rw[ZZi (by simp),We h1 e1,ZZa,ZZj (by simp),Xh (by omega) (by omega)];by_cases f1:b.addr.beat=(atI b.m b.addr.who).beat - 1
     .by_cases f2:b.addr.left=0
      .by_cases f3:b.addr.resp=0
       .rw[ZZj (by simpa using f1),ZZj (by simpa using f2),ZZj (by simpa using f3)]
        refine .of ⟨λh=>⟨λ_=>⟨e1,e2,e3⟩,f1,f2,f3,by simpa using h⟩,λh=>by simpa using h.2.2.2.2⟩
       .rw[ZZj (by simpa using f1),ZZj (by simpa using f2),ZZi (by simpa using f3)]
        exact .no λh=>f3 h.2.2.2.1
      .rw[ZZj (by simpa using f1),ZZi (by simpa using f2)]
       exact .no λh=>f2 h.2.2.1
     .rw[ZZi (by simpa using f1)]
      exact .no λh=>f1 h.2.1
    .rw[decide_eq_true (by omega),hJ1]
     exact .no λh=>e3 (h.1 ha).2.2
   .rw[ZZj (by rw[decide_eq_false e2];rfl),hJ1]
    exact .no λh=>e2 (h.1 ha).2.1
  .rw[ZZj (by simpa using e1),hJ1]
   exact .no λh=>e1 (h.1 ha).1
 .rw[ZZj (by simpa using ha),ZZi ha]
  exact (Y2.of (Yhj _)).iff ⟨λh=>⟨λh2=>absurd h2 ha,h⟩,λh=>h.2⟩
theorem Yin (b:Za) (hs:b.sm) (hc:X8 b.conf=true) (h1:b.m.length=b.conf.masters.length) (h3:b.splits.length=b.conf.masters.length) (hm:∀i,Zv b.conf i=true->Zw4 b.conf b i):
  Y2 (Zcp b b.data_ true) ((b.data_.live=true->Zaf b b.data_)/\Km b):=by
 have Ya:=Zcd hc;have hw:=(Qk hc).2.1;have hJ1:Q3 b b.data_ true true=some false:=by unfold Q3;rw[ZZj rfl]
 unfold Zcp Km;by_cases ha:b.data_.live=true
 .rw[ZZi (by simp[ha]),ZZj ha,Zjy h1 Ya,ZZa,Xk,ZZa]
  by_cases e1:Zv b.conf b.data_.who=true
  .rw[e1,ZZi (by simp)]
   by_cases e2:1<=b.data_.by_/\b.data_.by_<=3
   .rw[ZZi (by simpa using e2),Zp2 h3 e1,ZZa]
    have hsp:=(hm _ e1).split;by_cases e3:atI b.splits b.data_.who=0
    .rw[decide_eq_false (by omega)]
     have hrb:=Je (hm _ e1).right;have hJ2:Y2 (Yg b b.data_ true (atI b.m b.data_.who) false) ((b.data_.beat=(atI b.m b.data_.who).done/\(0<=b.data_.left/\b.data_.left<=b.conf.maxWait+2)/\(0<=b.data_.resp/\b.data_.resp<=3))/\(b.data_.second=true->b.data_.left=0/\b.data_.resp≠0)):=by
      unfold Yg;obtain⟨w,hw1,hw2⟩:=Ylz b.data_.resp;rw[ZZi (by simp),Xk,ZZa,hw1,ZZa,Yr (by omega) (by omega)];by_cases f1:b.data_.beat=(atI b.m b.data_.who).done
      .rw[ZZj (by simpa using f1)]
       by_cases f2:0<=b.data_.left/\b.data_.left<=b.conf.maxWait+2
       .rw[ZZj (by simpa using f2)]
        by_cases f3:0<=b.data_.resp/\b.data_.resp<=3
        .rw[ZZj (hw2.2 f3)]
         by_cases f4:b.data_.second=true
         .rw[ZZi (by simp[f4])]
          by_cases f5:b.data_.resp=0
          .rw[ZZi (by simpa using f5)]
           exact .no λh=>(h.2 f4).2 f5
          .rw[ZZj (by simpa using f5)]
           refine .of ⟨λh=>⟨⟨f1,f2,f3⟩,λ_=>⟨by simpa using h,f5⟩⟩,λh=>by simpa using (h.2 f4).1⟩
         .rw[ZZj (by simpa using f4)]
          exact .yes ⟨⟨f1,f2,f3⟩,λh=>absurd h f4⟩
        .rw[ZZi (λh=>f3 (hw2.1 h))]
         exact .no λh=>f3 h.1.2.2
       .rw[ZZi (by rw[decide_eq_false f2];simp)]
        exact .no λh=>f2 h.1.2.1
      .rw[ZZi (by simpa using f1)]
       exact .no λh=>f1 h.1.1
     have Yyw:Yg b b.data_ true (atI b.m b.data_.who) true=some false:=by unfold Yg;rw[ZZj rfl]
     have hS:Y2 (if b.data_.second=true then Yg b b.data_ true (atI b.m b.data_.who) b.addr.live else Yg b b.data_ true (atI b.m b.data_.who) false)
       ((b.data_.beat=(atI b.m b.data_.who).done/\(0<=b.data_.left/\b.data_.left<=b.conf.maxWait+2)/\(0<=b.data_.resp/\b.data_.resp<=3))/\(b.data_.second=true->b.data_.left=0/\b.data_.resp≠0/\b.addr.live=false)):=by
      by_cases f4:b.data_.second=true
      .rw[ZZj f4]
       by_cases f5:b.addr.live=true
       .rw[f5,Yyw]
        exact .no λh=>by have:=(h.2 f4).2.2;cases this
       .have f6:b.addr.live=false:=by simpa using f5
        rw[f6];exact hJ2.iff ⟨λh=>⟨h.1,λh2=>⟨(h.2 h2).1,(h.2 h2).2,rfl⟩⟩,λh=>⟨h.1,λh2=>⟨(h.2 h2).1,(h.2 h2).2.1⟩⟩⟩
      .rw[ZZi f4]
       exact hJ2.iff ⟨λh=>⟨h.1,λh2=>absurd h2 f4⟩,λh=>⟨h.1,λh2=>absurd h2 f4⟩⟩
     have hT:Y2 (if decide (b.data_.resp=3)=true then if (atI b.m b.data_.who).parted=true then Yg b b.data_ true (atI b.m b.data_.who) true else if decide (b.holder=b.data_.who)=true then Yg b b.data_ true (atI b.m b.data_.who) true else if b.data_.second=true then Yg b b.data_ true (atI b.m b.data_.who) b.addr.live else Yg b b.data_ true (atI b.m b.data_.who) false
       else if b.data_.second=true then Yg b b.data_ true (atI b.m b.data_.who) b.addr.live else Yg b b.data_ true (atI b.m b.data_.who) false)
       ((b.data_.resp=3->(atI b.m b.data_.who).parted=false/\b.data_.who≠b.holder)/\(b.data_.beat=(atI b.m b.data_.who).done/\(0<=b.data_.left/\b.data_.left<=b.conf.maxWait+2)/\(0<=b.data_.resp/\b.data_.resp<=3))/\(b.data_.second=true->b.data_.left=0/\b.data_.resp≠0/\b.addr.live=false)):=by
      by_cases f3:b.data_.resp=3
      .rw[ZZj (by simpa using f3)]
       by_cases f4:(atI b.m b.data_.who).parted=true
       .rw[ZZj f4,Yyw]
        exact .no λh=>by have:=(h.1 f3).1;rw[f4] at this;cases this
       .rw[ZZi f4]
        by_cases f5:b.holder=b.data_.who
        .rw[ZZj (by simpa using f5),Yyw]
         exact .no λh=>(h.1 f3).2 f5.symm
        .rw[ZZi (by simpa using f5)]
         exact hS.iff ⟨λh=>⟨λ_=>⟨by simpa using f4,λh2=>f5 h2.symm⟩,h⟩,λh=>h.2⟩
      .rw[ZZi (by simpa using f3)]
       exact hS.iff ⟨λh=>⟨λh2=>absurd h2 f3,h⟩,λh=>h.2⟩
     unfold Q3;rw[ZZi (by simp),We h1 e1,ZZa,ZZi (by simp)];by_cases f2:b.data_.resp=2
     .rw[ZZj (by simpa using f2)]
      by_cases f3:(atI b.m b.data_.who).tries≥b.conf.maxRetry
      .rw[ZZj (by simpa using f3),Yyw]
       exact .no λh=>by have:=h.2.2.1 f2;omega
      .rw[ZZi (by simpa using f3)]
       exact hT.iff ⟨λh=>⟨λ_=>⟨e1,e2,e3⟩,h.2.1,λ_=>by omega,h.1,h.2.2⟩,λh=>⟨h.2.2.2.1,h.2.1,h.2.2.2.2⟩⟩
     .rw[ZZi (by simpa using f2)]
      exact hT.iff ⟨λh=>⟨λ_=>⟨e1,e2,e3⟩,h.2.1,λh2=>absurd h2 f2,h.1,h.2.2⟩,λh=>⟨h.2.2.2.1,h.2.1,h.2.2.2.2⟩⟩
    .rw[decide_eq_true (by omega),hJ1]
     exact .no λh=>e3 (h.1 ha).2.2
   .rw[ZZj (by rw[decide_eq_false e2];rfl),hJ1]
    exact .no λh=>e2 (h.1 ha).2.1
  .rw[ZZj (by simpa using e1),hJ1]
   exact .no λh=>e1 (h.1 ha).1
 .rw[ZZj (by simpa using ha),ZZi ha]
  exact (Y2.of (Yhj _)).iff ⟨λh=>⟨λh2=>absurd h2 ha,h⟩,λh=>h.2⟩
theorem Ygt (b:Za) (hc:X8 b.conf=true) (h1:b.m.length=b.conf.masters.length) (h3:b.splits.length=b.conf.masters.length) (hm:∀i,Zv b.conf i=true->Zw4 b.conf b i):Y2 (Zox b) (Zi8 b):=by
 have Yo:=Zam hc;have Ya:=Zcd hc;unfold Zox Zi8;refine (Zpg (n:=b.m.length) (by omega) (P:=λk=>(atI b.m (k:Int)).beat > 0->Yl (atI b.m (k:Int))=true->b.holder=(k:Int))
  (Q:=if b.holder=-1 then b.held=0 else Zv b.conf b.holder=true/\Yl (atI b.m b.holder)=true/\atI b.splits b.holder=0/\(0<=b.held/\b.held<=b.conf.lockMost))
  (B:=Zix b) (λm i=>rfl) (λk hk=>?_) λ_=>?_).iff ?_
 .have hmk:=mas (c:=b.conf) (k:=k) (by omega)
  have hr:=(hm _ hmk).right;unfold Zix;simp only[ZZj (show decide ((k:Int) < (b.m.length:Int))=true by simpa using hk),We h1 hmk,ZZa];by_cases e1:(atI b.m (k:Int)).beat > 0
  .have hq:(atI b.m (k:Int)).queue≠[]:=by
    intro hq;have:=hr.none hq;omega
   have hq2:0 < (atI b.m (k:Int)).queue.length:=Vao.2 hq;rw[Xp (xs:=(atI b.m (k:Int)).queue) (by omega) (by omega)];simp only[ZZa,e1,decide_true,if_true];by_cases e2:(atI (atI b.m (k:Int)).queue 0).lock=true
   .by_cases e4:(atI b.m (k:Int)).broken=true
    .exact .inl ⟨λ_ h=>by simp[Yl,e4] at h,λκ=>by simp[e2,e4]⟩
    .by_cases e3:b.holder=(k:Int)
     .exact .inl ⟨λ_ _=>e3,λκ=>by simp[e2,e3,e4]⟩
     .exact .inr ⟨λh=>e3 (h trivial (by simp[Yl,hq,e2,e4])),λκ=>by simp[e2,e3,e4]⟩
   .exact .inl ⟨λ_ h=>by simp[Yl,e2] at h,λκ=>by simp[e2]⟩
  .exact .inl ⟨λh=>absurd h e1,λκ=>by simp[e1]⟩
 .unfold Zix
  simp only[Int.lt_irrefl,decide_false,ZZf,if_false];by_cases e1:b.holder=-1
  .exact⟨decide (b.held=0),λκ=>by simp[e1],by simp[e1]⟩
  .simp only[e1,decide_false,ZZf,if_false,Zjy h1 Ya,ZZa,Xk]
   have hJt:Zbq b true=some false:=by unfold Zbq;rw[ZZj rfl]
   by_cases e2:Zv b.conf b.holder=true
   .simp only[e2,Va5,ZZf,if_false]
    by_cases e5:0<=b.held/\b.held<=b.conf.lockMost
    .have hJ:Y2 (Zbq b false) (Yl (atI b.m b.holder)=true/\atI b.splits b.holder=0):=by
      unfold Zbq;rw[ZZi (by simp),We h1 e2,ZZa];by_cases hq:(atI b.m b.holder).queue=[]
      .rw[ZZi (by simp[hq])]
       exact .no λh=>by simp[Yl,hq] at h
      .have hq2:0 < (atI b.m b.holder).queue.length:=Vao.2 hq
       rw[ZZj (by simp;omega),Xp (xs:=(atI b.m b.holder).queue) (by omega) (by omega),ZZa,Zp2 h3 e2,ZZa];by_cases e6:(atI (atI b.m b.holder).queue 0).lock=true
       .rw[ZZj e6]
        by_cases e7:(atI b.m b.holder).broken=true
        .rw[ZZi (by simp[e7])]
         exact .no λh=>by simp[Yl,e7] at h
        .rw[ZZj (by simp[e7])]
         exact .of (by simp[Yl,hq,e6,e7])
       .rw[ZZi e6]
        exact .no λh=>by simp[Yl,e6] at h
     obtain⟨r,Zw,Z6⟩:=hJ;refine⟨r,λκ=>by rw[decide_eq_true e5,Va5,Zw],?_⟩;rw[Z6];exact⟨λh=>⟨trivial,h.1,h.2,e5⟩,λh=>⟨h.2.1,h.2.2.1⟩⟩
    .refine⟨false,λκ=>by rw[decide_eq_false e5,Vbi,hJt],by simp[e5]⟩
   .exact⟨false,λκ=>by simp[e2,hJt],by simp[e2]⟩
 .rw[h1,<-Zyf (P:=λi=>(atI b.m i).beat > 0->Yl (atI b.m i)=true->b.holder=i)]
def doneR (c:Zk) (d:Zm):Prop:=Zv c d.who=true/\Wc d.addr d.size=true/\d.addr < 512/\Xz d.value d.size=true/\(d.resp=0\/d.resp=1)
theorem Ycr {b:Za} (h1:b.m.length=b.conf.masters.length) (Ya:b.conf.masters.length < 1048577) (d:Zm):(doneR b.conf d/\∀x:Option Bool,((Z5 d.who 0 (Y8 (b.m.length:Int) 1)).bind λr530=>if (!r530)=true then some false else (Za7 d.addr d.size).bind λr538=>if (!r538)=true then some false else (Z5 d.addr 0 511).bind λr544=>if (!r544)=true then some false else (Qn d.size).bind λr552=>(Z5 d.value 0 (Y8 r552 1)).bind λr554=>if (!r554)=true then some false else (Z5 d.resp 0 1).bind λr560=>if (!r560)=true then some false else x)=x)
  \/ (¬doneR b.conf d/\∀x:Option Bool,((Z5 d.who 0 (Y8 (b.m.length:Int) 1)).bind λr530=>if (!r530)=true then some false else (Za7 d.addr d.size).bind λr538=>if (!r538)=true then some false else (Z5 d.addr 0 511).bind λr544=>if (!r544)=true then some false else (Qn d.size).bind λr552=>(Z5 d.value 0 (Y8 r552 1)).bind λr554=>if (!r554)=true then some false else (Z5 d.resp 0 1).bind λr560=>if (!r560)=true then some false else x)=some false):=by
 simp only[Zjy h1 Ya,Zry,Zbg,Zqp,Xk d.addr,Xk d.resp,ZZa];by_cases e3:Zv b.conf d.who=true
 .by_cases e4:Wc d.addr d.size=true
  .have e0:=(Zbw e4).2.1
   by_cases e5:d.addr < 512
   .have e5':0<=d.addr/\d.addr<=511:=by omega
    by_cases e6:Xz d.value d.size=true
    .by_cases e7:d.resp=0\/d.resp=1
     .have e7':0<=d.resp/\d.resp<=1:=by omega
      exact .inl ⟨⟨e3,e4,e5,e6,e7⟩,λx=>by simp[e3,e4,e5',e6,e7']⟩
     .have e7':¬(0<=d.resp/\d.resp<=1):=by omega
      exact .inr ⟨λh=>e7 h.2.2.2.2,λx=>by simp only[e3,e4,e5',e6,decide_eq_false e7',Va5,Vbi,ZZf,if_false,if_true,and_self,decide_true]⟩
    .exact .inr ⟨λh=>e6 h.2.2.2.1,λx=>by simp[e3,e4,e5',e6]⟩
   .have e5':¬(0<=d.addr/\d.addr<=511):=by omega
    exact .inr ⟨λh=>e5 h.2.2.1,λx=>by simp only[e3,e4,decide_eq_false e5',Va5,Vbi,ZZf,if_false,if_true]⟩
  .exact .inr ⟨λh=>e4 h.2.1,λx=>by simp[e3,e4]⟩
 .exact .inr ⟨λh=>e3 h.1,λx=>by simp[e3]⟩
theorem Yiq (b:Za) (hc:X8 b.conf=true) (h1:b.m.length=b.conf.masters.length) (hl:b.log.length < 1048577) (hn:0<=b.now/\b.now<=4000):Y2 (Zto b) (Z5k b):=by
 have Ya:=Zcd hc;unfold Zto;have:=Zpg (n:=b.log.length) (by omega) (P:=λk=>Z50 b.conf b.now (atI b.log (k:Int))/\(0 < k->Zdh b.log k < (atI b.log (k:Int)).cycle)) (Q:=True)
  (B:=Zlu b) (L:=Zn2 b) (λm i=>rfl) (λk hk=>?_) λ_=>⟨true,λκ=>?_,by simp⟩
 .refine this.iff ?_
  rw[and_true,Yus];constructor
  .intro h k hk
   refine⟨(h k hk).1,?_⟩;cases k with
   | zero=>have:=(h 0 hk).1.1.1;simp only[Zdh];omega
   | succ k=>exact (h (k+1) hk).2 (by omega)
  .intro h k hk
   exact⟨(h k hk).1,λ_=>(h k hk).2⟩
 .unfold Zlu
  simp only[ZZj (show decide ((k:Int) < (b.log.length:Int))=true by simpa using hk),Xp (xs:=b.log) (i:=(k:Int)) (by omega) (by omega),ZZa,Xk (atI b.log (k:Int)).cycle,Xh (a:=b.now) (b:=1) (by omega) (by omega)];by_cases e1:0<=(atI b.log (k:Int)).cycle/\(atI b.log (k:Int)).cycle < b.now
  .have e1':0<=(atI b.log (k:Int)).cycle/\(atI b.log (k:Int)).cycle<=b.now - 1:=by omega
   simp only[e1',and_self,decide_true,Va5,ZZf,if_false];cases k with
   | zero=>
    simp only[show ¬(((0:Nat):Int) > 0) by omega,decide_false,ZZf,if_false];rcases Ycr h1 Ya (atI b.log ((0:Nat):Int)) with⟨h2,h3⟩|⟨h2,h3⟩
    .exact .inl ⟨⟨⟨e1,h2⟩,λh=>by omega⟩,λκ=>h3 _⟩
    .exact .inr ⟨λh=>h2 h.1.2,λκ=>h3 _⟩
   | succ k=>
    have ek:((k+1:Nat):Int) - 1=(k:Int):=by omega
    simp only[show ((k+1:Nat):Int) > 0 by omega,decide_true,if_true,Xh (a:=((k+1:Nat):Int)) (b:=1) (by omega) (by omega),ek,Xp (xs:=b.log) (i:=(k:Int)) (by omega) (by omega),ZZa];by_cases e2:(atI b.log (k:Int)).cycle < (atI b.log ((k+1:Nat):Int)).cycle
    .have e2':¬(atI b.log ((k+1:Nat):Int)).cycle<=(atI b.log (k:Int)).cycle:=by omega
     simp only[e2',decide_false,ZZf,if_false];rcases Ycr h1 Ya (atI b.log ((k+1:Nat):Int)) with⟨h2,h3⟩|⟨h2,h3⟩
     .exact .inl ⟨⟨⟨e1,h2⟩,λh=>e2⟩,λκ=>h3 _⟩
     .exact .inr ⟨λh=>h2 h.1.2,λκ=>h3 _⟩
    .have e2':(atI b.log ((k+1:Nat):Int)).cycle<=(atI b.log (k:Int)).cycle:=by omega
     exact .inr ⟨λh=>e2 (h.2 (by omega)),λκ=>by simp only[e2',decide_true,if_true]⟩
  .have e1':¬(0<=(atI b.log (k:Int)).cycle/\(atI b.log (k:Int)).cycle<=b.now - 1):=by omega
   exact .inr ⟨λh=>e1 h.1.1,λκ=>by simp only[decide_eq_false e1',Vbi,if_true]⟩
 .unfold Zlu
  rw[ZZi (by simp)]
theorem Ylq (b:Za) (hs:b.sm):Y2 (Znc b) (Zqm b):=by
 have hJt:Wy b true=some false:=by unfold Wy;rw[ZZj rfl]
 unfold Znc;rw[Zoy _ hs.conf,ZZa];by_cases hc:X8 b.conf=true
 .have Yo:=Zam hc
  rw[hc,ZZi (by simp),Xk,ZZa];by_cases hn:0<=b.now/\b.now<=4000
  .rw[ZZi (by simpa using hn)]
   by_cases h1:b.m.length=b.conf.masters.length
   .rw[ZZi (by simp;omega)]
    by_cases h2:b.buckets.length=b.conf.masters.length
    .rw[ZZi (by simp;omega)]
     by_cases h3:b.splits.length=b.conf.masters.length
     .rw[ZZi (by simp;omega),Z5e _ _ hs.conf,ZZa]
      by_cases h4:Za0 b.arb b.conf=true
      .rw[h4,ZZi (by simp),Xk,ZZa,Xh (by omega) (by omega)]
       by_cases h5:b.last=-1\/Zv b.conf b.last=true
       .have h5':-1<=b.last/\b.last<=(b.conf.masters.length:Int) - 1:=by
         rcases h5 with h5|h5
         .omega
         .simp only[Zv,ZZl] at h5;omega
        rw[ZZi (by simpa using h5'),Z7m _ hs.model,ZZa];by_cases h6:Z0e b.model=true
        .rw[h6,ZZi (by simp)]
         by_cases h7:0<=b.picks
         .rw[ZZi (by simpa using h7)]
          by_cases h8:b.picks<=b.now
          .rw[decide_eq_false (by omega)]
           unfold Wy;rw[ZZi (by simp)];have Yyx:=Zpg (n:=b.conf.masters.length) (by omega) (P:=λk=>Zw4 b.conf b (k:Int)/\(atI b.m (k:Int)).beat - (atI b.m (k:Int)).done=K5 b (k:Int))
            (Q:=((b.data_.live=true->Zaf b b.data_)/\Km b)/\((b.addr.live=true->Zaf b b.addr)/\K1 b)/\Zi8 b/\Z5k b) (B:=Zol b) (L:=Zp4 b) (λm i=>rfl) (λk hk=>?_) λhP=>?_
           .refine Yyx.iff ⟨λh=>?_,λh=>?_⟩
            .obtain⟨h9,h10,h11,h12,h13⟩:=h
             have hm:=(Zyf (c:=b.conf) (P:=λi=>Zw4 b.conf b i/\(atI b.m i).beat - (atI b.m i).done=K5 b i)).2 h9;exact⟨hc,hn,h1,h2,h3,λi hi=>(hm i hi).1,h4,h5,Zv6.1 h6,⟨h7,h8⟩,h11.1,h10.1,λi hi=>(hm i hi).2,h11.2,h10.2,h12,h13⟩
            .exact⟨λk hk=>⟨h.mst _ (mas hk),h.fly _ (mas hk)⟩,⟨h.dlive,h.data⟩,⟨h.alive,h.addr⟩,h.held,h.log⟩
           .have hm:=mas (c:=b.conf) (k:=k) hk
            have hms:=hs.mst _ (mem_m h1 hm);have hme:=Zg4 (Zkc hc hm);unfold Zol;simp only[ZZj (show decide ((k:Int) < (b.conf.masters.length:Int))=true by simpa using hk),We h1 hm,Yak h2 hm,Zp2 h3 hm,Z02 hm,ZZa,Zpq _ ⟨hme.1,hme.2.1⟩,Xk,Yz9];unfold Z7e;simp only[Zoy _ hs.conf,hc,if_true,ZZa,Zfr _ hms];by_cases e1:Zwn (atI b.m (k:Int))=true
            .by_cases e2:(atI b.m (k:Int)).tries<=b.conf.maxRetry
             .by_cases e3:Y4 (atI b.buckets (k:Int)) (atI b.conf.masters (k:Int))=true
              .by_cases e4:0<=atI b.splits (k:Int)/\atI b.splits (k:Int)<=b.conf.maxSplit
               .have hrb:=Je (Jg.1 e1)
                rw[Xh (by omega) (by omega)];by_cases e5:(atI b.m (k:Int)).beat - (atI b.m (k:Int)).done=K5 b (k:Int)
                .refine .inl ⟨⟨⟨Jg.1 e1,e2,e3,e4⟩,e5⟩,λκ=>?_⟩
                 simp[e1,e2,e3,e4,e5]
                .refine .inr ⟨λh=>e5 h.2,λκ=>?_⟩
                 simp[e1,e2,e3,e4,e5]
               .refine .inr ⟨λh=>e4 h.1.split,λκ=>?_⟩
                simp[e1,e2,e3,e4]
              .refine .inr ⟨λh=>e3 h.1.bucket,λκ=>?_⟩
               simp[e1,e2,e3]
             .refine .inr ⟨λh=>e2 h.1.tries,λκ=>?_⟩
              simp[e1,e2]
            .refine .inr ⟨λh=>e1 (Jg.2 h.1.right),λκ=>?_⟩
             simp[e1]
           .have hm:=(Zyf (c:=b.conf) (P:=λi=>Zw4 b.conf b i/\(atI b.m i).beat - (atI b.m i).done=K5 b i)).2 hP
            have hm1:∀i,Zv b.conf i=true->Zw4 b.conf b i:=λi hi=>(hm i hi).1;have hT:Y2 ((Zcp b b.data_ true).bind λr903=>if r903=true then (Zcp b b.addr false).bind λr908=>if r908=true then (Zox b).bind λr912=>if r912=true then (Zto b).bind λr916=>some r916 else some false else some false else some false)
              (((b.data_.live=true->Zaf b b.data_)/\Km b)/\((b.addr.live=true->Zaf b b.addr)/\K1 b)/\Zi8 b/\Z5k b):=by
             refine Y2.and (Yin b hs hc h1 h3 hm1) λ_=>?_;refine Y2.and (Yim b hs hc h1 h3 hm1) λ_=>?_;refine Y2.and (Ygt b hc h1 h3 hm1) λ_=>?_;obtain⟨r,h9,h10⟩:=Yiq b hc h1 hs.log hn;rw[h9];exact .of h10
            obtain⟨r,h9,h10⟩:=hT;refine⟨r,λκ=>?_,h10⟩;unfold Zol;rw[ZZi (by simp)];exact h9
          .rw[decide_eq_true (by omega),hJt]
           exact .no λh=>h8 h.picks.2
         .rw[ZZj (by simpa using h7),hJt]
          exact .no λh=>h7 h.picks.1
        .rw[ZZj (by simpa using h6),hJt]
         exact .no λh=>h6 (Zv6.2 h.model)
       .have h5':¬(-1<=b.last/\b.last<=(b.conf.masters.length:Int) - 1):=by
         intro h6;apply h5;simp only[Zv,ZZl];omega
        rw[ZZj (by rw[decide_eq_false h5'];rfl),hJt];exact .no λh=>h5 h.last
      .rw[ZZj (by simpa using h4),hJt]
       exact .no λh=>h4 h.arb
     .rw[ZZj (by simp;omega),hJt]
      exact .no λh=>h3 h.sl
    .rw[ZZj (by simp;omega),hJt]
     exact .no λh=>h2 h.bl
   .rw[ZZj (by simp;omega),hJt]
    exact .no λh=>h1 h.ml
  .rw[ZZj (by rw[decide_eq_false hn];rfl),hJt]
   exact .no λh=>hn h.now
 .rw[ZZj (by simpa using hc),hJt]
  exact .no λh=>hc h.conf
theorem Ydk (b:Za) (hs:b.sm):∃r,Zqt b=some r/\Znc b=some r/\(r=true↔Zqm b):=(Yma b hs).eq (Ylq b hs)
def Zjg (l:List Int) (k:Int):Int:=if l=[]\/k < 0 then 0 else atI l (k % (l.length:Int))
def Zpz (c:Zk) (s:Zi) (k:Int):Int:=max 0 (min (Zjg s.waits k) c.maxWait)
def Zho (s:Zi) (k:Int):Int:=if Zjg s.says k=2\/Zjg s.says k=3 then Zjg s.says k else 0
def Zh5 (c:Zk) (s:Zi) (k:Int):Int:=max 1 (min (max 0 (min (Zjg s.waits k) 99)+1) c.maxSplit)
def Zku (b:Za):Zp:=
 Zp.mk b.now (if b.addr.live then X4 (atI b.m b.addr.who) b.addr.beat else -1) (if b.addr.live then (if b.addr.first then 2 else 3) else 0) (if b.addr.live then b.addr.who else -1)
  (if b.data_.live then X4 (atI b.m b.data_.who) b.data_.beat else -1) (if b.data_.live then b.data_.who else -1) true 0 (-1)
def Zbk (s:Zi) (t:Int):List Zl:=s.posts.filter λp=>decide (p.at_=t)
def Ku (b:Za) (p:Zl):Za:=if Zv b.conf p.who=true then {b with m:=b.m.set p.who.toNat (J0 (atI b.m p.who) p.req)} else b
def Xv (b:Za) (ps:List Zl):Za:=ps.foldl Ku b
def Xg (b:Za):Za:={b with splits:=b.splits.map λn=>max (n - 1) 0,buckets:=List.zipWith Zsd b.buckets b.conf.masters}
def Js (b:Za):Za:=if b.holder=-1 then b else {b with held:=min (b.held+1) b.conf.lockMost}
def Yx6 (b:Za):Za:={b with holder:=-1,held:=0}
def Wh (b:Za) (x:Zg):Za:=
 if x.by_=1 then {b with m:=b.m.set x.who.toNat (Zbn (atI b.m x.who)),buckets:=b.buckets.set x.who.toNat (Z0a (atI b.buckets x.who) (atI b.conf.masters x.who))}
 else if x.by_=2 then {b with m:=b.m.set x.who.toNat (Zbn (atI b.m x.who)),arb:=Zz9 b.arb b.conf x.who}
 else {b with m:=b.m.set x.who.toNat (Zbn (atI b.m x.who))}
def Zqw (m:Zb) (k:Int):Int:=if (atI m.queue 0).write then atI (atI m.queue 0).data_ k else 0
def doG (b:Za) (x:Zg):Zh×Int×Int:=Ze6 b.model (atI (atI b.m x.who).queue 0).write (X4 (atI b.m x.who) x.beat) (atI (atI b.m x.who).queue 0).size (Zqw (atI b.m x.who) x.beat)
def Ygq (b:Za) (x:Zg):Zm:=Zm.mk b.now x.who (atI (atI b.m x.who).queue 0).write (X4 (atI b.m x.who) x.beat) (atI (atI b.m x.who).queue 0).size (if x.resp=0 then (doG b x).2.1 else 0) x.resp
def Zfy (b:Za) (x:Zg):Za:=
 {b with model:=if x.resp=0 then (doG b x).1 else b.model,log:=b.log++[Ygq b x],m:=b.m.set x.who.toNat (Ji (atI b.m x.who)),holder:=if b.holder=x.who/\(atI b.m x.who).done+1=Z0 (atI b.m x.who) then -1 else b.holder,held:=if b.holder=x.who/\(atI b.m x.who).done+1=Z0 (atI b.m x.who) then 0 else b.held}
def Z9 (b:Za) (s:Zi):Za×Bool×Int:=
 if b.data_.live=false then (b,true,0)
 else if b.data_.left > 0 then ({b with data_:={b.data_ with left:=b.data_.left - 1}},false,0)
 else if b.data_.resp≠0/\b.data_.second=false then
  (if b.addr.live then {Wh {b with data_:={b.data_ with second:=true}} b.addr with addr:=Zg.z0} else {b with data_:={b.data_ with second:=true}},false,b.data_.resp)
 else if b.data_.resp=2 then (Wh {b with data_:=Zg.z0,m:=b.m.set b.data_.who.toNat {atI b.m b.data_.who with tries:=(atI b.m b.data_.who).tries+1}} b.data_,true,b.data_.resp)
 else if b.data_.resp=3 then (Wh {b with data_:=Zg.z0,m:=b.m.set b.data_.who.toNat {atI b.m b.data_.who with parted:=true},splits:=b.splits.set b.data_.who.toNat (Zh5 b.conf s b.picks)} b.data_,true,b.data_.resp)
 else (Zfy {b with data_:=Zg.z0} b.data_,true,b.data_.resp)
def Xd (b:Za):Za:=if b.holder≠-1/\b.held=b.conf.lockMost then Yx6 {b with m:=b.m.set b.holder.toNat {atI b.m b.holder with broken:=true}} else b
def Zdd (b:Za) (s:Zi) (x:Zg):Int×Int:=
 if (atI b.m x.who).broken=true\/Yx (X4 (atI b.m x.who) x.beat)=0 then (1,0) else
 (if Zho s b.picks=2/\Yx (X4 (atI b.m x.who) x.beat)≠3/\(atI b.m x.who).tries < b.conf.maxRetry then 2
  else if Zho s b.picks=3/\Yx (X4 (atI b.m x.who) x.beat)=2/\(atI b.m x.who).parted=false/\x.who≠b.holder then 3 else (doG b x).2.2,if Yx (X4 (atI b.m x.who) x.beat)=3 then Zpz b.conf s b.picks+2 else Zpz b.conf s b.picks)
def Q0 (b:Za) (s:Zi):Za:=if b.addr.live then {b with data_:={b.addr with left:=(Zdd b s b.addr).2,resp:=(Zdd b s b.addr).1},addr:=Zg.z0,picks:=b.picks+1} else b
def Kh (b:Za) (i:Int):Bool:=Zo2 (atI b.m i)&&(decide (atI b.splits i=0)&&(decide (b.holder=-1)||decide (b.holder=i)))
def Qu (b:Za):List Bool:=(List.range b.m.length).map λk:Nat=>Kh b (k:Int)
def Zat (b:Za) (k:Nat):Bool:=Kh b (k:Int)&&(Zgd (atI b.buckets (k:Int)) (atI b.conf.masters (k:Int))).2
def Zad (b:Za):Int×Int×Za:=
 if b.holder≠-1/\Kh b b.holder=true then (b.holder,3,b)
 else match (List.range b.m.length).find? (Zat b) with
  | some k=>((k:Int),1,{b with buckets:=b.buckets.set k (Zgd (atI b.buckets (k:Int)) (atI b.conf.masters (k:Int))).1})
  | none=>if b.holder≠-1 then (-1,0,b) else ((Zc6 b.arb b.conf (Qu b)).2,2,{b with arb:=(Zc6 b.arb b.conf (Qu b)).1})
def Z6j (b:Za) (who by_:Int):Za:=
 {b with addr:=Zg.mk true who (atI b.m who).beat (decide ((atI b.m who).beat=0)||decide (b.last≠who)) by_ 0 0 false,holder:=if Yl (atI b.m who)=true/\b.holder=-1 then who else b.holder,held:=if Yl (atI b.m who)=true/\b.holder=-1 then 0 else b.held,m:=b.m.set who.toNat (X5 (atI b.m who)),last:=who}
def Jb (b:Za):Int×Za:=if (Zad b).1 < 0 then (-1,(Zad b).2.2) else ((Zad b).1,Z6j (Zad b).2.2 (Zad b).1 (Zad b).2.1)
def Wu (b:Za) (s:Zi):Int×Za:=Jb (Q0 (Xd b) s)
def Kt (b:Za) (s:Zi):Za:=Js (Xg (Xv b (Zbk s b.now)))
def Ztb (b:Za) (s:Zi):Za×Zp:=
 if (Z9 (Kt b s) s).2.1=true then
  ({(Wu (Z9 (Kt b s) s).1 s).2 with now:=b.now+1},{Zku b with resp:=(Z9 (Kt b s) s).2.2,got:=(Wu (Z9 (Kt b s) s).1 s).1})
 else ({(Z9 (Kt b s) s).1 with now:=b.now+1},{Zku b with ready:=false,resp:=(Z9 (Kt b s) s).2.2})
structure Yz (n:Int) (b:Za):Prop where
 conf:X8 b.conf=true
 ml:b.m.length=b.conf.masters.length
 bl:b.buckets.length=b.conf.masters.length
 sl:b.splits.length=b.conf.masters.length
 mst:∀i,Zv b.conf i=true->Zw4 b.conf b i
 arb:Za0 b.arb b.conf=true
 last:b.last=-1\/Zv b.conf b.last=true
 model:Ze3 b.model
 alive:b.addr.live=true->Zaf b b.addr
 dlive:b.data_.live=true->Zaf b b.data_
 fly:∀i,Zv b.conf i=true->(atI b.m i).beat - (atI b.m i).done=K5 b i
 addr:K1 b
 data:Km b
 held:Zi8 b
 log:(∀d∈b.log,Z50 b.conf n d)/\b.log.Pairwise λx y=>x.cycle < y.cycle
theorem Zqm.i {b:Za} (h:Zqm b):Yz b.now b:=⟨h.conf,h.ml,h.bl,h.sl,h.mst,h.arb,h.last,h.model,h.alive,h.dlive,h.fly,h.addr,h.data,h.held,h.log⟩
theorem Z8q {α:Type} [Inhabited α] {xs:List α} {w i:Int} (a:α) (h0:0<=w) (h1:w < (xs.length:Int)) (hi:0<=i):atI (xs.set w.toNat a) i=if i=w then a else atI xs i:=by
 split
 .rename_i h;subst h;exact Zpa a h0 h1
 .rename_i h;exact Yk1 a h0 hi (λh2=>h h2.symm)
theorem Wb {c:Zk} {i:Int} (h:Zv c i=true):0<=i/\i < (c.masters.length:Int):=by simpa [Zv] using h
theorem Yz.at_m {n:Int} {b:Za} (h:Yz n b) {w:Int} (hw:Zv b.conf w=true) (x:Zb) {i:Int} (hi:Zv b.conf i=true):atI (b.m.set w.toNat x) i=if i=w then x else atI b.m i:=by
 have h1:=Wb hw;have h2:=Wb hi;exact Z8q x h1.1 (by have:=h.ml;omega) h2.1
theorem Zbl {n:Int} {b:Za} (h:Yz n b) (hl:b.addr.live=true):Zv b.conf b.addr.who=true:=(h.alive hl).1
theorem Qv {n:Int} {b:Za} (h:Yz n b) (hl:b.data_.live=true):Zv b.conf b.data_.who=true:=(h.dlive hl).1
theorem Yzt {m:Zb} {r:Zf} (hq:m.queue≠[]):(J0 m r).queue≠[]/\atI (J0 m r).queue 0=atI m.queue 0:=by
 unfold J0;split
 .exact⟨by simp,Ya4 hq⟩
 .exact⟨hq,rfl⟩
theorem Yj2 (m:Zb) (r:Zf):(J0 m r).beat=m.beat/\(J0 m r).done=m.done/\(J0 m r).tries=m.tries/\(J0 m r).parted=m.parted/\(J0 m r).broken=m.broken:=by
 unfold J0;split<;>exact⟨rfl,rfl,rfl,rfl,rfl⟩
theorem Yv9 {m:Zb} {r:Zf} (hq:m.queue≠[]):Yl (J0 m r)=Yl m:=by
 have h:=Yzt (r:=r) hq;have h2:=Yj2 m r;unfold Yl;rw[h.2,h2.2.2.2.2];simp[h.1,hq]
theorem Yph {m:Zb} (h:Yl m=true):m.queue≠[]:=by
 intro hq;simp[Yl,hq] at h
theorem Yye {n:Int} {b:Za} {p:Zl} (h:Yz n b):Yz n (Ku b p):=by
 unfold Ku;split
 .rename_i hw
  have ha:=λ{i} hi=>h.at_m hw (J0 (atI b.m p.who) p.req) (i:=i) hi;have hs:=Yj2 (atI b.m p.who) p.req;have hbd:∀i,Zv b.conf i=true->(atI (b.m.set p.who.toNat (J0 (atI b.m p.who) p.req)) i).beat=(atI b.m i).beat/\(atI (b.m.set p.who.toNat (J0 (atI b.m p.who) p.req)) i).done=(atI b.m i).done/\(atI (b.m.set p.who.toNat (J0 (atI b.m p.who) p.req)) i).tries=(atI b.m i).tries/\(atI (b.m.set p.who.toNat (J0 (atI b.m p.who) p.req)) i).parted=(atI b.m i).parted:=by
   intro i hi;rw[ha hi];split
   .rename_i e;subst e;exact⟨hs.1,hs.2.1,hs.2.2.1,hs.2.2.2.1⟩
   .exact⟨rfl,rfl,rfl,rfl⟩
  have hlk:∀i,Zv b.conf i=true->(atI b.m i).queue≠[]->Yl (atI (b.m.set p.who.toNat (J0 (atI b.m p.who) p.req)) i)=Yl (atI b.m i):=by
   intro i hi hq;rw[ha hi];split
   .rename_i e;subst e;exact Yv9 hq
   .rfl
  refine⟨h.conf,by simp[h.ml],h.bl,h.sl,λi hi=>?_,h.arb,h.last,h.model,h.alive,h.dlive,λi hi=>?_,?_,?_,?_,h.log⟩
  .have hm:=h.mst i hi
   refine⟨?_,by have:=(hbd i hi).2.2.1;simp only at this ⊢;rw[this];exact hm.tries,hm.bucket,hm.split⟩;show Yt (atI (b.m.set p.who.toNat (J0 (atI b.m p.who) p.req)) i);rw[ha hi];split
   .exact Yvt (h.mst _ hw).right
   .exact hm.right
  .show (atI (b.m.set p.who.toNat (J0 (atI b.m p.who) p.req)) i).beat - (atI (b.m.set p.who.toNat (J0 (atI b.m p.who) p.req)) i).done=K5 b i
   rw[(hbd i hi).1,(hbd i hi).2.1];exact h.fly i hi
  .have:=h.addr
   unfold K1 at this ⊢;simp only;by_cases hl:b.addr.live=true
   .rw[ZZj hl] at this ⊢
    rw[(hbd _ (Zbl h hl)).1];exact this
   .rw[ZZi hl] at this ⊢;exact this
  .have:=h.data
   unfold Km at this ⊢;simp only;by_cases hl:b.data_.live=true
   .rw[ZZj hl] at this ⊢
    have e:=hbd _ (Qv h hl);rw[e.2.1,e.2.2.1,e.2.2.2];exact this
   .rw[ZZi hl] at this ⊢;exact this
  .obtain⟨h1,h2⟩:=h.held
   refine⟨λi hi hb hk=>?_,?_⟩
   .simp only at hb hk
    have hi2:Zv b.conf i=true:=hi;rw[(hbd i hi2).1] at hb;have hq:(atI b.m i).queue≠[]:=by
     intro hq;have:=(h.mst i hi2).right.none hq;omega
    rw[hlk i hi2 hq] at hk;exact h1 i hi2 hb hk
   .simp only
    split
    .rename_i e;rw[ZZj e] at h2;exact h2
    .rename_i e
     rw[ZZi e] at h2;exact⟨h2.1,by rw[hlk _ h2.1 (Yph h2.2.1)];exact h2.2.1,h2.2.2⟩
 .exact h
theorem Zr6 {n:Int} {b:Za} (h:Yz n b) (ps:List Zl):Yz n (Xv b ps):=by
 induction ps generalizing b with
 | nil=>exact h
 | cons p ps ih=>exact ih (Yye h)
theorem Ypo (b:Za) (p:Zl):(Ku b p).conf=b.conf/\(Ku b p).now=b.now/\(Ku b p).picks=b.picks/\(Ku b p).log=b.log/\(Ku b p).model=b.model/\(Ku b p).holder=b.holder/\(Ku b p).held=b.held/\(Ku b p).addr=b.addr/\(Ku b p).data_=b.data_/\(Ku b p).splits=b.splits/\(Ku b p).buckets=b.buckets/\(Ku b p).arb=b.arb/\(Ku b p).last=b.last:=by
 unfold Ku;split<;>exact⟨rfl,rfl,rfl,rfl,rfl,rfl,rfl,rfl,rfl,rfl,rfl,rfl,rfl⟩
theorem Zms (b:Za) (ps:List Zl):(Xv b ps).conf=b.conf/\(Xv b ps).now=b.now/\(Xv b ps).picks=b.picks/\(Xv b ps).log=b.log/\(Xv b ps).model=b.model/\(Xv b ps).holder=b.holder/\(Xv b ps).held=b.held/\(Xv b ps).addr=b.addr/\(Xv b ps).data_=b.data_/\(Xv b ps).splits=b.splits/\(Xv b ps).buckets=b.buckets/\(Xv b ps).arb=b.arb/\(Xv b ps).last=b.last:=by
 induction ps generalizing b with
 | nil=>exact⟨rfl,rfl,rfl,rfl,rfl,rfl,rfl,rfl,rfl,rfl,rfl,rfl,rfl⟩
 | cons p ps ih=>
  have h1:=ih (Ku b p);have h2:=Ypo b p;simp only[h2] at h1;exact h1
theorem at_map {α β:Type} [Inhabited α] [Inhabited β] (f:α->β) {xs:List α} {i:Int} (h0:0<=i) (h1:i < (xs.length:Int)):atI (xs.map f) i=f (atI xs i):=by
 obtain⟨k,rfl⟩:∃k:Nat,i=k:=⟨i.toNat,by omega⟩;have hk:k < xs.length:=by omega
 rw[Ql hk,Ql (by simpa using hk)];simp
theorem at_zip {α β γ:Type} [Inhabited α] [Inhabited β] [Inhabited γ] (f:α->β->γ) {xs:List α} {ys:List β} {i:Int} (h0:0<=i) (h1:i < (xs.length:Int)) (h2:i < (ys.length:Int)):atI (List.zipWith f xs ys) i=f (atI xs i) (atI ys i):=by
 obtain⟨k,rfl⟩:∃k:Nat,i=k:=⟨i.toNat,by omega⟩;have hk:k < xs.length:=by omega
 have hk2:k < ys.length:=by omega
 rw[Ql hk,Ql hk2,Ql (by simp;omega)];simp
theorem Z5h {n:Int} {b:Za} (h:Yz n b):Yz n (Xg b):=by
 have hsp:∀i,Zv b.conf i=true->atI (b.splits.map λn=>max (n - 1) 0) i=max (atI b.splits i - 1) 0:=λi hi=>by
  have:=Wb hi;exact at_map _ this.1 (by have:=h.sl;omega)
 have hbu:∀i,Zv b.conf i=true->atI (List.zipWith Zsd b.buckets b.conf.masters) i=Zsd (atI b.buckets i) (atI b.conf.masters i):=λi hi=>by
  have:=Wb hi;exact at_zip _ this.1 (by have:=h.bl;omega) this.2
 have h0:∀i,Zv b.conf i=true->atI b.splits i=0->atI (b.splits.map λn=>max (n - 1) 0) i=0:=λi hi e=>by rw[hsp i hi,e];rfl
 refine⟨h.conf,h.ml,by simp[Xg,h.bl],by simp[Xg,h.sl],λi hi=>?_,h.arb,h.last,h.model,λhl=>?_,λhl=>?_,h.fly,h.addr,h.data,?_,h.log⟩
 .have hm:=h.mst i hi
  refine⟨hm.right,hm.tries,?_,?_⟩
  .show Y4 (atI (List.zipWith Zsd b.buckets b.conf.masters) i) _=true
   rw[hbu i hi];exact Y52 hm.bucket (Zkc h.conf hi)
  .show 0<=atI (b.splits.map λn=>max (n - 1) 0) i/\_
   have:=hm.split;have hx:=(Qk h.conf).2.2.2;show 0<=atI (b.splits.map λn=>max (n - 1) 0) i/\atI (b.splits.map λn=>max (n - 1) 0) i<=b.conf.maxSplit;rw[hsp i hi];omega
 .obtain⟨h1,h2,h3⟩:=h.alive hl
  exact⟨h1,h2,h0 _ h1 h3⟩
 .obtain⟨h1,h2,h3⟩:=h.dlive hl
  exact⟨h1,h2,h0 _ h1 h3⟩
 .obtain⟨h1,h2⟩:=h.held
  refine⟨h1,?_⟩;show if b.holder=-1 then b.held=0 else _
  split
  .rename_i e;rw[ZZj e] at h2;exact h2
  .rename_i e
   rw[ZZi e] at h2;exact⟨h2.1,h2.2.1,h0 _ h2.1 h2.2.2.1,h2.2.2.2⟩
theorem Yxe {n:Int} {b:Za} (h:Yz n b):Yz n (Js b):=by
 unfold Js;split
 .exact h
 .rename_i e
  refine⟨h.conf,h.ml,h.bl,h.sl,λi hi=>?_,h.arb,h.last,h.model,h.alive,h.dlive,h.fly,h.addr,h.data,?_,h.log⟩
  .have hm:=h.mst i hi;exact⟨hm.right,hm.tries,hm.bucket,hm.split⟩
  .obtain⟨h1,h2⟩:=h.held
   refine⟨h1,?_⟩;rw[ZZi e] at h2;show if b.holder=-1 then _ else _
   rw[ZZi e];have hl:=(Qk h.conf).2.2.1;refine⟨h2.1,h2.2.1,h2.2.2.1,?_⟩;have:=h2.2.2.2;show 0<=min (b.held+1) b.conf.lockMost/\min (b.held+1) b.conf.lockMost<=b.conf.lockMost;omega
theorem Yko {b b':Za} (h:Zi8 b) (hc:b'.conf=b.conf) (hh:b'.holder=b.holder) (hd:b'.held=b.held)
  (hm:∀i,Zv b.conf i=true->Yl (atI b'.m i)=Yl (atI b.m i)/\((atI b'.m i).beat > 0->(atI b.m i).beat > 0)) (hs:b.holder≠-1->atI b.splits b.holder=0->atI b'.splits b.holder=0):Zi8 b':=by
 obtain⟨h1,h2⟩:=h;unfold Zi8;rw[hc,hh,hd];refine⟨λi hi hb hk=>h1 i hi ((hm i hi).2 hb) (by rw[<-(hm i hi).1];exact hk),?_⟩;split
 .rename_i e;rw[ZZj e] at h2;exact h2
 .rename_i e
  rw[ZZi e] at h2;exact⟨h2.1,by rw[(hm _ h2.1).1];exact h2.2.1,hs e h2.2.2.1,h2.2.2.2⟩
theorem Ykr (m:Zb):(Zbn m).queue=m.queue/\(Zbn m).done=m.done/\(Zbn m).tries=m.tries/\(Zbn m).parted=m.parted/\(Zbn m).broken=m.broken:=by
 unfold Zbn;split<;>exact⟨rfl,rfl,rfl,rfl,rfl⟩
theorem Zs9 {m m':Zb} (h1:m'.queue=m.queue) (h2:m'.broken=m.broken):Yl m'=Yl m:=by
 unfold Yl;rw[h1,h2]
structure Y46 (b r:Za) (x:Zg):Prop where
 conf:r.conf=b.conf
 m:r.m=b.m.set x.who.toNat (Zbn (atI b.m x.who))
 bl:r.buckets.length=b.conf.masters.length
 bk:∀i,Zv b.conf i=true->Y4 (atI r.buckets i) (atI b.conf.masters i)=true
 arb:Za0 r.arb b.conf=true
 splits:r.splits=b.splits
 holder:r.holder=b.holder
 held:r.held=b.held
 addr:r.addr=b.addr
 data:r.data_=b.data_
 model:r.model=b.model
 log:r.log=b.log
 last:r.last=b.last
 now:r.now=b.now
 picks:r.picks=b.picks
theorem Z7s {b:Za} {x:Zg} (hc:X8 b.conf=true) (hw:Zv b.conf x.who=true) (hbl:b.buckets.length=b.conf.masters.length) (hbk:∀i,Zv b.conf i=true->Y4 (atI b.buckets i) (atI b.conf.masters i)=true) (har:Za0 b.arb b.conf=true):Y46 b (Wh b x) x:=by
 have hb:=Wb hw;unfold Wh;split
 .refine⟨rfl,rfl,by simp[hbl],λi hi=>?_,har,rfl,rfl,rfl,rfl,rfl,rfl,rfl,rfl,rfl,rfl⟩
  show Y4 (atI (b.buckets.set x.who.toNat _) i) _=true;rw[Z8q _ hb.1 (by omega) (Wb hi).1];split
  .rename_i e;subst e;exact Y3h (hbk _ hi) (Zkc hc hi)
  .exact hbk i hi
 .split
  .exact⟨rfl,rfl,hbl,hbk,Y3j _ har,rfl,rfl,rfl,rfl,rfl,rfl,rfl,rfl,rfl,rfl⟩
  .exact⟨rfl,rfl,hbl,hbk,har,rfl,rfl,rfl,rfl,rfl,rfl,rfl,rfl,rfl,rfl⟩
theorem Yz.mono {n:Int} {b:Za} (h:Yz n b):Yz (n+1) b:=
 ⟨h.conf,h.ml,h.bl,h.sl,h.mst,h.arb,h.last,h.model,h.alive,h.dlive,h.fly,h.addr,h.data,h.held,λd hd=>by have:=h.log.1 d hd;exact⟨⟨this.1.1,by have:=this.1.2;omega⟩,this.2⟩,h.log.2⟩
theorem Yuk {n:Int} {b:Za} (h:Yz n b) (hl:b.addr.live=true):(atI b.m b.addr.who).beat - (atI b.m b.addr.who).done≥1:=by
 rw[h.fly _ (Zbl h hl)];unfold K5;rw[ZZj ⟨hl,rfl⟩];split<;>omega
theorem Zud {n:Int} {b:Za} (h:Yz n b) (hl:b.data_.live=true):(atI b.m b.data_.who).beat - (atI b.m b.data_.who).done≥1:=by
 rw[h.fly _ (Qv h hl)];unfold K5;rw[ZZj (⟨hl,rfl⟩:b.data_.live=true/\b.data_.who=b.data_.who)];split<;>omega
theorem Yv6 {n:Int} {b:Za} (h:Yz n b) (hd:b.data_.live=true) (hl:b.data_.left > 0):Yz n {b with data_:={b.data_ with left:=b.data_.left - 1}}:=by
 refine⟨h.conf,h.ml,h.bl,h.sl,λi hi=>?_,h.arb,h.last,h.model,h.alive,λ_=>h.dlive hd,λi hi=>?_,h.addr,?_,h.held,h.log⟩
 .have hm:=h.mst i hi;exact⟨hm.right,hm.tries,hm.bucket,hm.split⟩
 .have:=h.fly i hi
  unfold K5 at this ⊢;exact this
 .have:=h.data
  unfold Km at this ⊢;rw[ZZj hd] at this;simp only;rw[ZZj hd];refine⟨⟨this.1.1,by have:=this.1.2.1;omega,this.1.2.2⟩,this.2.1,this.2.2.1,λhs=>?_⟩;have:=(this.2.2.2 hs).1;omega
theorem Yx5 {n:Int} {b:Za} (h:Yz n b) (hd:b.data_.live=true) (hl:b.data_.left=0) (hr:b.data_.resp≠0):
  Yz n (if b.addr.live then {Wh {b with data_:={b.data_ with second:=true}} b.addr with addr:=Zg.z0} else {b with data_:={b.data_ with second:=true}}):=by
 have Za2:=h.data;unfold Km at Za2;rw[ZZj hd] at Za2;by_cases ha:b.addr.live=true
 .rw[ZZj ha]
  have hw:=Zbl h ha;have hb:=Wb hw;have hf:=Z7s (b:={b with data_:={b.data_ with second:=true}}) (x:=b.addr) h.conf hw h.bl (λi hi=>(h.mst i hi).bucket) h.arb;generalize Wh {b with data_:={b.data_ with second:=true}} b.addr=r at hf;have hat:∀i,Zv b.conf i=true->atI r.m i=if i=b.addr.who then Zbn (atI b.m b.addr.who) else atI b.m i:=λi hi=>by
   rw[hf.m];exact h.at_m hw _ hi
  have hs:=Ykr (atI b.m b.addr.who);have hsm:∀i,Zv b.conf i=true->(atI r.m i).queue=(atI b.m i).queue/\(atI r.m i).done=(atI b.m i).done/\(atI r.m i).tries=(atI b.m i).tries/\(atI r.m i).parted=(atI b.m i).parted/\(atI r.m i).broken=(atI b.m i).broken:=λi hi=>by
   rw[hat i hi];split
   .rename_i e;subst e;exact hs
   .exact⟨rfl,rfl,rfl,rfl,rfl⟩
  have hp:=Yuk h ha;have hbt:(Zbn (atI b.m b.addr.who)).beat=(atI b.m b.addr.who).beat - 1:=by
   unfold Zbn;rw[ZZi (by omega)]
  refine⟨by rw[show ({r with addr:=Zg.z0}:Za).conf=r.conf from rfl,hf.conf];exact h.conf,?_,?_,?_,λi hi=>?_,?_,?_,?_,λhx=>?_,λhx=>?_,λi hi=>?_,?_,?_,?_,?_⟩
  .show r.m.length=r.conf.masters.length
   rw[hf.m,hf.conf];simp[h.ml]
  .show r.buckets.length=r.conf.masters.length
   rw[hf.bl,hf.conf]
  .show r.splits.length=r.conf.masters.length
   rw[hf.splits,hf.conf];exact h.sl
  .have Ym:Zv b.conf i=true:=by rw[<-show r.conf=b.conf from hf.conf];exact hi
   have hm:=h.mst i Ym;refine⟨?_,?_,?_,?_⟩
   .show Yt (atI r.m i)
    rw[hat i Ym];split
    .exact Ygl (h.mst _ hw).right
    .exact hm.right
   .show (atI r.m i).tries<=r.conf.maxRetry
    rw[(hsm i Ym).2.2.1,hf.conf];exact hm.tries
   .show Y4 (atI r.buckets i) (atI r.conf.masters i)=true
    rw[hf.conf];exact hf.bk i Ym
   .show 0<=atI r.splits i/\atI r.splits i<=r.conf.maxSplit
    rw[hf.splits,hf.conf];exact hm.split
  .show Za0 r.arb r.conf=true
   rw[hf.conf];exact hf.arb
  .show r.last=-1\/Zv r.conf r.last=true
   rw[hf.last,hf.conf];exact h.last
  .show Ze3 r.model
   rw[hf.model];exact h.model
  .cases hx
  .have hx':r.data_.live=true:=hx
   obtain⟨h1,h2,h3⟩:=h.dlive hd;refine⟨?_,?_,?_⟩
   .show Zv r.conf r.data_.who=true
    rw[hf.conf,hf.data];exact h1
   .show 1<=r.data_.by_/\r.data_.by_<=3
    rw[hf.data];exact h2
   .show atI r.splits r.data_.who=0
    rw[hf.splits,hf.data];exact h3
  .have Ym:Zv b.conf i=true:=by rw[<-show r.conf=b.conf from hf.conf];exact hi
   show (atI r.m i).beat - (atI r.m i).done=K5 {r with addr:=Zg.z0} i;have Kc:=h.fly i Ym;unfold K5 at Kc ⊢;simp only[hf.data];rw[(hsm i Ym).2.1,hat i Ym];by_cases e:i=b.addr.who
   .subst e
    rw[ZZj rfl,hbt];rw[ZZj ⟨ha,rfl⟩] at Kc;simp only[ZZf,false_and,if_false];omega
   .rw[ZZi e]
    rw[ZZi (λhx=>e hx.2.symm)] at Kc;simp only[ZZf,false_and,if_false];exact Kc
  .unfold K1
   simp
  .unfold Km
   show if r.data_.live=true then _ else _
   simp only[hf.data,hf.conf,hf.holder];rw[ZZj hd];have e:=hsm _ (Qv h hd);rw[e.2.1,e.2.2.1,e.2.2.2.1];exact⟨Za2.1,Za2.2.1,Za2.2.2.1,λ_=>⟨hl,hr,trivial⟩⟩
  .refine Yko (b:=b) h.held hf.conf hf.holder hf.held (λi hi=>⟨Zs9 (hsm i hi).1 (hsm i hi).2.2.2.2,λhx=>?_⟩) (λ_ hx=>by show atI r.splits b.holder=0;rw[hf.splits];exact hx)
   show (atI b.m i).beat > 0;have hx':(atI r.m i).beat > 0:=hx;rw[hat i hi] at hx';split at hx'
   .rename_i e;subst e;rw[hbt] at hx';omega
   .exact hx'
  .show (∀d∈r.log,Z50 r.conf n d)/\r.log.Pairwise _
   rw[hf.log,hf.conf];exact h.log
 .rw[ZZi ha]
  refine⟨h.conf,h.ml,h.bl,h.sl,λi hi=>?_,h.arb,h.last,h.model,h.alive,λ_=>h.dlive hd,λi hi=>?_,h.addr,?_,h.held,h.log⟩
  .have hm:=h.mst i hi;exact⟨hm.right,hm.tries,hm.bucket,hm.split⟩
  .have:=h.fly i hi
   unfold K5 at this ⊢;exact this
  .unfold Km
   simp only;rw[ZZj hd];exact⟨Za2.1,Za2.2.1,Za2.2.2.1,λ_=>⟨hl,hr,by simpa using ha⟩⟩
theorem Yes {n:Int} {b:Za} (h:Yz n b) (hd:b.data_.live=true) (ha:b.addr.live=false) (x:Zb) (sp:List Int) (hq:x.queue=(atI b.m b.data_.who).queue) (hbe:x.beat=(atI b.m b.data_.who).beat) (hdo:x.done=(atI b.m b.data_.who).done) (hbr:x.broken=(atI b.m b.data_.who).broken)
  (ht:0<=x.tries/\x.tries<=b.conf.maxRetry) (hsl:sp.length=b.splits.length) (hsp:∀i,Zv b.conf i=true->0<=atI sp i/\atI sp i<=b.conf.maxSplit) (hsh:b.holder≠-1->atI b.splits b.holder=0->atI sp b.holder=0):
  Yz n (Wh {b with data_:=Zg.z0,m:=b.m.set b.data_.who.toNat x,splits:=sp} b.data_):=by
 have hw:=Qv h hd;have hb:=Wb hw;have hf:=Z7s (b:={b with data_:=Zg.z0,m:=b.m.set b.data_.who.toNat x,splits:=sp}) (x:=b.data_) h.conf hw h.bl (λi hi=>(h.mst i hi).bucket) h.arb;generalize Wh {b with data_:=Zg.z0,m:=b.m.set b.data_.who.toNat x,splits:=sp} b.data_=r at hf;have hmw:=(h.mst _ hw).right;have hp:=Zud h hd;have Yh:(atI b.m b.data_.who).queue≠[]:=Zg1 hmw (by omega);have hxr:Yt x:=by
  have h2:=hmw.some Yh;refine⟨by rw[hq];exact hmw.len,ht.1,by rw[hq];exact hmw.reqs,λhx=>absurd (by rw[<-hq];exact hx) Yh,λ_=>?_⟩;have:Z0 x=Z0 (atI b.m b.data_.who):=by unfold Z0;rw[hq]
  rw[this,hbe,hdo];exact h2
 have hxx:atI (b.m.set b.data_.who.toNat x) b.data_.who=x:=Zpa x hb.1 (by have:=h.ml;omega);have hat:∀i,Zv b.conf i=true->atI r.m i=if i=b.data_.who then Zbn x else atI b.m i:=λi hi=>by
  have Ym:=Wb hi;rw[hf.m];show atI ((b.m.set b.data_.who.toNat x).set b.data_.who.toNat (Zbn (atI (b.m.set b.data_.who.toNat x) b.data_.who))) i=_;rw[hxx,Vei];exact h.at_m hw _ hi
 have hs:=Ykr x;have hbt:(Zbn x).beat=(atI b.m b.data_.who).beat - 1:=by
  unfold Zbn;rw[ZZi (by rw[hbe,hdo];omega)];simp only[hbe]
 have hbz:Zg.z0.live=false:=rfl;refine⟨by rw[hf.conf];exact h.conf,?_,?_,?_,λi hi=>?_,?_,?_,?_,λhx=>?_,λhx=>?_,λi hi=>?_,?_,?_,?_,?_⟩
 .rw[hf.m,hf.conf];simp[h.ml]
 .rw[hf.bl,hf.conf]
 .rw[hf.splits,hf.conf];show sp.length=_;rw[hsl];exact h.sl
 .have Ym:Zv b.conf i=true:=by rw[<-show r.conf=b.conf from hf.conf];exact hi
  have hm:=h.mst i Ym;refine⟨?_,?_,?_,?_⟩
  .rw[hat i Ym]
   split
   .exact Ygl hxr
   .exact hm.right
  .rw[hat i Ym,hf.conf]
   split
   .rw[hs.2.2.1];exact ht.2
   .exact hm.tries
  .rw[hf.conf];exact hf.bk i Ym
  .rw[hf.splits,hf.conf];exact hsp i Ym
 .rw[hf.conf];exact hf.arb
 .rw[hf.last,hf.conf];exact h.last
 .rw[hf.model];exact h.model
 .rw[hf.addr] at hx;rw[show ({b with data_:=Zg.z0,m:=b.m.set b.data_.who.toNat x,splits:=sp}:Za).addr=b.addr from rfl,ha] at hx;cases hx
 .rw[hf.data] at hx;cases hx
 .have Ym:Zv b.conf i=true:=by rw[<-show r.conf=b.conf from hf.conf];exact hi
  have Kc:=h.fly i Ym;unfold K5 at Kc ⊢;rw[hf.data,hf.addr,hat i Ym];show _=(if b.addr.live=true/\b.addr.who=i then (1:Int) else 0)+(if Zg.z0.live=true/\Zg.z0.who=i then 1 else 0);rw[ha] at Kc ⊢;simp only[ZZf,false_and,if_false] at Kc ⊢;by_cases e:i=b.data_.who
  .subst e
   rw[ZZj rfl,hbt,hs.2.1,hdo];rw[ZZj (⟨hd,rfl⟩:b.data_.live=true/\b.data_.who=b.data_.who)] at Kc;omega
  .rw[ZZi e]
   rw[ZZi (λhx=>e hx.2.symm)] at Kc;exact Kc
 .have:=h.addr
  unfold K1 at this ⊢;rw[hf.addr];show if b.addr.live=true then _ else _
  rw[ha] at this ⊢;exact this
 .unfold Km
  rw[hf.data];show if Zg.z0.live=true then _ else _
  rw[ZZi (by simp)]
 .refine Yko (b:=b) h.held hf.conf hf.holder hf.held (λi hi=>?_) (λh1 h2=>by rw[hf.splits];exact hsh h1 h2)
  rw[hat i hi];split
  .rename_i e;subst e
   refine⟨Zs9 (by rw[hs.1,hq]) (by rw[hs.2.2.2.2,hbr]),λhx=>?_⟩;rw[hbt] at hx;omega
  .exact⟨rfl,id⟩
 .rw[hf.log,hf.conf];exact h.log
theorem Z7h {m:Zb} (h:Yt m) (hp:m.beat - m.done≥1):(m.done+1=Z0 m->m.beat - m.done=1/\(Ji m).queue=m.queue.tail/\(Ji m).beat=0/\(Ji m).done=0/\(Ji m).tries=0)/\
  (m.done+1≠Z0 m->(Ji m).queue=m.queue/\(Ji m).beat=m.beat/\(Ji m).done=m.done+1/\(Ji m).tries=0/\(Ji m).broken=m.broken/\(Ji m).parted=false):=by
 have h1:=h.some (Zg1 h (by omega));unfold Ji;constructor
 .intro e
  rw[ZZi (by omega),ZZj e];exact⟨by omega,rfl,rfl,rfl,rfl⟩
 .intro e
  rw[ZZi (by omega),ZZi e];exact⟨rfl,rfl,rfl,rfl,rfl,rfl⟩
theorem Yka {m:Zb} {k:Int} (h:Yt m) (h0:0<=k) (h1:k < Z0 m) (hw:(atI m.queue 0).write=true):0<=k/\k < ((atI m.queue 0).data_.length:Int):=by
 have hq:m.queue≠[]:=by
  intro hq;unfold Z0 at h1;rw[ZZj hq] at h1;omega
 obtain⟨h2,h3,h4⟩:=Zu3 h hq;have h5:=(Zil h2).2.1;rw[ZZj hw] at h5;omega
theorem Z7p {n:Int} {b:Za} (h:Yz n b) (hd:b.data_.live=true):0<=b.data_.beat/\b.data_.beat < Z0 (atI b.m b.data_.who):=by
 have hw:=Qv h hd;have hp:=Zud h hd;have hr:=(h.mst _ hw).right;have h1:=hr.some (Zg1 hr (by omega));have h2:=h.data;unfold Km at h2;rw[ZZj hd] at h2;rw[h2.1.1];omega
theorem Z7v {n:Int} {b:Za} (h:Yz n b) (hl:b.addr.live=true):0<=b.addr.beat/\b.addr.beat < Z0 (atI b.m b.addr.who):=by
 have hw:=Zbl h hl;have hp:=Yuk h hl;have hr:=(h.mst _ hw).right;have h1:=hr.some (Zg1 hr (by omega));have h2:=h.addr;unfold K1 at h2;rw[ZZj hl] at h2;rw[h2.1];omega
theorem Ysa {b:Za} (hn:0<=b.now) (h:Yz b.now b) (hd:b.data_.live=true) (hr:b.data_.resp=0\/b.data_.resp=1) (Z3h:b.data_.resp≠0->b.addr.live=false):Yz (b.now+1) (Zfy {b with data_:=Zg.z0} b.data_):=by
 have hw:=Qv h hd;have hb:=Wb hw;have hmw:=(h.mst _ hw).right;have hp:=Zud h hd;have Yh:(atI b.m b.data_.who).queue≠[]:=Zg1 hmw (by omega);have hbt:=Z7p h hd;have had:=Ym5 hmw hbt.1 hbt.2;have Za2:=h.data;unfold Km at Za2;rw[ZZj hd] at Za2;have Yyy:=Yhe (w:=(atI (atI b.m b.data_.who).queue 0).write) (v:=Zqw (atI b.m b.data_.who) b.data_.beat) h.model had.2.1;have hef:=Z7h hmw hp;have hat:∀i,Zv b.conf i=true->atI (b.m.set b.data_.who.toNat (Ji (atI b.m b.data_.who))) i=if i=b.data_.who then Ji (atI b.m b.data_.who) else atI b.m i:=λi hi=>h.at_m hw _ hi
 have Y4e:(atI b.m b.data_.who).done+1=Z0 (atI b.m b.data_.who)->b.addr.live=true->b.addr.who≠b.data_.who:=by
  intro e hl e2;have h1:=(hef.1 e).1;have h2:=h.fly _ hw;unfold K5 at h2;rw[ZZj (⟨hl,e2⟩:b.addr.live=true/\b.addr.who=b.data_.who),ZZj (⟨hd,rfl⟩:b.data_.live=true/\b.data_.who=b.data_.who)] at h2;omega
 have hz:Xz 0 (atI (atI b.m b.data_.who).queue 0).size=true:=by
  have h1:=(Zq6 _).1 (Zbw had.2.1).1;generalize (atI (atI b.m b.data_.who).queue 0).size=s at h1;have:s=0\/s=1\/s=2:=by omega
  rcases this with rfl|rfl|rfl<;>decide
 refine⟨h.conf,?_,h.bl,h.sl,λi hi=>?_,h.arb,h.last,?_,h.alive,(λhx=>by cases hx),λi hi=>?_,?_,?_,?_,?_⟩
 .show (b.m.set b.data_.who.toNat (Ji (atI b.m b.data_.who))).length=_
  rw[Vbf];exact h.ml
 .have Ym:Zv b.conf i=true:=hi
  have hm:=h.mst i Ym;refine⟨?_,?_,hm.bucket,hm.split⟩
  .show Yt (atI (b.m.set b.data_.who.toNat (Ji (atI b.m b.data_.who))) i)
   rw[hat i Ym];split
   .exact Yzc hmw
   .exact hm.right
  .show (atI (b.m.set b.data_.who.toNat (Ji (atI b.m b.data_.who))) i).tries<=b.conf.maxRetry
   rw[hat i Ym];split
   .have hl:=(Qk h.conf).1
    by_cases e:(atI b.m b.data_.who).done+1=Z0 (atI b.m b.data_.who)
    .rw[(hef.1 e).2.2.2.2];omega
    .rw[(hef.2 e).2.2.2.1];omega
   .exact hm.tries
 .show Ze3 (if b.data_.resp=0 then (doG {b with data_:=Zg.z0} b.data_).1 else b.model)
  split
  .exact Yyy.1
  .exact h.model
 .have Ym:Zv b.conf i=true:=hi
  have Kc:=h.fly i Ym;show (atI (b.m.set b.data_.who.toNat (Ji (atI b.m b.data_.who))) i).beat - (atI (b.m.set b.data_.who.toNat (Ji (atI b.m b.data_.who))) i).done=K5 (Zfy {b with data_:=Zg.z0} b.data_) i;unfold K5 at Kc ⊢;show _=(if b.addr.live=true/\b.addr.who=i then (1:Int) else 0)+(if Zg.z0.live=true/\Zg.z0.who=i then 1 else 0);rw[hat i Ym];simp only[ZZf,false_and,if_false];by_cases e:i=b.data_.who
  .subst e
   rw[ZZj rfl];rw[ZZj (⟨hd,rfl⟩:b.data_.live=true/\b.data_.who=b.data_.who)] at Kc;by_cases e2:(atI b.m b.data_.who).done+1=Z0 (atI b.m b.data_.who)
   .rw[(hef.1 e2).2.2.1,(hef.1 e2).2.2.2.1,ZZi (λhx=>Y4e e2 hx.1 hx.2)]
    rfl
   .rw[(hef.2 e2).2.1,(hef.2 e2).2.2.1]
    omega
  .rw[ZZi e]
   rw[ZZi (λhx:b.data_.live=true/\b.data_.who=i=>e hx.2.symm)] at Kc;omega
 .have hA:=h.addr
  unfold K1 at hA ⊢;show if b.addr.live=true then _ else _
  by_cases hl:b.addr.live=true
  .rw[ZZj hl] at hA ⊢
   show b.addr.beat=(atI (b.m.set b.data_.who.toNat (Ji (atI b.m b.data_.who))) b.addr.who).beat - 1/\_;rw[hat _ (Zbl h hl)];split
   .rename_i e
    have e2:¬(atI b.m b.data_.who).done+1=Z0 (atI b.m b.data_.who):=λe2=>Y4e e2 hl e;rw[(hef.2 e2).2.1,<-e];exact hA
   .exact hA
  .rw[ZZi hl] at hA ⊢;exact hA
 .unfold Km
  show if Zg.z0.live=true then _ else _
  rw[ZZi (by simp)];rfl
 .obtain⟨h1,h2⟩:=h.held
  show Zi8 (Zfy {b with data_:=Zg.z0} b.data_);unfold Zi8;show (∀i,Zv b.conf i=true->(atI (b.m.set b.data_.who.toNat (Ji (atI b.m b.data_.who))) i).beat > 0->Yl (atI (b.m.set b.data_.who.toNat (Ji (atI b.m b.data_.who))) i)=true->(if b.holder=b.data_.who/\(atI b.m b.data_.who).done+1=Z0 (atI b.m b.data_.who) then -1 else b.holder)=i)/\
   (if (if b.holder=b.data_.who/\(atI b.m b.data_.who).done+1=Z0 (atI b.m b.data_.who) then -1 else b.holder)=-1 then (if b.holder=b.data_.who/\(atI b.m b.data_.who).done+1=Z0 (atI b.m b.data_.who) then 0 else b.held)=0 else Zv b.conf (if b.holder=b.data_.who/\(atI b.m b.data_.who).done+1=Z0 (atI b.m b.data_.who) then -1 else b.holder)=true/\Yl (atI (b.m.set b.data_.who.toNat (Ji (atI b.m b.data_.who))) (if b.holder=b.data_.who/\(atI b.m b.data_.who).done+1=Z0 (atI b.m b.data_.who) then -1 else b.holder))=true/\atI b.splits (if b.holder=b.data_.who/\(atI b.m b.data_.who).done+1=Z0 (atI b.m b.data_.who) then -1 else b.holder)=0/\(0<=(if b.holder=b.data_.who/\(atI b.m b.data_.who).done+1=Z0 (atI b.m b.data_.who) then 0 else b.held)/\(if b.holder=b.data_.who/\(atI b.m b.data_.who).done+1=Z0 (atI b.m b.data_.who) then 0 else b.held)<=b.conf.lockMost))
  have Zif:∀i,Zv b.conf i=true->(atI (b.m.set b.data_.who.toNat (Ji (atI b.m b.data_.who))) i).beat > 0->Yl (atI (b.m.set b.data_.who.toNat (Ji (atI b.m b.data_.who))) i)=true->b.holder=i/\¬(i=b.data_.who/\(atI b.m b.data_.who).done+1=Z0 (atI b.m b.data_.who)):=by
   intro i hi hx hk;rw[hat i hi] at hx hk;by_cases e:i=b.data_.who
   .rw[ZZj e] at hx hk
    by_cases e2:(atI b.m b.data_.who).done+1=Z0 (atI b.m b.data_.who)
    .rw[(hef.1 e2).2.2.1] at hx;omega
    .have e3:=hef.2 e2
     rw[e3.2.1] at hx;rw[Zs9 e3.1 e3.2.2.2.2.1] at hk;subst e;exact⟨h1 _ hi hx hk,λhy=>e2 hy.2⟩
   .rw[ZZi e] at hx hk
    exact⟨h1 i hi hx hk,λhy=>e hy.1⟩
  by_cases e:b.holder=b.data_.who/\(atI b.m b.data_.who).done+1=Z0 (atI b.m b.data_.who)
  .simp only[ZZj e,if_true]
   refine⟨λi hi hx hk=>?_,trivial⟩;have:=Zif i hi hx hk;exact absurd ⟨by rw[<-this.1];exact e.1,e.2⟩ this.2
  .simp only[ZZi e]
   refine⟨λi hi hx hk=>(Zif i hi hx hk).1,?_⟩;split
   .rename_i e2;rw[ZZj e2] at h2;exact h2
   .rename_i e2
    rw[ZZi e2] at h2;refine⟨h2.1,?_,h2.2.2.1,h2.2.2.2⟩;rw[hat _ h2.1];split
    .rename_i e3
     have e4:¬(atI b.m b.data_.who).done+1=Z0 (atI b.m b.data_.who):=λe4=>e ⟨e3,e4⟩;rw[Zs9 (hef.2 e4).1 (hef.2 e4).2.2.2.2.1,<-e3];exact h2.2.1
    .exact h2.2.1
 .show (∀d∈b.log++[Ygq {b with data_:=Zg.z0} b.data_],Z50 b.conf (b.now+1) d)/\(b.log++[Ygq {b with data_:=Zg.z0} b.data_]).Pairwise _
  refine⟨λd hx=>?_,?_⟩
  .rcases Var.1 hx with hx|hx
   .have:=h.log.1 d hx
    exact⟨⟨this.1.1,by have:=this.1.2;omega⟩,this.2⟩
   .rw[List.mem_singleton.1 hx]
    refine⟨⟨hn,by show b.now < b.now+1;omega⟩,hw,had.2.1,had.2.2.2,?_,hr⟩;show Xz (if b.data_.resp=0 then (doG {b with data_:=Zg.z0} b.data_).2.1 else 0) (atI (atI b.m b.data_.who).queue 0).size=true;split
    .exact Yyy.2.1
    .exact hz
  .rw[List.pairwise_append]
   refine⟨h.log.2,List.pairwise_singleton _ _,λx hx y hy=>?_⟩;rw[List.mem_singleton.1 hy];exact (h.log.1 x hx).1.2
theorem Y27 {c:Zk} (h:X8 c=true) (s:Zi) (k:Int):1<=Zh5 c s k/\Zh5 c s k<=c.maxSplit:=by
 have:=(Qk h).2.2.2;unfold Zh5;omega
theorem Z7k {b:Za} (s:Zi) (hn:0<=b.now) (h:Yz b.now b):Yz (b.now+1) (Z9 b s).1/\((Z9 b s).2.1=true->(Z9 b s).1.data_=Zg.z0):=by
 unfold Z9;by_cases hd:b.data_.live=false
 .rw[ZZj hd]
  refine⟨h.mono,λ_=>?_⟩;have:=h.data;unfold Km at this;rw[ZZi (by simp[hd])] at this;exact this
 .have hd':b.data_.live=true:=by simpa using hd
  have Za2:=h.data;unfold Km at Za2;rw[ZZj hd'] at Za2;rw[ZZi hd];by_cases hl:b.data_.left > 0
  .rw[ZZj hl]
   exact⟨(Yv6 h hd' hl).mono,λhx=>by cases hx⟩
  .have hl0:b.data_.left=0:=by have:=Za2.1.2.1;omega
   rw[ZZi hl];by_cases h2:b.data_.resp≠0/\b.data_.second=false
   .rw[ZZj h2]
    exact⟨(Yx5 h hd' hl0 h2.1).mono,λhx=>by cases hx⟩
   .rw[ZZi h2]
    have Z3h:b.data_.resp≠0->b.addr.live=false:=λhr=>by
     have:b.data_.second=true:=by
      cases hs:b.data_.second with
      | true=>rfl
      | false=>exact absurd ⟨hr,hs⟩ h2
     exact (Za2.2.2.2 this).2.2
    have hw:=Qv h hd';have hm:=h.mst _ hw;by_cases h3:b.data_.resp=2
    .rw[ZZj h3]
     refine⟨?_,λ_=>?_⟩
     .refine (Yes h hd' (Z3h (by omega)) {atI b.m b.data_.who with tries:=(atI b.m b.data_.who).tries+1} b.splits rfl rfl rfl rfl ⟨?_,?_⟩ rfl (λi hi=>(h.mst i hi).split) λ_ h=>h).mono
      .have:=hm.right.tries;show 0<=(atI b.m b.data_.who).tries+1;omega
      .have:=Za2.2.1 h3;show (atI b.m b.data_.who).tries+1<=_;omega
     .unfold Wh;split
      .rfl
      .split<;>rfl
    .rw[ZZi h3]
     by_cases h4:b.data_.resp=3
     .rw[ZZj h4]
      have hsp:=Y27 h.conf s b.picks;refine⟨?_,λ_=>?_⟩
      .refine (Yes h hd' (Z3h (by omega)) {atI b.m b.data_.who with parted:=true} (b.splits.set b.data_.who.toNat (Zh5 b.conf s b.picks)) rfl rfl rfl rfl ⟨hm.right.tries,hm.tries⟩ (by simp) (λi hi=>?_) λh5 h6=>?_).mono
       .have hb:=Wb hw
        rw[Z8q _ hb.1 (by have:=h.sl;omega) (Wb hi).1];split
        .omega
        .exact (h.mst i hi).split
       .have hb:=Wb hw
        have hh:Zv b.conf b.holder=true:=by
         have:=h.held.2;rw[ZZi h5] at this;exact this.1
        rw[Z8q _ hb.1 (by have:=h.sl;omega) (Wb hh).1,ZZi (λe=>(Za2.2.2.1 h4).2 e.symm)];exact h6
      .unfold Wh;split
       .rfl
       .split<;>rfl
     .rw[ZZi h4]
      exact⟨Ysa hn h hd' (by have:=Za2.1.2.2;omega) Z3h,λ_=>rfl⟩
theorem Zew {n:Int} {b:Za} (h:Yz n b) (e:b.holder≠-1):Zv b.conf b.holder=true/\Yl (atI b.m b.holder)=true/\atI b.splits b.holder=0/\(0<=b.held/\b.held<=b.conf.lockMost):=by
 have:=h.held.2;rw[ZZi e] at this;exact this
theorem Ydt {n:Int} {b:Za} (h:Yz n b):Yz n (Xd b):=by
 unfold Xd;split
 .rename_i hx
  obtain⟨hw,hlk,_,_⟩:=Zew h hx.1;have hb:=Wb hw;have hat:∀i,Zv b.conf i=true->atI (b.m.set b.holder.toNat {atI b.m b.holder with broken:=true}) i=if i=b.holder then {atI b.m b.holder with broken:=true} else atI b.m i:=λi hi=>h.at_m hw _ hi
  have hsm:∀i,Zv b.conf i=true->(atI (b.m.set b.holder.toNat {atI b.m b.holder with broken:=true}) i).beat=(atI b.m i).beat/\(atI (b.m.set b.holder.toNat {atI b.m b.holder with broken:=true}) i).done=(atI b.m i).done/\(atI (b.m.set b.holder.toNat {atI b.m b.holder with broken:=true}) i).tries=(atI b.m i).tries/\(atI (b.m.set b.holder.toNat {atI b.m b.holder with broken:=true}) i).parted=(atI b.m i).parted:=by
   intro i hi;rw[hat i hi];split
   .rename_i e;subst e;exact⟨rfl,rfl,rfl,rfl⟩
   .exact⟨rfl,rfl,rfl,rfl⟩
  refine⟨h.conf,?_,h.bl,h.sl,λi hi=>?_,h.arb,h.last,h.model,h.alive,h.dlive,λi hi=>?_,?_,?_,?_,h.log⟩
  .show (b.m.set b.holder.toNat _).length=_
   rw[Vbf];exact h.ml
  .have Ym:Zv b.conf i=true:=hi
   have hm:=h.mst i Ym;refine⟨?_,?_,hm.bucket,hm.split⟩
   .show Yt (atI (b.m.set b.holder.toNat {atI b.m b.holder with broken:=true}) i)
    rw[hat i Ym];split
    .have hr:=(h.mst _ hw).right
     exact⟨hr.len,hr.tries,hr.reqs,λhq=>absurd (show (atI b.m b.holder).queue=[] from hq) (Yph hlk),hr.some⟩
    .exact hm.right
   .show (atI (b.m.set b.holder.toNat {atI b.m b.holder with broken:=true}) i).tries<=b.conf.maxRetry
    rw[(hsm i Ym).2.2.1];exact hm.tries
  .have Ym:Zv b.conf i=true:=hi
   show (atI (b.m.set b.holder.toNat {atI b.m b.holder with broken:=true}) i).beat - (atI (b.m.set b.holder.toNat {atI b.m b.holder with broken:=true}) i).done=K5 b i;rw[(hsm i Ym).1,(hsm i Ym).2.1];exact h.fly i Ym
  .have:=h.addr
   unfold K1 at this ⊢;show if b.addr.live=true then b.addr.beat=(atI (b.m.set b.holder.toNat {atI b.m b.holder with broken:=true}) b.addr.who).beat - 1/\_ else _
   by_cases hl:b.addr.live=true
   .rw[ZZj hl] at this ⊢
    rw[(hsm _ (Zbl h hl)).1];exact this
   .rw[ZZi hl] at this ⊢;exact this
  .have:=h.data
   unfold Km at this ⊢;show if b.data_.live=true then _ else _
   by_cases hl:b.data_.live=true
   .rw[ZZj hl] at this ⊢
    have e:=hsm _ (Qv h hl);show (b.data_.beat=(atI (b.m.set b.holder.toNat {atI b.m b.holder with broken:=true}) b.data_.who).done/\_)/\(_->(atI (b.m.set b.holder.toNat {atI b.m b.holder with broken:=true}) b.data_.who).tries < _)/\(_->(atI (b.m.set b.holder.toNat {atI b.m b.holder with broken:=true}) b.data_.who).parted=false/\b.data_.who≠-1)/\_;rw[e.2.1,e.2.2.1,e.2.2.2];exact⟨this.1,this.2.1,λh3=>⟨(this.2.2.1 h3).1,by have:=Wb (Qv h hl);omega⟩,this.2.2.2⟩
   .rw[ZZi hl] at this ⊢;exact this
  .refine⟨λi hi hx2 hk=>?_,?_⟩
   .have Ym:Zv b.conf i=true:=hi
    have hx3:(atI (b.m.set b.holder.toNat {atI b.m b.holder with broken:=true}) i).beat > 0:=hx2;have hk3:Yl (atI (b.m.set b.holder.toNat {atI b.m b.holder with broken:=true}) i)=true:=hk;rw[hat i Ym] at hx3 hk3;split at hk3
    .simp[Yl] at hk3
    .rename_i e
     rw[ZZi e] at hx3;exact absurd (h.held.1 i Ym hx3 hk3).symm e
   .show if (-1:Int)=-1 then (0:Int)=0 else _
    rw[ZZj rfl]
 .exact h
theorem Zxh (b:Za):(Xd b).data_=b.data_/\(Xd b).addr=b.addr/\(Xd b).picks=b.picks/\(Xd b).now=b.now/\(Xd b).conf=b.conf/\(Xd b).log=b.log/\(Xd b).model=b.model:=by
 unfold Xd;split<;>exact⟨rfl,rfl,rfl,rfl,rfl,rfl,rfl⟩
theorem Yid {c:Zk} (h:X8 c=true) (s:Zi) (k:Int):0<=Zpz c s k/\Zpz c s k<=c.maxWait:=by
 have:=(Qk h).2.1;unfold Zpz;omega
theorem Y0y {n:Int} {b:Za} (h:Yz n b) (s:Zi) (hl:b.addr.live=true):(0<=(Zdd b s b.addr).2/\(Zdd b s b.addr).2<=b.conf.maxWait+2)/\(0<=(Zdd b s b.addr).1/\(Zdd b s b.addr).1<=3)/\
  ((Zdd b s b.addr).1=2->(atI b.m b.addr.who).tries < b.conf.maxRetry)/\((Zdd b s b.addr).1=3->(atI b.m b.addr.who).parted=false/\b.addr.who≠b.holder):=by
 have hw:=Zbl h hl;have hm:=(h.mst _ hw).right;have hbt:=Z7v h hl;have had:=Ym5 hm hbt.1 hbt.2;have Yyy:=(Yhe (w:=(atI (atI b.m b.addr.who).queue 0).write) (v:=Zqw (atI b.m b.addr.who) b.addr.beat) h.model had.2.1).2.2;have hwt:=Yid h.conf s b.picks;have hlm:=(Qk h.conf).2.1;have hdo:(doG b b.addr).2.2=0\/(doG b b.addr).2.2=1:=Yyy;unfold Zdd;split
 .exact⟨by simp;omega,by simp,by simp,by simp⟩
 .refine⟨?_,?_,?_,?_⟩
  .simp only
   split<;>omega
  .simp only
   repeat' split
   all_goals omega
  .simp only
   split
   .rename_i h1;exactλ_=>h1.2.2
   .split
    .intro h2;omega
    .intro h2;omega
  .simp only
   split
   .intro h2;omega
   .split
    .rename_i h1;exactλ_=>h1.2.2
    .intro h2;omega
theorem Ydg {n:Int} {b:Za} (h:Yz n b) (s:Zi) (hd:b.data_=Zg.z0):Yz n (Q0 b s)/\(Q0 b s).addr=Zg.z0:=by
 unfold Q0;by_cases hl:b.addr.live=true
 .rw[ZZj hl]
  refine⟨?_,rfl⟩;have hw:=Zbl h hl;have ha:=Y0y h s hl;have hA:=h.addr;unfold K1 at hA;rw[ZZj hl] at hA;have hdl:b.data_.live=false:=by rw[hd]
  have Yhx:(atI b.m b.addr.who).beat - (atI b.m b.addr.who).done=1:=by
   rw[h.fly _ hw];unfold K5;rw[ZZj ⟨hl,rfl⟩,hdl];simp
  refine⟨h.conf,h.ml,h.bl,h.sl,λi hi=>?_,h.arb,h.last,h.model,(λhx=>by cases hx),λ_=>h.alive hl,λi hi=>?_,?_,?_,h.held,h.log⟩
  .have hm:=h.mst i hi;exact⟨hm.right,hm.tries,hm.bucket,hm.split⟩
  .have Kc:=h.fly i hi
   rw[Kc];unfold K5;simp only[hdl,hl,ZZf,false_and,if_false,true_and];omega
  .unfold K1
   simp
  .unfold Km
   show if b.addr.live=true then _ else _
   rw[ZZj hl];refine⟨⟨by show b.addr.beat=_;rw[hA.1];show (atI b.m b.addr.who).beat - 1=(atI b.m b.addr.who).done;omega,ha.1,ha.2.1⟩,ha.2.2.1,ha.2.2.2,λhs=>?_⟩;have:b.addr.second=true:=hs;rw[hA.2.2.2] at this;cases this
 .rw[ZZi hl]
  refine⟨h,?_⟩;have hA:=h.addr;unfold K1 at hA;rw[ZZi hl] at hA;exact hA
theorem Z5t (b:Za) (s:Zi):(Q0 b s).now=b.now/\(Q0 b s).conf=b.conf/\(Q0 b s).log=b.log/\(Q0 b s).model=b.model/\(Q0 b s).m=b.m/\(Q0 b s).splits=b.splits/\(Q0 b s).holder=b.holder/\b.picks<=(Q0 b s).picks/\(Q0 b s).picks<=b.picks+1:=by
 unfold Q0;split
 .exact⟨rfl,rfl,rfl,rfl,rfl,rfl,rfl,by show b.picks<=b.picks+1;omega,Vd8 _⟩
 .exact⟨rfl,rfl,rfl,rfl,rfl,rfl,rfl,Vd8 _,by omega⟩
theorem Zd2 (b:Za):(Qu b).length=b.m.length:=by simp[Qu]
theorem Zv8 {n:Int} {b:Za} (h:Yz n b) {i:Int} (hi:Zv b.conf i=true):atI (Qu b) i=Kh b i:=by
 obtain⟨k,rfl,hk⟩:=Yuo hi;have:=h.ml;rw[Ql (by rw[Zd2];omega)];simp[Qu]
structure Picked (n:Int) (b:Za) (p:Int×Int×Za):Prop where
 ok:Yz n p.2.2
 who:p.1=-1\/(Zv b.conf p.1=true/\Kh b p.1=true/\(1<=p.2.1/\p.2.1<=3))
 conf:p.2.2.conf=b.conf
 m:p.2.2.m=b.m
 splits:p.2.2.splits=b.splits
 holder:p.2.2.holder=b.holder
 held:p.2.2.held=b.held
 addr:p.2.2.addr=b.addr
 data:p.2.2.data_=b.data_
 model:p.2.2.model=b.model
 log:p.2.2.log=b.log
 last:p.2.2.last=b.last
 now:p.2.2.now=b.now
 picks:p.2.2.picks=b.picks
theorem Zwf {n:Int} {b:Za} (h:Yz n b):Picked n b (Zad b):=by
 unfold Zad;split
 .rename_i hx
  exact⟨h,.inr ⟨(Zew h hx.1).1,hx.2,by simp⟩,rfl,rfl,rfl,rfl,rfl,rfl,rfl,rfl,rfl,rfl,rfl,rfl⟩
 .split
  .rename_i k hk
   have hk1:=List.find?_some hk;have hk2:=List.mem_of_find?_eq_some hk;rw[Vc4,h.ml] at hk2;simp only[Zat,ZZg] at hk1;have hm:=mas (c:=b.conf) hk2;have hmb:=Wb hm;refine⟨?_,.inr ⟨hm,hk1.1,by simp⟩,rfl,rfl,rfl,rfl,rfl,rfl,rfl,rfl,rfl,rfl,rfl,rfl⟩;refine⟨h.conf,h.ml,by show (b.buckets.set k _).length=_;rw[Vbf];exact h.bl,h.sl,λi hi=>?_,h.arb,h.last,h.model,h.alive,h.dlive,h.fly,h.addr,h.data,h.held,h.log⟩;have hmi:=h.mst i hi;refine⟨hmi.right,hmi.tries,?_,hmi.split⟩;show Y4 (atI (b.buckets.set k (Zgd (atI b.buckets (k:Int)) (atI b.conf.masters (k:Int))).1) i) (atI b.conf.masters i)=true;have e:=Z8q (xs:=b.buckets) (w:=(k:Int)) (Zgd (atI b.buckets (k:Int)) (atI b.conf.masters (k:Int))).1 hmb.1 (by have:=h.bl;omega) (Wb hi).1;rw[Vcd] at e;rw[e];split
   .rename_i e2;subst e2;exact Y6e hmi.bucket (Zkc h.conf hi)
   .exact hmi.bucket
  .split
   .exact⟨h,.inl rfl,rfl,rfl,rfl,rfl,rfl,rfl,rfl,rfl,rfl,rfl,rfl,rfl⟩
   .have hp:=Y21 (wants:=Qu b) h.arb (by rw[Zd2,h.ml])
    refine⟨⟨h.conf,h.ml,h.bl,h.sl,λi hi=>?_,hp.1,h.last,h.model,h.alive,h.dlive,h.fly,h.addr,h.data,h.held,h.log⟩,?_,rfl,rfl,rfl,rfl,rfl,rfl,rfl,rfl,rfl,rfl,rfl,rfl⟩
    .have hmi:=h.mst i hi;exact⟨hmi.right,hmi.tries,hmi.bucket,hmi.split⟩
    .rcases hp.2 with hp2|hp2
     .exact .inl hp2
     .exact .inr ⟨hp2.1,by rw[<-Zv8 h hp2.1];exact hp2.2,by simp⟩
theorem Ygk {b:Za} {i:Int} (h:Kh b i=true):(atI b.m i).beat < Z0 (atI b.m i)/\atI b.splits i=0/\(b.holder=-1\/b.holder=i):=by
 simp only[Kh,Zo2,ZZg,Vb3,ZZl] at h;exact⟨h.1,h.2.1,h.2.2⟩
theorem Yx3 (m:Zb):(X5 m).queue=m.queue/\(X5 m).done=m.done/\(X5 m).tries=m.tries/\(X5 m).parted=m.parted/\(X5 m).broken=m.broken:=by
 unfold X5;split<;>exact⟨rfl,rfl,rfl,rfl,rfl⟩
theorem Y42 {n:Int} {b:Za} (h:Yz n b) (ha:b.addr=Zg.z0) (Z3h:b.data_.second=false) {who by_:Int} (hw:Zv b.conf who=true) (Yhy:Kh b who=true) (hby:1<=by_/\by_<=3):Yz n (Z6j b who by_):=by
 obtain⟨w1,w2,w3⟩:=Ygk Yhy;have hmw:=(h.mst _ hw).right;have hal:b.addr.live=false:=by rw[ha]
 have hfw:=h.fly _ hw;have hle:(atI b.m who).beat - (atI b.m who).done<=1:=by
  rw[hfw];unfold K5;rw[hal];simp only[ZZf,false_and,if_false];split<;>omega
 have hbt:(X5 (atI b.m who)).beat=(atI b.m who).beat+1:=by
  unfold X5;rw[ZZj ⟨w1,by omega⟩]
 have hs:=Yx3 (atI b.m who);have hat:∀i,Zv b.conf i=true->atI (b.m.set who.toNat (X5 (atI b.m who))) i=if i=who then X5 (atI b.m who) else atI b.m i:=λi hi=>h.at_m hw _ hi
 have hsm:∀i,Zv b.conf i=true->(atI (b.m.set who.toNat (X5 (atI b.m who))) i).queue=(atI b.m i).queue/\(atI (b.m.set who.toNat (X5 (atI b.m who))) i).done=(atI b.m i).done/\(atI (b.m.set who.toNat (X5 (atI b.m who))) i).tries=(atI b.m i).tries/\(atI (b.m.set who.toNat (X5 (atI b.m who))) i).parted=(atI b.m i).parted/\(atI (b.m.set who.toNat (X5 (atI b.m who))) i).broken=(atI b.m i).broken:=λi hi=>by
  rw[hat i hi];split
  .rename_i e;subst e;exact hs
  .exact⟨rfl,rfl,rfl,rfl,rfl⟩
 have hmb:=Wb hw;refine⟨h.conf,?_,h.bl,h.sl,λi hi=>?_,h.arb,.inr hw,h.model,λ_=>⟨hw,hby,w2⟩,h.dlive,λi hi=>?_,?_,?_,?_,h.log⟩
 .show (b.m.set who.toNat _).length=_
  rw[Vbf];exact h.ml
 .have Ym:Zv b.conf i=true:=hi
  have hm:=h.mst i Ym;refine⟨?_,?_,hm.bucket,hm.split⟩
  .show Yt (atI (b.m.set who.toNat (X5 (atI b.m who))) i)
   rw[hat i Ym];split
   .exact Yrt hmw
   .exact hm.right
  .show (atI (b.m.set who.toNat (X5 (atI b.m who))) i).tries<=_
   rw[(hsm i Ym).2.2.1];exact hm.tries
 .have Ym:Zv b.conf i=true:=hi
  have Kc:=h.fly i Ym;show (atI (b.m.set who.toNat (X5 (atI b.m who))) i).beat - (atI (b.m.set who.toNat (X5 (atI b.m who))) i).done=K5 (Z6j b who by_) i;rw[(hsm i Ym).2.1,hat i Ym];unfold K5 at Kc ⊢;rw[hal] at Kc;simp only[ZZf,false_and,if_false] at Kc;show _=(if (true:Bool)=true/\who=i then (1:Int) else 0)+(if b.data_.live=true/\b.data_.who=i then 1 else 0);simp only[true_and];by_cases e:i=who
  .subst e
   rw[ZZj rfl,ZZj rfl,hbt];omega
  .rw[ZZi e,ZZi (λe2=>e e2.symm)];omega
 .unfold K1
  show if (true:Bool)=true then (atI b.m who).beat=(atI (b.m.set who.toNat (X5 (atI b.m who))) who).beat - 1/\_ else _
  rw[ZZj rfl,hat _ hw,ZZj rfl,hbt];exact⟨by omega,rfl,rfl,rfl⟩
 .have hD:=h.data
  unfold Km at hD ⊢;show if b.data_.live=true then _ else _
  by_cases hl:b.data_.live=true
  .rw[ZZj hl] at hD ⊢
   have e:=hsm _ (Qv h hl);show (b.data_.beat=(atI (b.m.set who.toNat (X5 (atI b.m who))) b.data_.who).done/\_)/\(_->(atI (b.m.set who.toNat (X5 (atI b.m who))) b.data_.who).tries < _)/\(_->(atI (b.m.set who.toNat (X5 (atI b.m who))) b.data_.who).parted=false/\b.data_.who≠(if Yl (atI b.m who)=true/\b.holder=-1 then who else b.holder))/\_;rw[e.2.1,e.2.2.1,e.2.2.2.1];refine⟨hD.1,hD.2.1,λh3=>⟨(hD.2.2.1 h3).1,?_⟩,λh4=>?_⟩
   .split
    .rename_i e2
     intro e3;have hp:=Zud h hl;have hr:=Je (h.mst _ (Qv h hl)).right;have:=h.held.1 _ (Qv h hl) (by omega) (by rw[e3];exact e2.1);omega
    .exact (hD.2.2.1 h3).2
   .have:b.data_.second=true:=h4
    rw[Z3h] at this;cases this
  .rw[ZZi hl] at hD ⊢;exact hD
 .have hh:=h.held
  unfold Zi8 at hh ⊢;show (∀i,Zv b.conf i=true->(atI (b.m.set who.toNat (X5 (atI b.m who))) i).beat > 0->Yl (atI (b.m.set who.toNat (X5 (atI b.m who))) i)=true->(if Yl (atI b.m who)=true/\b.holder=-1 then who else b.holder)=i)/\
   (if (if Yl (atI b.m who)=true/\b.holder=-1 then who else b.holder)=-1 then (if Yl (atI b.m who)=true/\b.holder=-1 then 0 else b.held)=0 else Zv b.conf (if Yl (atI b.m who)=true/\b.holder=-1 then who else b.holder)=true/\Yl (atI (b.m.set who.toNat (X5 (atI b.m who))) (if Yl (atI b.m who)=true/\b.holder=-1 then who else b.holder))=true/\atI b.splits (if Yl (atI b.m who)=true/\b.holder=-1 then who else b.holder)=0/\(0<=(if Yl (atI b.m who)=true/\b.holder=-1 then 0 else b.held)/\(if Yl (atI b.m who)=true/\b.holder=-1 then 0 else b.held)<=b.conf.lockMost))
  have hlk:∀i,Zv b.conf i=true->Yl (atI (b.m.set who.toNat (X5 (atI b.m who))) i)=Yl (atI b.m i):=λi hi=>Zs9 (hsm i hi).1 (hsm i hi).2.2.2.2;have hlm:=(Qk h.conf).2.2.1;have Zif:∀i,Zv b.conf i=true->i≠who->(atI (b.m.set who.toNat (X5 (atI b.m who))) i).beat > 0->Yl (atI b.m i)=true->False:=by
   intro i hi e hx hk;rw[hat i hi,ZZi e] at hx;have:=hh.1 i hi hx hk;have:=Wb hi;omega
  by_cases e:Yl (atI b.m who)=true/\b.holder=-1
  .simp only[ZZj e]
   refine⟨λi hi hx hk=>?_,?_⟩
   .by_cases e2:i=who
    .exact e2.symm
    .rw[hlk i hi] at hk
     exact (Zif i hi e2 hx hk).elim
   .rw[ZZi (by omega)]
    exact⟨hw,by rw[hlk _ hw];exact e.1,w2,by omega,by omega⟩
  .simp only[ZZi e]
   refine⟨λi hi hx hk=>?_,?_⟩
   .rw[hlk i hi] at hk
    by_cases e2:i=who
    .subst e2
     rcases w3 with w3|w3
     .exact absurd ⟨hk,w3⟩ e
     .exact w3
    .exact (Zif i hi e2 hx hk).elim
   .have h2:=hh.2
    split
    .rename_i e2;rw[ZZj e2] at h2;exact h2
    .rename_i e2
     rw[ZZi e2] at h2;exact⟨h2.1,by rw[hlk _ h2.1];exact h2.2.1,h2.2.2⟩
theorem Y2y {n:Int} {b:Za} (h:Yz n b) (ha:b.addr=Zg.z0) (Z3h:b.data_.second=false):Yz n (Jb b).2:=by
 have hp:=Zwf h;unfold Jb;split
 .exact hp.ok
 .rename_i hx
  rcases hp.who with h1|h1
  .exact absurd (show (Zad b).1 < 0 by rw[h1];decide) hx
  .refine Y42 hp.ok (by rw[hp.addr];exact ha) (by rw[hp.data];exact Z3h) (by rw[hp.conf];exact h1.1) ?_ h1.2.2
   have:=h1.2.1;unfold Kh at this ⊢;rw[hp.m,hp.splits,hp.holder];exact this
theorem Z46 {n:Int} {b:Za} (h:Yz n b):(Jb b).2.now=b.now/\(Jb b).2.conf=b.conf/\(Jb b).2.log=b.log/\(Jb b).2.model=b.model/\(Jb b).2.picks=b.picks/\(Jb b).2.data_=b.data_:=by
 have hp:=Zwf h;unfold Jb;split
 .exact⟨hp.now,hp.conf,hp.log,hp.model,hp.picks,hp.data⟩
 .exact⟨hp.now,hp.conf,hp.log,hp.model,hp.picks,hp.data⟩
theorem Y2z {n:Int} {b:Za} (h:Yz n b) (s:Zi) (hd:b.data_=Zg.z0):Yz n (Wu b s).2/\(Wu b s).2.now=b.now/\b.picks<=(Wu b s).2.picks/\(Wu b s).2.picks<=b.picks+1/\(Wu b s).2.conf=b.conf/\(Wu b s).2.log=b.log/\(Wu b s).2.model=b.model:=by
 have h1:=Ydt h;have e1:=Zxh b;have h2:=Ydg h1 s (by rw[e1.1];exact hd);have e2:=Z5t (Xd b) s;have Z3h:(Q0 (Xd b) s).data_.second=false:=by
  unfold Q0;split
  .rename_i hl
   have hA:=h1.addr;unfold K1 at hA;rw[ZZj hl] at hA;exact hA.2.2.2
  .rw[e1.1,hd]
 have h3:=Y2y h2.1 h2.2 Z3h;have e3:=Z46 h2.1;unfold Wu;exact⟨h3,by rw[e3.1,e2.1,e1.2.2.2.1],by rw[e3.2.2.2.2.1,<-e1.2.2.1];exact e2.2.2.2.2.2.2.2.1,by rw[e3.2.2.2.2.1,<-e1.2.2.1];exact e2.2.2.2.2.2.2.2.2,by rw[e3.2.1,e2.2.1,e1.2.2.2.2.1],by rw[e3.2.2.1,e2.2.2.1,e1.2.2.2.2.2.1],by rw[e3.2.2.2.1,e2.2.2.2.1,e1.2.2.2.2.2.2]⟩
theorem Yzs (b:Za):(Xg b).now=b.now/\(Xg b).conf=b.conf/\(Xg b).picks=b.picks/\(Xg b).log=b.log/\(Xg b).model=b.model/\(Xg b).m=b.m/\(Xg b).addr=b.addr/\(Xg b).data_=b.data_/\(Xg b).holder=b.holder:=⟨rfl,rfl,rfl,rfl,rfl,rfl,rfl,rfl,rfl⟩
theorem Y0x (b:Za):(Js b).now=b.now/\(Js b).conf=b.conf/\(Js b).picks=b.picks/\(Js b).log=b.log/\(Js b).model=b.model/\(Js b).m=b.m/\(Js b).addr=b.addr/\(Js b).data_=b.data_/\(Js b).holder=b.holder:=by
 unfold Js;split<;>exact⟨rfl,rfl,rfl,rfl,rfl,rfl,rfl,rfl,rfl⟩
theorem Z71 (b:Za) (s:Zi):(Kt b s).now=b.now/\(Kt b s).conf=b.conf/\(Kt b s).picks=b.picks/\(Kt b s).log=b.log/\(Kt b s).model=b.model/\(Kt b s).addr=b.addr/\(Kt b s).data_=b.data_/\(Kt b s).holder=b.holder:=by
 have h1:=Y0x (Xg (Xv b (Zbk s b.now)));have h2:=Yzs (Xv b (Zbk s b.now));have h3:=Zms b (Zbk s b.now);unfold Kt;refine⟨?_,?_,?_,?_,?_,?_,?_,?_⟩
 .rw[h1.1,h2.1,h3.2.1]
 .rw[h1.2.1,h2.2.1,h3.1]
 .rw[h1.2.2.1,h2.2.2.1,h3.2.2.1]
 .rw[h1.2.2.2.1,h2.2.2.2.1,h3.2.2.2.1]
 .rw[h1.2.2.2.2.1,h2.2.2.2.2.1,h3.2.2.2.2.1]
 .rw[h1.2.2.2.2.2.2.1,h2.2.2.2.2.2.2.1,h3.2.2.2.2.2.2.2.1]
 .rw[h1.2.2.2.2.2.2.2.1,h2.2.2.2.2.2.2.2.1,h3.2.2.2.2.2.2.2.2.1]
 .rw[h1.2.2.2.2.2.2.2.2,h2.2.2.2.2.2.2.2.2,h3.2.2.2.2.2.1]
theorem Yjl {b:Za} (h:Zqm b) (s:Zi):Yz b.now (Kt b s):=Yxe (Z5h (Zr6 h.i _))
theorem Zxs (b:Za) (x:Zg):(Wh b x).now=b.now/\(Wh b x).picks=b.picks/\(Wh b x).conf=b.conf/\(Wh b x).log=b.log/\(Wh b x).model=b.model:=by
 unfold Wh;split
 .exact⟨rfl,rfl,rfl,rfl,rfl⟩
 .split<;>exact⟨rfl,rfl,rfl,rfl,rfl⟩
theorem Z51 (b:Za) (s:Zi):(Z9 b s).1.now=b.now/\(Z9 b s).1.picks=b.picks/\(Z9 b s).1.conf=b.conf:=by
 unfold Z9
 repeat' split
 all_goals first
  | exact⟨rfl,rfl,rfl⟩
  | exact⟨(Zxs _ _).1,(Zxs _ _).2.1,(Zxs _ _).2.2.1⟩
theorem Yup {b:Za} (h:Zqm b) (s:Zi) (hn:b.now < 4000):Zqm (Ztb b s).1/\(Ztb b s).1.now=b.now+1/\(Ztb b s).1.conf=b.conf:=by
 have h1:=Yjl h s;have e1:=Z71 b s;have hI:Yz (Kt b s).now (Kt b s):=by rw[e1.1];exact h1
 have h2:=Z7k s (by rw[e1.1];exact h.now.1) hI;have e2:=Z51 (Kt b s) s;have hp:=h.picks;have hnow:=h.now;unfold Ztb;rw[e1.1] at h2;by_cases hr:(Z9 (Kt b s) s).2.1=true
 .rw[ZZj hr]
  have h3:=Y2z h2.1 s (h2.2 hr);refine⟨?_,rfl,by show (Wu _ s).2.conf=_;rw[h3.2.2.2.2.1,e2.2.2,e1.2.1]⟩;have h4:=h3.1;have e3:(Z9 (Kt b s) s).1.picks=b.picks:=by rw[e2.2.1,e1.2.2.1]
  have h5:=h3.2.2.1;have h6:=h3.2.2.2.1;generalize (Wu (Z9 (Kt b s) s).1 s).2=r at h4 h5 h6 ⊢;exact⟨h4.conf,⟨by show 0<=b.now+1;omega,by show b.now+1<=4000;omega⟩,h4.ml,h4.bl,h4.sl,λi hi=>⟨(h4.mst i hi).right,(h4.mst i hi).tries,(h4.mst i hi).bucket,(h4.mst i hi).split⟩,h4.arb,h4.last,h4.model,⟨by show 0<=r.picks;omega,by show r.picks<=b.now+1;omega⟩,h4.alive,h4.dlive,h4.fly,h4.addr,h4.data,h4.held,h4.log⟩
 .rw[ZZi hr]
  refine⟨?_,rfl,by show (Z9 _ s).1.conf=_;rw[e2.2.2,e1.2.1]⟩;have h4:=h2.1;have e3:(Z9 (Kt b s) s).1.picks=b.picks:=by rw[e2.2.1,e1.2.2.1]
  generalize (Z9 (Kt b s) s).1=r at h4 e3 ⊢;exact⟨h4.conf,⟨by show 0<=b.now+1;omega,by show b.now+1<=4000;omega⟩,h4.ml,h4.bl,h4.sl,λi hi=>⟨(h4.mst i hi).right,(h4.mst i hi).tries,(h4.mst i hi).bucket,(h4.mst i hi).split⟩,h4.arb,h4.last,h4.model,⟨by show 0<=r.picks;omega,by show r.picks<=b.now+1;omega⟩,h4.alive,h4.dlive,h4.fly,h4.addr,h4.data,h4.held,h4.log⟩
structure Zi.sm (s:Zi):Prop where
 posts:s.posts.length < 1048577
 reqs:∀p∈s.posts,p.req.sm
 waits:s.waits.length < 1048577
 says:s.says.length < 1048577
 wmin:∀w∈s.waits,-9223372036854775808<=w/\w < 9223372036854775808
theorem Zr2 (l:List Int) (k:Int) (hl:l.length < 1048577):Zka l k=some (Zjg l k):=by
 unfold Zka Zk6 Zjg;by_cases h:l=[]
 .simp[h]
 .have h1:0 < l.length:=Vao.2 h
  rw[ZZi (by simpa using h)];by_cases h2:k < 0
  .simp[h2]
  .have h3:0<=k % (l.length:Int):=Vc0 _ (by omega)
   have h4:k % (l.length:Int) < (l.length:Int):=Vcn _ (by omega);rw[Zwp (by omega),ZZa,Zei (by omega),Xp h3 h4];simp[h,h2]
theorem Z8j (l:List Int) (k:Int) (hl:l.length < 1048577):Zyo l k=some (Zjg l k):=by
 rw[<-Zr2 l k hl];rfl
theorem Yp7 {l:List Int} {k:Int} (h:∀w∈l,-9223372036854775808<=w/\w < 9223372036854775808):-9223372036854775808<=Zjg l k/\Zjg l k < 9223372036854775808:=by
 unfold Zjg;split
 .omega
 .rename_i hx
  have h1:l≠[]:=λe=>hx (.inl e);have h2:0 < l.length:=Vao.2 h1;exact h _ (Zj3 (Vc0 _ (by omega)) (Vcn _ (by omega)))
theorem Ytl (c:Zk) {s:Zi} (k:Int) (hs:s.sm):Zxn c s k=some (Zpz c s k):=by
 unfold Zxn Zpz;rw[Zr2 _ _ hs.waits,ZZa,Zuh,Zce]
theorem Yss (c:Zk) {s:Zi} (k:Int) (hs:s.sm):Zxv c s k=some (Zpz c s k):=by
 unfold Zxv Zpz;rw[Z8j _ _ hs.waits,ZZa,Zuh,Zce,Vdn]
theorem Yt3 {s:Zi} (k:Int) (hs:s.sm):Zya s k=some (Zho s k):=by
 unfold Zya Zho;rw[Zr2 _ _ hs.says,ZZa];by_cases h1:Zjg s.says k=2
 .simp[h1]
 .by_cases h2:Zjg s.says k=3<;>simp[h1,h2]
theorem Ysh {s:Zi} (k:Int) (hs:s.sm):Zxr s k=some (Zho s k):=by
 unfold Zxr Zho;rw[Z8j _ _ hs.says,ZZa];by_cases h1:Zjg s.says k=2
 .simp[h1]
 .by_cases h2:Zjg s.says k=3<;>simp[h1,h2]
theorem Yob (c:Zk) {s:Zi} (k:Int) (hs:s.sm):Zva c s k=some (Zh5 c s k):=by
 have h:=Yp7 (k:=k) hs.wmin;unfold Zva Zh5;rw[Zr2 _ _ hs.waits,ZZa,Zuh,Zce,Zuh,Zce,Yr (by omega) (by omega)]
theorem Ym7 (c:Zk) {s:Zi} (k:Int) (hs:s.sm):Zuw c s k=some (Zh5 c s k):=by
 have h:=Yp7 (k:=k) hs.wmin;unfold Zuw Zh5;rw[Z8j _ _ hs.waits,ZZa,Zuh,Zce,Zce,Yr (by omega) (by omega)]
 congr 1
 omega
theorem Ybs {α:Type} (p:α->Bool) (xs:List α) (k:Nat) (hk:k < xs.length):(xs.take (k+1)).filter p=(xs.take k).filter p++(if p xs[k] then [xs[k]] else []):=by
 rw[List.take_succ_eq_append_getElem hk,Vc1];cases hq:p xs[k]<;>simp[hq]
theorem Yoa (s:Zi) (t:Int) (hs:s.sm):Zve s t=some (Zbk s t):=by
 unfold Zve Zbk;have hp:=hs.posts;refine Zfp (σ:=List Zl) (n:=s.posts.length) (by omega) (λk=>(s.posts.take k).filter λp=>decide (p.at_=t)) (B:=Ziz s t) (L:=Zkl s t) (λm s i=>rfl) (λk hk κ=>?_) λκ=>?_
 .unfold Ziz
  have Yo:((s.posts.take k).filter λp=>decide (p.at_=t)).length<=k:=Vb5 (Vbs ..) (by rw[Vbu];omega);rw[ZZj (by simpa using hk),Xu hk,ZZa,Ybs _ _ _ hk,Z7n _ (hs.reqs _ (Vas hk)),ZZa];by_cases e:s.posts[k].at_=t
  .rw[ZZj (by simpa using e),Ke (by simp only[Vag,Vbg];omega) (by simp only[Vag,Vbg];omega),ZZa,ZZj (decide_eq_true e)]
  .rw[ZZi (by simpa using e),ZZi (by simpa using e),Vb2]
 .unfold Ziz
  rw[ZZi (by simp),Vbx]
theorem Yoc (s:Zi) (t:Int) (hs:s.sm):Zvn s t=some (Zbk s t):=by
 unfold Zvn Zbk;have hp:=hs.posts;refine Zfp (σ:=List Zl) (n:=s.posts.length) (by omega) (λk=>(s.posts.take k).filter λp=>decide (p.at_=t)) (B:=Zio s t) (L:=Zln s t) (λm s i=>rfl) (λk hk κ=>?_) λκ=>?_
 .unfold Zio
  have Yo:((s.posts.take k).filter λp=>decide (p.at_=t)).length<=k:=Vb5 (Vbs ..) (by rw[Vbu];omega);rw[ZZj (by simpa using hk),Xu hk,ZZa,Ybs _ _ _ hk,Z88 _ (hs.reqs _ (Vas hk)),ZZa];by_cases e:s.posts[k].at_=t
  .rw[ZZj (by simpa using e),Ke (by simp only[Vag,Vbg];omega) (by simp only[Vag,Vbg];omega),ZZa,ZZj (decide_eq_true e)]
  .rw[ZZi (by simpa using e),ZZi (by simpa using e),Vb2]
 .unfold Zio
  rw[ZZi (by simp),Vbx]
theorem Yp4 {s:Zi} (hs:s.sm) (t:Int):(Zbk s t).length < 1048577/\∀p∈Zbk s t,p.req.sm:=by
 have hp:=hs.posts;refine⟨Nat.lt_of_le_of_lt (Vbs ..) hp,λp hx=>hs.reqs p ?_⟩;unfold Zbk at hx;exact (Vb4.1 hx).1
theorem Z9b (b:Za) (ps:List Zl) (k:Nat) (hk:k < ps.length):Xv b (ps.take (k+1))=Ku (Xv b (ps.take k)) ps[k]:=by
 unfold Xv;rw[List.take_succ_eq_append_getElem hk,List.foldl_append];rfl
theorem Ykz (c:Zk) (h:c.masters.length < 1048577):Zux c=some c/\Zx7 c=some c:=by
 unfold Zux Zae Zx7;rw[Ke (by simp;omega) (by simp;omega)];exact⟨rfl,rfl⟩
theorem Yn1 (xs:List Zm) (h:xs.length < 1048577):Wd 56 [] xs=some xs:=by
 rw[Ke (by simp;omega) (by simp;omega)];rfl
theorem Ym4 (xs:List Zc) (h:xs.length < 1048577):Wd 16 [] xs=some xs:=by
 rw[Ke (by simp;omega) (by simp;omega)];rfl
theorem Yby (b:Za) (hs:b.sm):Ztj b=some b:=by
 unfold Ztj;rw[(Ykz b.conf hs.conf).1,ZZa];have:=hs.ml;refine (Zfp (σ:=Za×List Zb) (n:=b.m.length) (by omega) (λk=>(b,b.m.take k)) (B:=λκ s i=>Zk2 b (λx y i=>κ (x,y) i) s.1 s.2 i) (L:=λm s i=>Zh1 b m s.1 s.2 i) (λm s i=>rfl) (λk hk κ=>?_) λκ=>?_:Zh1 b FU b [] 0=some b)
 .unfold Zk2
  have Yo:(b.m.take k).length=k:=by rw[Vbu];omega
  simp only;rw[ZZj (by simpa using hk),Xu hk,ZZa,Zpe _ (hs.mst _ (Vas hk)),ZZa,Ke (by simp only[Vag,Vbg];omega) (by simp only[Vag,Vbg];omega),ZZa,<-List.take_succ_eq_append_getElem hk]
 .unfold Zk2 Jp Zbp
  simp only;rw[ZZi (by simp),Ym4 _ hs.bl,ZZa,Zt5 _ hs.sl,ZZa,Zw5 _ hs.model,ZZa,Yn1 _ hs.log,ZZa,Vbx]
theorem Zyy (b:Za) (hs:b.sm):Zpi b=some b:=by
 unfold Zpi;rw[(Ykz b.conf hs.conf).2,ZZa];have:=hs.ml;refine (Zfp (σ:=Za) (n:=b.m.length) (by omega) (λk=>{b with m:=b.m.take k}) (B:=Zjc b) (L:=Zfs b) (λm s i=>rfl) (λk hk κ=>?_) λκ=>?_:Zfs b FU {b with m:=[]} 0=some b)
 .unfold Zjc
  have Yo:(b.m.take k).length=k:=by rw[Vbu];omega
  simp only;rw[ZZj (by simpa using hk),Xu hk,ZZa,Zm7 _ (hs.mst _ (Vas hk)),ZZa,Ke (by simp only[Vag,Vbg];omega) (by simp only[Vag,Vbg];omega),ZZa,<-List.take_succ_eq_append_getElem hk]
 .unfold Zjc
  simp only;rw[ZZi (by simp),Ym4 _ hs.bl,ZZa,Z3u _ hs.sl,ZZa,Ya3 _ hs.model,ZZa,Yn1 _ hs.log,ZZa,Vbx]
theorem Yav {c:Zk} {n:Int} (hn:n<=4001) {l:List Zm} (h:(∀d∈l,Z50 c n d)/\l.Pairwise λx y=>x.cycle < y.cycle):l.length<=4001:=by
 have key:∀(l:List Zm) (a:Int),(∀d∈l,a<=d.cycle/\d.cycle < n)->(l.Pairwise λx y=>x.cycle < y.cycle)->l≠[]->(l.length:Int)<=n - a:=by
  intro l
  induction l with
  | nil=>intro a _ _ h;exact absurd rfl h
  | cons x xs ih=>
   intro a h1 h2 _;have h3:=h1 x (Vaa ..);by_cases hx:xs=[]
   .subst hx;simp;omega
   .have h4:=List.pairwise_cons.1 h2
    have:=ih (x.cycle+1) (λd hd=>⟨by have:=h4.1 d hd;omega,(h1 d (Vac _ hd)).2⟩) h4.2 hx;simp only[Vag];omega
 by_cases hx:l=[]
 .subst hx;simp
 .have:=key l 0 (λd hd=>(h.1 d hd).1) h.2 hx
  omega
theorem Yz.sm {n:Int} {b:Za} (h:Yz n b) (hn:n<=4001):b.sm:=by
 have h1:=Zcd h.conf;have h2:=h.ml;have h3:=h.bl;have h4:=h.sl;have h5:=Yav hn h.log;refine⟨h1,by omega,λx hx=>?_,by omega,by omega,h.model.sm,by omega⟩;obtain⟨k,hk,rfl⟩:=Vbr hx;have:=(h.mst (k:Int) (mas (by omega))).right.sm
 rwa [Ql hk] at this
theorem Zqm.sm {b:Za} (h:Zqm b):b.sm:=h.i.sm (by have:=h.now;omega)
section
variable {n:Int} {b:Za} {s:Zi}
theorem Z21 (x:Zg) (hc:X8 b.conf=true) (hw:Zv b.conf x.who=true) (hml:b.m.length=b.conf.masters.length) (hbl:b.buckets.length=b.conf.masters.length) (hr:Yt (atI b.m x.who)) (har:Za0 b.arb b.conf=true):Zeh b x=some (Wh b x):=by
 obtain⟨ok,hbk⟩:=Ypc hr;unfold Zeh Wh;rw[We hml hw,ZZa,hbk,ZZa,Wx,ZZa,Yak hbl hw,ZZa,Z02 hw,ZZa,Yeo _ (Zkc hc hw),ZZa,Wx,ZZa,Ynf _ _ _ har,ZZa];by_cases h1:x.by_=1
 .simp[h1]
 .by_cases h2:x.by_=2<;>simp[h1,h2]
theorem Z2j (x:Zg) (hc:X8 b.conf=true) (hw:Zv b.conf x.who=true) (hml:b.m.length=b.conf.masters.length) (hbl:b.buckets.length=b.conf.masters.length) (hr:Yt (atI b.m x.who)) (har:Za0 b.arb b.conf=true):Zkd b x=some (Wh b x):=by
 obtain⟨ok,hbk⟩:=Yog hr;unfold Zkd Wh;rw[We hml hw,ZZa,hbk,ZZa,Wx,ZZa,Yak hbl hw,ZZa,Z02 hw,ZZa,Yfb _ (Zkc hc hw),ZZa,Wx,ZZa,Yol _ _ _ har,ZZa];by_cases h1:x.by_=1
 .simp[h1]
 .by_cases h2:x.by_=2<;>simp[h1,h2]
theorem Ys9 {m:Zb} {k:Int} (h:Yt m) (hq:m.queue≠[]) (h0:0<=k) (h1:k < Z0 m):Zoc m k=some (Zqw m k):=by
 have hl:0 < m.queue.length:=Vao.2 hq;unfold Zoc Zqw;rw[Xp (xs:=m.queue) (by omega) (by omega),ZZa];by_cases hw:(atI m.queue 0).write=true
 .have:=Yka h h0 h1 hw
  rw[ZZj hw,ZZj hw,Xp this.1 this.2];rfl
 .rw[ZZi hw,ZZi hw]
theorem Ygc {m:Zb} {k:Int} (h:Yt m) (hq:m.queue≠[]) (h0:0<=k) (h1:k < Z0 m):Zl8 (atI m.queue 0) k=some (Zqw m k):=by
 unfold Zl8 Zqw;by_cases hw:(atI m.queue 0).write=true
 .have:=Yka h h0 h1 hw
  rw[ZZi (by simp[hw]),ZZj hw,Xp this.1 this.2];rfl
 .rw[ZZj (by simpa using hw),ZZi hw]
theorem Zqv {m:Zb} {k:Int} (h0:0<=k) (h1:k < Z0 m):m.queue≠[]:=by
 intro hq;unfold Z0 at h1;rw[ZZj hq] at h1;omega
theorem Zwm {m:Zb} (hq:m.queue≠[]):idx m.queue 0=some (atI m.queue 0):=by
 have hl:0 < m.queue.length:=Vao.2 hq;exact Xp (by omega) (by omega)
theorem Yuj (x:Zg) (hw:Zv b.conf x.who=true) (hml:b.m.length=b.conf.masters.length) (hr:Yt (atI b.m x.who)) (hm:Ze3 b.model) (h0:0<=x.beat) (h1:x.beat < Z0 (atI b.m x.who)):Ztn b x=some (doG b x):=by
 have hq:=Zqv h0 h1;unfold Ztn doG;rw[We hml hw,ZZa,Zwm hq,ZZa,Zex _ hr,ZZa,Ys9 hr hq h0 h1,ZZa,Yp3 _ _ _ _ hm];rfl
theorem Yco {m:Zb} (h:Yt m) (hp:m.beat - m.done≥1):((Ji m).queue.length:Int) < (m.queue.length:Int)↔m.done+1=Z0 m:=by
 have hq:=Zg1 h (by omega);have hl:0 < m.queue.length:=Vao.2 hq;have hf:=Z7h h hp;by_cases e:m.done+1=Z0 m
 .rw[(hf.1 e).2.1];simp[e];omega
 .rw[(hf.2 e).1];simp[e]
theorem Yn3 {m:Zb} (h:Yt m) (hp:m.beat - m.done≥1):(Ji m).done=0↔m.done+1=Z0 m:=by
 have hb:=Je h;have hf:=Z7h h hp;by_cases e:m.done+1=Z0 m
 .rw[(hf.1 e).2.2.2.1];simp[e]
 .rw[(hf.2 e).2.2.1];simp[e];omega
theorem Yly (x:Zg) (h1:Zv b.conf x.who=true) (hml:b.m.length=b.conf.masters.length) (hr:Yt (atI b.m x.who)) (hm:Ze3 b.model) (hp:(atI b.m x.who).beat - (atI b.m x.who).done≥1) (h2:0<=x.beat) (h3:x.beat < Z0 (atI b.m x.who)) (hl:b.log.length < 1048577):Zi2 b x=some (Zfy b x):=by
 have hq:=Zqv h2 h3;obtain⟨ok,he⟩:=Yt2 hr;unfold Zi2;rw[We hml h1,ZZa,Zwm hq,ZZa,Zex _ hr,ZZa,Yuj x h1 hml hr hm h2 h3,ZZa];have hJ:∀(mo:Zh) (d:Zm),Zbh b x {b with model:=mo} (atI b.m x.who) d=some {b with model:=mo,log:=b.log++[d],m:=b.m.set x.who.toNat (Ji (atI b.m x.who)),holder:=if b.holder=x.who/\(atI b.m x.who).done+1=Z0 (atI b.m x.who) then -1 else b.holder,held:=if b.holder=x.who/\(atI b.m x.who).done+1=Z0 (atI b.m x.who) then 0 else b.held}:=by
  intro mo d;unfold Zbh Zd0 Zd1 Zmf;simp only;rw[Ke (by simp only[Vag,Vbg];omega) (by simp only[Vag,Vbg];omega),ZZa,he,ZZa];simp only[ZZa,We hml h1,Wx];have hi:idx b.m x.who=some (atI b.m x.who):=We hml h1;by_cases e1:b.holder=x.who
  .by_cases e2:(atI b.m x.who).done+1=Z0 (atI b.m x.who)
   .have e3:=(Yco hr hp).2 e2
    simp only[decide_eq_true e1,decide_eq_true e3,if_true,ZZj (And.intro e1 e2)]
   .have e3:=mt (Yco hr hp).1 e2
    simp only[decide_eq_true e1,decide_eq_false e3,if_true,if_false,ZZf,ZZi (λhx:b.holder=x.who/\_=>e2 hx.2)]
  .simp only[decide_eq_false e1,if_false,ZZf,ZZi (λhx:b.holder=x.who/\_=>e1 hx.1)]
 unfold Zfy Ygq;by_cases e:x.resp=0
 .rw[ZZj (decide_eq_true e),hJ]
  simp only[ZZj e]
 .rw[ZZi (by simpa using e)]
  have:=hJ b.model (Zm.mk b.now x.who (atI (atI b.m x.who).queue 0).write (X4 (atI b.m x.who) x.beat) (atI (atI b.m x.who).queue 0).size 0 x.resp);refine Eq.trans (b:=_) ?_ (this.trans ?_)
  .rfl
  .simp only[ZZi e]
theorem Yrg (w:Zp) (h:Yz b.now b) (hs:s.sm) (hn:b.now<=4000):Zoi b s w=some ((Z9 b s).2.1,(Z9 b s).1,if b.data_.live=true/\¬b.data_.left > 0 then {w with resp:=b.data_.resp} else w):=by
 unfold Zoi Z9;by_cases hd:b.data_.live=true
 .have hdf:¬b.data_.live=false:=by simp[hd]
  rw[ZZi (by simp[hd]),ZZi hdf];have Za2:=h.data;unfold Km at Za2;rw[ZZj hd] at Za2;have hw:=Qv h hd;have hmw:=(h.mst _ hw).right;have hp:=Zud h hd;have hbt:=Z7p h hd;have Yyp:=(Qk h.conf).2.1;by_cases hl:b.data_.left > 0
  .rw[ZZj (decide_eq_true hl),ZZj hl,ZZi (λhx:_/\¬b.data_.left > 0=>hx.2 hl),Xh (by omega) (by omega)]
  .rw[ZZi (by simpa using hl),ZZi hl,ZZj (And.intro hd hl)]
   have hJf:¬(b.data_.resp≠0/\b.data_.second=false)->Zaq b s w false=some ((if b.data_.resp=2 then (Wh {b with data_:=Zg.z0,m:=b.m.set b.data_.who.toNat {atI b.m b.data_.who with tries:=(atI b.m b.data_.who).tries+1}} b.data_,true,b.data_.resp)
 else if b.data_.resp=3 then (Wh {b with data_:=Zg.z0,m:=b.m.set b.data_.who.toNat {atI b.m b.data_.who with parted:=true},splits:=b.splits.set b.data_.who.toNat (Zh5 b.conf s b.picks)} b.data_,true,b.data_.resp)
 else (Zfy {b with data_:=Zg.z0} b.data_,true,b.data_.resp):Za×Bool×Int).2.1,(if b.data_.resp=2 then (Wh {b with data_:=Zg.z0,m:=b.m.set b.data_.who.toNat {atI b.m b.data_.who with tries:=(atI b.m b.data_.who).tries+1}} b.data_,true,b.data_.resp)
 else if b.data_.resp=3 then (Wh {b with data_:=Zg.z0,m:=b.m.set b.data_.who.toNat {atI b.m b.data_.who with parted:=true},splits:=b.splits.set b.data_.who.toNat (Zh5 b.conf s b.picks)} b.data_,true,b.data_.resp)
 else (Zfy {b with data_:=Zg.z0} b.data_,true,b.data_.resp):Za×Bool×Int).1,{w with resp:=b.data_.resp}):=by
    intro hns;have hmb:=Wb hw;have hml:=h.ml;have Yhz:∀x:Zb,Yt x->Yt (atI (b.m.set b.data_.who.toNat x) b.data_.who):=λx hx=>by rw[Zpa x hmb.1 (by omega)];exact hx
    have Yo:∀x:Zb,(b.m.set b.data_.who.toNat x).length=b.conf.masters.length:=λx=>by rw[Vbf];exact hml
    unfold Zaq;rw[ZZi (by simp)];by_cases h2:b.data_.resp=2
    .have ht:=Za2.2.1 h2
     have hmx:=(Qk h.conf).1;have htr:=hmw.tries;have Z6:Yt {atI b.m b.data_.who with tries:=(atI b.m b.data_.who).tries+1}:=⟨hmw.len,by show 0<=(atI b.m b.data_.who).tries+1;omega,hmw.reqs,λhq=>absurd (show (atI b.m b.data_.who).queue=[] from hq) (Zqv hbt.1 hbt.2),hmw.some⟩;simp only[decide_eq_true h2,if_true,ZZj h2,We hml hw,ZZa,Wx,Yr (a:=(atI b.m b.data_.who).tries) (b:=1) (by omega) (by omega)];rw[Z21 (b:={b with data_:=Zg.z0,m:=b.m.set b.data_.who.toNat {atI b.m b.data_.who with tries:=(atI b.m b.data_.who).tries+1}}) b.data_ h.conf hw (Yo _) h.bl (Yhz _ Z6) h.arb];rfl
    .by_cases h3:b.data_.resp=3
     .have Y7:Yt {atI b.m b.data_.who with parted:=true}:=⟨hmw.len,hmw.tries,hmw.reqs,λhq=>absurd (show (atI b.m b.data_.who).queue=[] from hq) (Zqv hbt.1 hbt.2),hmw.some⟩
      simp only[decide_eq_false h2,decide_eq_true h3,if_true,if_false,ZZf,ZZi h2,ZZj h3,We hml hw,Zp2 h.sl hw,ZZa,Wx,Yob _ _ hs];rw[Z21 (b:={b with data_:=Zg.z0,m:=b.m.set b.data_.who.toNat {atI b.m b.data_.who with parted:=true},splits:=b.splits.set b.data_.who.toNat (Zh5 b.conf s b.picks)}) b.data_ h.conf hw (Yo _) h.bl (Yhz _ Y7) h.arb];rfl
     .simp only[decide_eq_false h2,decide_eq_false h3,if_false,ZZf,ZZi h2,ZZi h3]
      have hlog:=Yav (by omega) h.log;rw[Yly (b:={b with data_:=Zg.z0}) b.data_ hw hml hmw h.model hp hbt.1 hbt.2 (by show b.log.length < _;omega)];rfl
   by_cases h2:b.data_.resp≠0
   .rw[ZZj (decide_eq_true h2)]
    by_cases h3:b.data_.second=false
    .rw[ZZj (And.intro h2 h3),h3]
     unfold Zaq Zf6;rw[ZZj (by rfl)];by_cases ha:b.addr.live=true
     .rw[ZZj ha,ZZj ha]
      have hwa:=Zbl h ha;rw[Z21 (b:={b with data_:={b.data_ with second:=true}}) b.addr h.conf hwa h.ml h.bl (h.mst _ hwa).right h.arb];rfl
     .rw[ZZi ha,ZZi ha]
    .have h4:b.data_.second=true:=by simpa using h3
     rw[ZZi (λhx:_/\b.data_.second=false=>h3 hx.2),h4,Va5,hJf (λhx=>h3 hx.2)]
   .rw[ZZi (by simpa using h2),ZZi (λhx:b.data_.resp≠0/\_=>h2 hx.1),hJf (λhx=>h2 hx.1)]
 .rw[ZZj (by simpa using hd),ZZj (by simpa using hd),ZZi (λhx:b.data_.live=true/\_=>hd hx.1)]
theorem Yr1 (h:Yz b.now b) (hs:s.sm) (hn:b.now<=4000) (hd:b.data_.live=true) (hl:¬b.data_.left > 0) (hns:¬(b.data_.resp≠0/\b.data_.second=false)):Zp5 b s=some (Z9 b s).1:=by
 have hdf:¬b.data_.live=false:=by simp[hd]
 have Za2:=h.data;unfold Km at Za2;rw[ZZj hd] at Za2;have hw:=Qv h hd;have hmw:=(h.mst _ hw).right;have hp:=Zud h hd;have hbt:=Z7p h hd;have hmb:=Wb hw;have hml:=h.ml;have hq:=Zqv hbt.1 hbt.2;have Yhz:∀x:Zb,Yt x->Yt (atI (b.m.set b.data_.who.toNat x) b.data_.who):=λx hx=>by rw[Zpa x hmb.1 (by omega)];exact hx
 have Yo:∀x:Zb,(b.m.set b.data_.who.toNat x).length=b.conf.masters.length:=λx=>by rw[Vbf];exact hml
 unfold Zp5 Z9;rw[ZZi hdf,ZZi hl,ZZi hns,We hml hw,ZZa];by_cases h2:b.data_.resp=2
 .have ht:=Za2.2.1 h2
  have hmx:=(Qk h.conf).1;have htr:=hmw.tries;have Z6:Yt {atI b.m b.data_.who with tries:=(atI b.m b.data_.who).tries+1}:=⟨hmw.len,by show 0<=(atI b.m b.data_.who).tries+1;omega,hmw.reqs,λhq=>absurd (show (atI b.m b.data_.who).queue=[] from hq) (Zqv hbt.1 hbt.2),hmw.some⟩;simp only[decide_eq_true h2,if_true,ZZj h2,ZZa,Wx,Yr (a:=(atI b.m b.data_.who).tries) (b:=1) (by omega) (by omega)];rw[Z2j (b:={b with data_:=Zg.z0,m:=b.m.set b.data_.who.toNat {atI b.m b.data_.who with tries:=(atI b.m b.data_.who).tries+1}}) b.data_ h.conf hw (Yo _) h.bl (Yhz _ Z6) h.arb];rfl
 .by_cases h3:b.data_.resp=3
  .have Y7:Yt {atI b.m b.data_.who with parted:=true}:=⟨hmw.len,hmw.tries,hmw.reqs,λhq=>absurd (show (atI b.m b.data_.who).queue=[] from hq) (Zqv hbt.1 hbt.2),hmw.some⟩
   simp only[decide_eq_false h2,decide_eq_true h3,if_true,if_false,ZZf,ZZi h2,ZZj h3,Zp2 h.sl hw,ZZa,Wx,Ym7 _ _ hs];rw[Z2j (b:={b with data_:=Zg.z0,m:=b.m.set b.data_.who.toNat {atI b.m b.data_.who with parted:=true},splits:=b.splits.set b.data_.who.toNat (Zh5 b.conf s b.picks)}) b.data_ h.conf hw (Yo _) h.bl (Yhz _ Y7) h.arb];rfl
  .have hlog:=Yav (by omega) h.log
   obtain⟨ok,he⟩:=Ysp hmw;have hJ:∀(mo:Zh) (d:Zm),Zds b s {b with data_:=Zg.z0,model:=mo} (atI b.m b.data_.who) d=some {b with data_:=Zg.z0,model:=mo,log:=b.log++[d],m:=b.m.set b.data_.who.toNat (Ji (atI b.m b.data_.who)),holder:=if b.holder=b.data_.who/\(atI b.m b.data_.who).done+1=Z0 (atI b.m b.data_.who) then -1 else b.holder,held:=if b.holder=b.data_.who/\(atI b.m b.data_.who).done+1=Z0 (atI b.m b.data_.who) then 0 else b.held}:=by
    intro mo d;unfold Zds;simp only;rw[Ke (by simp only[Vag,Vbg];omega) (by simp only[Vag,Vbg];omega),ZZa,he,ZZa];simp only[ZZa,We hml hw,Wx];by_cases e1:b.holder=b.data_.who
    .by_cases e2:(atI b.m b.data_.who).done+1=Z0 (atI b.m b.data_.who)
     .have e3:=(Yn3 hmw hp).2 e2
      simp only[decide_eq_true e1,decide_eq_true e3,if_true,ZZj (And.intro e1 e2)]
     .have e3:=mt (Yn3 hmw hp).1 e2
      simp only[decide_eq_true e1,decide_eq_false e3,if_true,if_false,ZZf,ZZi (λhx:b.holder=b.data_.who/\_=>e2 hx.2)]
    .simp only[decide_eq_false e1,if_false,ZZf,ZZi (λhx:b.holder=b.data_.who/\_=>e1 hx.1)]
   simp only[decide_eq_false h2,decide_eq_false h3,if_false,ZZf,ZZi h2,ZZi h3];rw[Zwm hq,ZZa,Zh2 _ hmw,ZZa];unfold Zfy Ygq doG;by_cases e:b.data_.resp=0
   .rw[ZZj (decide_eq_true e),Ygc hmw hq hbt.1 hbt.2,ZZa,Z8p _ _ _ _ h.model,ZZa,hJ]
    simp only[ZZj e]
   .rw[ZZi (by simpa using e)]
    have:=hJ b.model (Zm.mk b.now b.data_.who (atI (atI b.m b.data_.who).queue 0).write (X4 (atI b.m b.data_.who) b.data_.beat) (atI (atI b.m b.data_.who).queue 0).size 0 b.data_.resp);refine Eq.trans (b:=_) ?_ (this.trans ?_)
    .rfl
    .simp only[ZZi e]
end
section
variable {n:Int} {b:Za} {s:Zi}
theorem Yti (h:Yz n b) (hs:s.sm) (hl:b.addr.live=true):Zni b s b.addr=some (Zdd b s b.addr):=by
 have hw:=Zbl h hl;have hmw:=(h.mst _ hw).right;have hbt:=Z7v h hl;have hwt:=Yid h.conf s b.picks;have hlm:=(Qk h.conf).2.1;unfold Zni;rw[We h.ml hw,ZZa,Zex _ hmw,ZZa,Zz6,ZZa];have hJ1:Jh b s b.addr (atI b.m b.addr.who) (Yx (X4 (atI b.m b.addr.who) b.addr.beat)) false=some (if Zho s b.picks=2/\Yx (X4 (atI b.m b.addr.who) b.addr.beat)≠3/\(atI b.m b.addr.who).tries < b.conf.maxRetry then 2
  else if Zho s b.picks=3/\Yx (X4 (atI b.m b.addr.who) b.addr.beat)=2/\(atI b.m b.addr.who).parted=false/\b.addr.who≠b.holder then 3 else (doG b b.addr).2.2,if Yx (X4 (atI b.m b.addr.who) b.addr.beat)=3 then Zpz b.conf s b.picks+2 else Zpz b.conf s b.picks):=by
  unfold Jh;rw[ZZi (by simp),Yuj _ hw h.ml hmw h.model hbt.1 hbt.2,ZZa,Ytl _ _ hs,ZZa,Yr (by omega) (by omega)];have hJ2:∀(r t:Int),Zc7 b s b.addr (atI b.m b.addr.who) (Yx (X4 (atI b.m b.addr.who) b.addr.beat)) r t=some (if Zho s b.picks=2/\Yx (X4 (atI b.m b.addr.who) b.addr.beat)≠3/\(atI b.m b.addr.who).tries < b.conf.maxRetry then 2
  else if Zho s b.picks=3/\Yx (X4 (atI b.m b.addr.who) b.addr.beat)=2/\(atI b.m b.addr.who).parted=false/\b.addr.who≠b.holder then 3 else r,t):=by
   intro r t;unfold Zc7;rw[Yt3 _ hs,ZZa];generalize Yx (X4 (atI b.m b.addr.who) b.addr.beat)=sl;have hJ3:Ka b s b.addr (atI b.m b.addr.who) sl r t (Zho s b.picks) false=some (if Zho s b.picks=3/\sl=2/\(atI b.m b.addr.who).parted=false/\b.addr.who≠b.holder then 3 else r,t):=by
    unfold Ka;rw[ZZi (by simp)];by_cases e1:Zho s b.picks=3
    .by_cases e2:sl=2
     .by_cases e3:(atI b.m b.addr.who).parted=true
      .simp[e1,e2,e3]
      .by_cases e4:b.addr.who=b.holder<;>simp[e1,e2,e3,e4]
     .simp[e1,e2]
    .simp[e1]
   have hJ3t:Ka b s b.addr (atI b.m b.addr.who) sl r t (Zho s b.picks) true=some (2,t):=by
    unfold Ka;rw[ZZj rfl]
   by_cases e1:Zho s b.picks=2
   .by_cases e2:sl=3
    .rw[ZZj (decide_eq_true e1),ZZi (by simpa using e2),hJ3,ZZi (λhx:_/\sl≠3/\_=>hx.2.1 e2)]
    .by_cases e3:(atI b.m b.addr.who).tries < b.conf.maxRetry
     .rw[ZZj (decide_eq_true e1),ZZj (by simpa using e2),decide_eq_true e3,hJ3t,ZZj ⟨e1,e2,e3⟩]
     .rw[ZZj (decide_eq_true e1),ZZj (by simpa using e2),decide_eq_false e3,hJ3,ZZi (λhx:_/\_/\_=>e3 hx.2.2)]
   .rw[ZZi (by simpa using e1),hJ3,ZZi (λhx:_/\_/\_=>e1 hx.1)]
  by_cases e:Yx (X4 (atI b.m b.addr.who) b.addr.beat)=3
  .rw[ZZj (decide_eq_true e),hJ2,ZZj e]
  .rw[ZZi (by simpa using e),hJ2,ZZi e]
 have hJ1t:Jh b s b.addr (atI b.m b.addr.who) (Yx (X4 (atI b.m b.addr.who) b.addr.beat)) true=some (1,0):=by
  unfold Jh;rw[ZZj rfl]
 unfold Zdd;by_cases e1:(atI b.m b.addr.who).broken=true
 .rw[ZZj e1,hJ1t,ZZj (.inl e1)]
 .by_cases e2:Yx (X4 (atI b.m b.addr.who) b.addr.beat)=0
  .rw[ZZi e1,decide_eq_true e2,hJ1t,ZZj (.inr e2)]
  .rw[ZZi e1,decide_eq_false e2,hJ1,ZZi (show ¬((atI b.m b.addr.who).broken=true\/Yx (X4 (atI b.m b.addr.who) b.addr.beat)=0) fromλhx=>hx.elim e1 e2)]
theorem Ysy (a:Int):Yx a=0\/Yx a=1\/Yx a=2\/Yx a=3:=by
 unfold Yx
 repeat' split
 all_goals simp
theorem Yxx (h:Yz n b) (hs:s.sm) (hp:0<=b.picks/\b.picks<=4000):Zr4 b s=some (Q0 b s):=by
 unfold Zr4 Q0;by_cases hl:b.addr.live=true
 .have hw:=Zbl h hl
  have hmw:=(h.mst _ hw).right;have hbt:=Z7v h hl;have hq:=Zqv hbt.1 hbt.2;have hwt:=Yid h.conf s b.picks;have hlm:=(Qk h.conf).2.1;have hA:=h.addr;unfold K1 at hA;rw[ZZj hl] at hA;rw[ZZi (by simp[hl]),ZZj hl,We h.ml hw,ZZa,Zwm hq,ZZa,Zh2 _ hmw,ZZa,Z86,ZZa,Ysh _ hs,ZZa];have hsr:=Ysy (X4 (atI b.m b.addr.who) b.addr.beat);have hJ8:∀x:Zg,Zel b s x=some {b with addr:=Zg.z0,data_:=x,picks:=b.picks+1}:=by
   intro x;unfold Zel;rw[Yr (by omega) (by omega)]
  unfold Zdd;by_cases e1:(atI b.m b.addr.who).broken=true
  .rw[ZZj e1,ZZj (.inl e1)]
   unfold Zcj Zck Zb8 Zcc Kn Zci Kk;simp only[if_true,e1,Va5,ZZf,if_false,hJ8,Yd8]
   congr 2
   rw[hA.2.1]
  .have e1':(atI b.m b.addr.who).broken=false:=by simpa using e1
   rw[ZZi e1];generalize hsl:Yx (X4 (atI b.m b.addr.who) b.addr.beat)=sl at hsr;by_cases e2:sl=0
   .rw[decide_eq_true e2,ZZj (.inr e2)]
    unfold Zcj Zck Zb8 Zcc Kn Zci Kk;have f1:¬sl=3:=by omega
    have f2:¬sl=1:=by omega
    have f3:¬sl=2:=by omega
    simp only[if_true,e1',f1,f2,f3,decide_false,Vbi,ZZf,if_false,hJ8,Yd8]
    congr 2
    rw[hA.2.1]
   .rw[decide_eq_false e2,ZZi (λhx=>hx.elim e1 e2)]
    unfold Zcj;rw[ZZi (by simp),Yss _ _ hs,ZZa,Ygc hmw hq hbt.1 hbt.2,ZZa,Z8p _ _ _ _ h.model,ZZa];have hdo:Ze6 b.model (atI (atI b.m b.addr.who).queue 0).write (X4 (atI b.m b.addr.who) b.addr.beat) (atI (atI b.m b.addr.who).queue 0).size (Zqw (atI b.m b.addr.who) b.addr.beat)=doG b b.addr:=rfl;rw[hdo];unfold Zck Zb8 Zcc Kn Zci Kk;simp only[e1',Vbi,if_true,hJ8,Yr (a:=Zpz b.conf s b.picks) (b:=2) (by omega) (by omega)];generalize Zho s b.picks=sd;by_cases g1:sl=3
    .subst g1
     by_cases g2:sd=2
     .subst g2;simp
     .by_cases g3:sd=3
      .subst g3;simp
      .simp[g2,g3]
    .by_cases g4:sl=2
     .subst g4
      by_cases g2:sd=2
      .subst g2
       by_cases g5:(atI b.m b.addr.who).tries < b.conf.maxRetry<;>simp[g5]
      .by_cases g3:sd=3
       .subst g3
        by_cases g5:(atI b.m b.addr.who).parted=true
        .simp[g5]
        .by_cases g6:b.addr.who=b.holder
         .simp[g5,g6]
         .have g7:¬b.holder=b.addr.who:=λe=>g6 e.symm
          simp[g5,g6,g7]
       .simp[g2,g3]
     .have g8:sl=1:=by omega
      subst g8;by_cases g2:sd=2
      .subst g2
       by_cases g5:(atI b.m b.addr.who).tries < b.conf.maxRetry<;>simp[g5]
      .by_cases g3:sd=3
       .subst g3;simp
       .simp[g2,g3]
 .rw[ZZj (by simpa using hl),ZZi hl]
  have hA:=h.addr;unfold K1 at hA;rw[ZZi hl] at hA;rw[<-hA]
theorem Yfj (b:Za) (k:Nat):((List.range (k+1)).map λj:Nat=>Kh b (j:Int))=((List.range k).map λj:Nat=>Kh b (j:Int))++[Kh b (k:Int)]:=by
 rw[List.range_succ,Vdk];rfl
theorem Z09 (h:Yz n b):b.holder=-1\/Zv b.conf b.holder=true:=by
 by_cases e:b.holder=-1
 .exact .inl e
 .exact .inr (Zew h e).1
theorem Y00 (h:Yz n b):Zrr b=some ((Zad b).1,(Zad b).2.1,(Zad b).2.2):=by
 have Yo:=Zam h.conf;have hml:=h.ml;have hL2:Ze2 b FU (Qu b) ((Qu b).length:Int) 0=some (match (List.range b.m.length).find? (Zat b) with
  | some k=>((k:Int),1,{b with buckets:=b.buckets.set k (Zgd (atI b.buckets (k:Int)) (atI b.conf.masters (k:Int))).1})
  | none=>if b.holder≠-1 then (-1,0,b) else ((Zc6 b.arb b.conf (Qu b)).2,2,{b with arb:=(Zc6 b.arb b.conf (Qu b)).1})):=by
  rw[Zd2];have key:∀(r m k:Nat),r < m->k+r=b.m.length->(∀j,j < k->Zat b j=false)->Ze2 b m (Qu b) (b.m.length:Int) (k:Int)=some (match (List.range' k r).find? (Zat b) with
  | some k=>((k:Int),1,{b with buckets:=b.buckets.set k (Zgd (atI b.buckets (k:Int)) (atI b.conf.masters (k:Int))).1})
  | none=>if b.holder≠-1 then (-1,0,b) else ((Zc6 b.arb b.conf (Qu b)).2,2,{b with arb:=(Zc6 b.arb b.conf (Qu b)).1})):=by
   intro r
   induction r with
   | zero=>
    intro m k hm hk _;obtain⟨m,rfl⟩:∃m',m=m'+1:=⟨m - 1,by omega⟩;show Zdt b _ (Qu b) (b.m.length:Int) (k:Int)=_;unfold Zdt;rw[ZZi (by simp;omega),Yo3 _ _ _ h.arb (by rw[Zd2,hml]),ZZa];by_cases e:b.holder=-1
    .simp[e]
    .simp[e]
   | succ r ih=>
    intro m k hm hk hj;obtain⟨m,rfl⟩:∃m',m=m'+1:=⟨m - 1,by omega⟩;show Zdt b _ (Qu b) (b.m.length:Int) (k:Int)=_;have hmk:=mas (c:=b.conf) (k:=k) (by omega);unfold Zdt;have hix:idx (Qu b) (k:Int)=some (Kh b (k:Int)):=by
     rw[Xp (by omega) (by rw[Zd2];omega),Zv8 h hmk]
    rw[ZZj (by simp;omega),hix,ZZa,Yak h.bl hmk,ZZa,Z02 hmk,ZZa,Yf9 _ (Zkc h.conf hmk),ZZa,Wx,ZZa,Vdd,List.find?_cons];by_cases e1:Kh b (k:Int)=true
    .by_cases e2:(Zgd (atI b.buckets (k:Int)) (atI b.conf.masters (k:Int))).2=true
     .have e3:Zat b k=true:=by simp[Zat,e1,e2]
      rw[e1,ZZi (by simp),ZZj e2,e3];rfl
     .have e3:Zat b k=false:=by simp[Zat,e1,e2]
      rw[e1,ZZi (by simp),ZZi e2,e3,Wp (by omega)];exact ih m (k+1) (by omega) (by omega) (λj hj2=>by
       by_cases hjk:j=k
       .subst hjk;exact e3
       .exact hj j (by omega))
    .have e3:Zat b k=false:=by simp[Zat,e1]
     have e4:Kh b (k:Int)=false:=by simpa using e1
     rw[e4,ZZj (by simp),e3,Wp (by omega)];exact ih m (k+1) (by omega) (by omega) (λj hj2=>by
       by_cases hjk:j=k
       .subst hjk;exact e3
       .exact hj j (by omega))
  have:=key b.m.length FU 0 (by have:=Kq;omega) (by omega) (λj hj=>by omega);rw[Vcv];simpa using this
 unfold Zrr;refine Zfp (σ:=List Bool) (n:=b.m.length) (by omega) (λk=>(List.range k).map λj:Nat=>Kh b (j:Int)) (B:=Zhp b) (L:=Zjo b) (λm s i=>rfl) (λk hk κ=>?_) λκ=>?_
 .have hmk:=mas (c:=b.conf) (k:=k) (by omega)
  unfold Zhp;have Y33:∀x:Bool,Wd 1 ((List.range k).map λj:Nat=>Kh b (j:Int)) [x]=some (((List.range k).map λj:Nat=>Kh b (j:Int))++[x]):=λx=>Ke (by simp;omega) (by simp;omega);rw[ZZj (by simpa using hk),We hml hmk,ZZa,Z6w (h.mst _ hmk).right,ZZa,Zp2 h.sl hmk,ZZa,Yfj];simp only[Y33,ZZa];unfold Kh;by_cases e1:Zo2 (atI b.m (k:Int))=true
  .by_cases e2:atI b.splits (k:Int)=0
   .by_cases e3:b.holder=-1
    .simp[e1,e2,e3]
    .simp[e1,e2,e3]
   .simp[e1,e2]
  .simp[e1]
 .unfold Zhp Zjn
  rw[ZZi (by simp)];show (if decide (b.holder≠-1)=true then (idx (Qu b) b.holder).bind _ else _)=_;unfold Zad;by_cases e:b.holder=-1
  .rw[ZZi (by simpa using e),ZZi (by simp),ZZi (λhx:b.holder≠-1/\_=>hx.1 e)]
   exact hL2
  .have hw:=(Zew h e).1
   have hmb:=Wb hw;rw[ZZj (by simpa using e),Xp hmb.1 (by rw[Zd2];omega),ZZa,Zv8 h hw];by_cases e2:Kh b b.holder=true
   .rw[ZZj e2,ZZj ⟨e,e2⟩]
   .rw[ZZi e2,ZZi (λhx:_/\Kh b b.holder=true=>e2 hx.2)]
    exact hL2
theorem Y41 {b:Za} {i:Int} (hr:Yt (atI b.m i)) (h:Kh b i=true):(atI b.m i).queue≠[]:=by
 have:=(Ygk h).1;have:=Je hr;intro hq;unfold Z0 at*;rw[ZZj hq] at*;omega
theorem Yz4 (x0:Za) (h:Yz n b) {who by_:Int} (hw:Zv b.conf who=true):((idx b.m who).bind λa405=>
  if decide (a405.beat=0)=true then Jy x0 {b with addr:=(Zg.mk true who a405.beat true by_ 0 0 false)} a405 who
  else Jy x0 {b with addr:=(Zg.mk true who a405.beat (decide (b.last≠who)) by_ 0 0 false)} a405 who)=some (who,Z6j b who by_):=by
 obtain⟨ok,hi⟩:=Ylj (h.mst _ hw).right;rw[We h.ml hw,ZZa];have hJ:∀f:Bool,Jy x0 {b with addr:=(Zg.mk true who (atI b.m who).beat f by_ 0 0 false)} (atI b.m who) who=some (who,{b with addr:=Zg.mk true who (atI b.m who).beat f by_ 0 0 false,holder:=if Yl (atI b.m who)=true/\b.holder=-1 then who else b.holder,held:=if Yl (atI b.m who)=true/\b.holder=-1 then 0 else b.held,m:=b.m.set who.toNat (X5 (atI b.m who)),last:=who}):=by
  intro f;unfold Jy Zhe Zhj;simp only[Z5y,ZZa,hi,We h.ml hw,Wx];by_cases e1:Yl (atI b.m who)=true
  .by_cases e2:b.holder=-1
   .simp only[e1,if_true,decide_eq_true e2,true_and,ZZj e2]
   .simp only[e1,if_true,decide_eq_false e2,ZZf,if_false,true_and,ZZi e2]
  .simp only[e1,if_false,ZZf,false_and]
 unfold Z6j;by_cases e:(atI b.m who).beat=0
 .rw[ZZj (decide_eq_true e),hJ,decide_eq_true e];rfl
 .rw[ZZi (by simpa using e),hJ,decide_eq_false e,Vdv]
end
section
variable {n:Int} {b:Za} {s:Zi}
theorem Ywu (h:Yz n b):Zpv b=some ((Jb b).1,(Jb b).2):=by
 have hp:=Zwf h;unfold Zpv Jb;rw[Y00 h,ZZa];by_cases e:(Zad b).1 < 0
 .rw[ZZj (decide_eq_true e),ZZj e]
 .rw[ZZi (by simpa using e),ZZi e]
  rcases hp.who with h1|h1
  .exact absurd (show (Zad b).1 < 0 by rw[h1];decide) e
  .exact Yz4 b hp.ok (by rw[hp.conf];exact h1.1)
theorem Y2n {c:Zc} {m:Zd} (h:Y4 c m=true):(Zgd c m).2=decide (c.tokens > 0):=by
 unfold Zgd;by_cases hp:m.prio=true
 .have h2:=h
  unfold Y4 at h2;rw[ZZj hp] at h2;simp only[ZZg,ZZl] at h2;by_cases e:c.tokens=0
  .simp[hp,h,e]
  .have:c.tokens > 0:=by omega
   simp[hp,h,e,this]
 .have h2:=h
  unfold Y4 at h2;rw[ZZi hp] at h2;simp only[ZZg,ZZl] at h2;simp[hp,h2.1]
theorem Z8r (x0:Za) (h:Yz n b) {who by_:Int} (hw:Zv b.conf who=true) (Yhy:Kh b who=true):Ja x0 b (Zg.mk false who 0 false by_ 0 0 false)=some (Z6j b who by_):=by
 obtain⟨ok,hi⟩:=Yl3 (h.mst _ hw).right;have hq:=Y41 (h.mst _ hw).right Yhy;have hmb:=Wb hw;unfold Ja;simp only;rw[ZZi (by simp;omega),We h.ml hw,ZZa];have hh:=Z09 h;have Ya:b.holder < 0↔b.holder=-1:=by
  rcases hh with hh|hh
  .omega
  .have:=Wb hh;omega
 have hJ:∀f:Bool,Zey x0 b (Zg.mk true who (atI b.m who).beat f by_ 0 0 false) (atI b.m who)=some {b with addr:=Zg.mk true who (atI b.m who).beat f by_ 0 0 false,holder:=if Yl (atI b.m who)=true/\b.holder=-1 then who else b.holder,held:=if Yl (atI b.m who)=true/\b.holder=-1 then 0 else b.held,m:=b.m.set who.toNat (X5 (atI b.m who)),last:=who}:=by
  intro f;unfold Zey Zdp Zhb;simp only[Zwm hq,ZZa,hi,We h.ml hw,Wx];unfold Yl;by_cases e1:(atI (atI b.m who).queue 0).lock=true
  .by_cases e2:(atI b.m who).broken=true
   .simp[e1,e2]
   .by_cases e3:b.holder=-1
    .have e4:=Ya.2 e3
     simp[e1,e2,e3,hq]
    .have e4:=mt Ya.1 e3
     simp[e1,e2,e3,e4]
  .simp[e1]
 unfold Z6j;by_cases e:(atI b.m who).beat=0
 .rw[ZZj (decide_eq_true e),hJ,decide_eq_true e];rfl
 .rw[ZZi (by simpa using e),hJ,decide_eq_false e,Vdv]
theorem Ycu (x0:Za) (c:Za) (by_:Int):Ja x0 c (Zg.mk false (-1) 0 false by_ 0 0 false)=some c:=by
 unfold Ja;rw[ZZj (by simp)]
theorem Yyg (h:Yz n b):Zsh b=some (Jb b).2:=by
 have Yo:=Zam h.conf;have hml:=h.ml;have hh:=Z09 h;have Ya:b.holder < 0↔b.holder=-1:=by
  rcases hh with hh|hh
  .omega
  .have:=Wb hh;omega
 have hp:=Zwf h;have hgo:∀(m:Nat) (c:Za) (who by_:Int) (k:Nat),0<=who->Zal b (m+1) c (Zg.mk false who 0 false by_ 0 0 false) (Qu b) (k:Int)=Ja b c (Zg.mk false who 0 false by_ 0 0 false):=by
  intro m c who by_ k hwho;have hn:¬who < 0:=by omega
  show Jx b _ c _ _ _=_;unfold Jx Zcg Ze8;simp only[decide_eq_false hn,ZZf,if_false,Yd8]
 have hL2:(¬(b.holder≠-1/\Kh b b.holder=true))->Zal b FU b (Zg.mk false (-1) 0 false 0 0 0 false) (Qu b) 0=some (Jb b).2:=by
  intro hnl;have key:∀(r m k:Nat),r+1 < m->k+r=b.m.length->(List.range b.m.length).find? (Zat b)=(List.range' k r).find? (Zat b)->Zal b m b (Zg.mk false (-1) 0 false 0 0 0 false) (Qu b) (k:Int)=some (Jb b).2:=by
   intro r
   induction r with
   | zero=>
    intro m k hm hk Zye;obtain⟨m,rfl⟩:∃m',m=m'+1:=⟨m - 1,by omega⟩;show Jx b _ b _ (Qu b) (k:Int)=_;unfold Jx Zcg Ze8;have hf:(List.range b.m.length).find? (Zat b)=none:=by rw[Zye];rfl
    rw[ZZi (by simp;omega),ZZi (by simp),ZZj (by simp)];have hpk:Zad b=if b.holder≠-1 then (-1,0,b) else ((Zc6 b.arb b.conf (Qu b)).2,2,{b with arb:=(Zc6 b.arb b.conf (Qu b)).1}):=by
     unfold Zad;rw[ZZi hnl,hf]
    by_cases e:b.holder=-1
    .rw[decide_eq_true (Ya.2 e),ZZj rfl,Ypx _ _ _ h.arb (by rw[Zd2,hml]),ZZa]
     rw[ZZi (by simpa using e)] at hpk;have hw:=hp.who;have Y3:=hp.ok;unfold Jb;rw[hpk] at hw Y3 ⊢;simp only at hw Y3 ⊢;rcases hw with hw|hw
     .rw[hw,Ycu,ZZj (by decide)]
     .have hmb:=Wb hw.1
      rw[ZZi (by omega)];exact Z8r b Y3 hw.1 hw.2.1
    .rw[decide_eq_false (mt Ya.1 e),ZZi (by simp),Ycu]
     rw[ZZj e] at hpk;unfold Jb;rw[hpk,ZZj (show (-1:Int) < 0 by decide)]
   | succ r ih=>
    intro m k hm hk Zye;obtain⟨m,rfl⟩:∃m',m=m'+1:=⟨m - 1,by omega⟩;show Jx b _ b _ (Qu b) (k:Int)=_;have hmk:=mas (c:=b.conf) (k:=k) (by omega);have hix:idx (Qu b) (k:Int)=some (Kh b (k:Int)):=by
     rw[Xp (by omega) (by rw[Zd2];omega),Zv8 h hmk]
    rw[Vdd,List.find?_cons] at Zye;unfold Jx Zcg Zjs;rw[ZZj (by simp;omega),ZZj (by simp),hix,ZZa,Yak h.bl hmk,ZZa,ZZa,Z02 hmk,ZZa,Ye5 _ (Zkc h.conf hmk),ZZa,Wx,ZZa,Wp (by omega),<-Y2n (h.mst _ hmk).bucket];by_cases e1:Kh b (k:Int)=true
    .by_cases e2:(Zgd (atI b.buckets (k:Int)) (atI b.conf.masters (k:Int))).2=true
     .have e3:Zat b k=true:=by simp[Zat,e1,e2]
      rw[e3] at Zye;have hpk:Zad b=((k:Int),1,{b with buckets:=b.buckets.set k (Zgd (atI b.buckets (k:Int)) (atI b.conf.masters (k:Int))).1}):=by
       unfold Zad;rw[ZZi hnl,Zye]
      rw[ZZj e1,ZZj e2];obtain⟨m,rfl⟩:∃m',m=m'+1:=⟨m - 1,by omega⟩;rw[hgo m _ _ _ _ (by omega)];have hw:=hp.who;have Y3:=hp.ok;unfold Jb;rw[hpk] at hw Y3 ⊢;simp only at hw Y3 ⊢;rcases hw with hw|hw
      .omega
      .rw[ZZi (by omega)]
       exact Z8r b Y3 hw.1 hw.2.1
     .have e3:Zat b k=false:=by simp[Zat,e1,e2]
      rw[e3] at Zye;rw[ZZj e1,ZZi e2];exact ih m (k+1) (by omega) (by omega) Zye
    .have e3:Zat b k=false:=by simp[Zat,e1]
     rw[e3] at Zye;rw[ZZi e1,ZZi (by simp)];exact ih m (k+1) (by omega) (by omega) Zye
  have:=key b.m.length FU 0 (by have:=Kq;omega) (by omega) (by rw[Vcv]);simpa using this
 unfold Zsh;refine Zfp (σ:=List Bool) (n:=b.m.length) (by omega) (λk=>(List.range k).map λj:Nat=>Kh b (j:Int)) (B:=Zhk b) (L:=Zi3 b) (λm s i=>rfl) (λk hk κ=>?_) λκ=>?_
 .have hmk:=mas (c:=b.conf) (k:=k) (by omega)
  unfold Zhk;have Y33:∀x:Bool,Wd 1 ((List.range k).map λj:Nat=>Kh b (j:Int)) [x]=some (((List.range k).map λj:Nat=>Kh b (j:Int))++[x]):=λx=>Ke (by simp;omega) (by simp;omega);rw[ZZj (by simpa using hk),We hml hmk,ZZa,Z62 (h.mst _ hmk).right,ZZa,Zp2 h.sl hmk,ZZa,Yfj];simp only[Y33,ZZa];unfold Kh;by_cases e1:Zo2 (atI b.m (k:Int))=true
  .by_cases e2:atI b.splits (k:Int)=0
   .by_cases e3:b.holder=-1
    .simp[e1,e2,e3]
    .have e4:=mt Ya.1 e3
     simp only[e1,e2,e3,e4,decide_true,decide_false,if_true,ZZf,if_false,Vby,Vdv]
   .simp[e1,e2]
  .simp[e1]
 .unfold Zhk Zjh Zi7
  rw[ZZi (by simp)];show (if decide (b.holder≥0)=true then (idx (Qu b) b.holder).bind _ else _)=_;by_cases e:b.holder=-1
  .rw[ZZi (by simp;omega),ZZi (by simp)]
   exact hL2 λhx=>hx.1 e
  .have hw:=(Zew h e).1
   have hmb:=Wb hw;rw[ZZj (by simpa using hmb.1),Xp hmb.1 (by rw[Zd2];omega),ZZa,Zv8 h hw];by_cases e2:Kh b b.holder=true
   .have hpk:Zad b=(b.holder,3,b):=by
     unfold Zad;rw[ZZj ⟨e,e2⟩]
    rw[ZZj e2];have hfu:FU=(FU - 1)+1:=by decide
    show Zal b FU b (Zg.mk false b.holder 0 false 3 0 0 false) (Qu b) ((0:Nat):Int)=_;rw[hfu,hgo _ _ _ _ _ hmb.1];unfold Jb;rw[hpk,ZZi (by simp;omega)];exact Z8r b h hw e2
   .rw[ZZi e2]
    exact hL2 λhx=>e2 hx.2
theorem Yui {α:Type} {X Y:List α} (hl:X.length=Y.length) {k:Nat} (hk:k < Y.length):idx (X.take k++Y.drop k) (k:Int)=some Y[k]/\(X.take k++Y.drop k).set k (X[k]'(by omega))=X.take (k+1)++Y.drop (k+1):=by
 have h1:(X.take k).length=k:=by rw[Vbu];omega
 constructor
 .rw[Xu (by simp;omega)]
  simp[List.getElem_append_right,h1]
 .rw[Vee _ _ (by omega),h1,Veh,Va4 hk,Vdq,List.take_succ_eq_append_getElem (show k < X.length by omega),List.append_assoc]
  rfl
def Zkn (c:Za) (k:Nat):Za:={c with splits:=(Xg c).splits.take k++c.splits.drop k,buckets:=(Xg c).buckets.take k++c.buckets.drop k}
theorem Yux (c:Za):Zkn c 0=c:=by simp[Zkn]
theorem Ykt (h:Yz n b):Zkn b b.conf.masters.length=Xg b:=by
 have h1:=h.sl;have h2:=h.bl;unfold Zkn Xg;simp only;rw[Vbh (by simp;omega),Vda (by omega),Vbh (by simp;omega),Vda (by omega),Vb2,Vb2]
theorem Ye0 (h:Yz n b) {k:Nat} (hk:k < b.conf.masters.length):idx (Zkn b k).splits (k:Int)=some (atI b.splits (k:Int))/\(Zkn b k).splits.set k (max (atI b.splits (k:Int) - 1) 0)=(Zkn b (k+1)).splits/\
  idx (Zkn b k).buckets (k:Int)=some (atI b.buckets (k:Int))/\(Zkn b k).buckets.set k (Zsd (atI b.buckets (k:Int)) (atI b.conf.masters (k:Int)))=(Zkn b (k+1)).buckets:=by
 have h1:=h.sl;have h2:=h.bl;have m1:=Yui (X:=(Xg b).splits) (Y:=b.splits) (by simp[Xg]) (k:=k) (by omega);have m2:=Yui (X:=(Xg b).buckets) (Y:=b.buckets) (by simp[Xg];omega) (k:=k) (by omega);rw[Ql (by omega),Ql (by omega),Ql hk];refine⟨m1.1,?_,m2.1,?_⟩
 .have:=m1.2
  simp only[Xg,List.getElem_map] at this;exact this
 .have:=m2.2
  simp only[Xg,List.getElem_zipWith] at this;exact this
end
section
variable {n:Int} {b:Za} {s:Zi}
theorem Yci (h:Yz n b) (s:Zi) (hd:b.data_=Zg.z0):Yz n (Xd b)/\Yz n (Q0 (Xd b) s):=⟨Ydt h,(Ydg (Ydt h) s (by rw[(Zxh b).1];exact hd)).1⟩
theorem Yng (x0:Za) (w:Zp) (h:Yz n b) (hs:s.sm) (hd:b.data_=Zg.z0) (hp:0<=b.picks/\b.picks<=4000) (hn:0<=b.now/\b.now<=4000):(if decide (b.holder≠(-1))=true then Jc x0 s b w (decide (b.held=b.conf.lockMost)) else Jc x0 s b w false)=some ({w with got:=(Wu b s).1},{(Wu b s).2 with now:=b.now+1}):=by
 obtain⟨h1,h2⟩:=Yci h s hd;have e1:=Zxh b;have hJ9:∀(c:Za) (w:Zp),Yz n c->c.now=b.now->Ze0 x0 s c w=some ({w with got:=(Jb c).1},{(Jb c).2 with now:=b.now+1}):=by
  intro c w hc hcn;unfold Ze0 Zez;rw[Ywu hc,ZZa];simp only;rw[(Z46 hc).1,hcn,Yr (by omega) (by omega)]
 have hJ8:∀w:Zp,Zb9 x0 s (Xd b) w=some ({w with got:=(Wu b s).1},{(Wu b s).2 with now:=b.now+1}):=by
  intro w;unfold Zb9 Wu;have e2:=Z5t (Xd b) s;by_cases hl:(Xd b).addr.live=true
  .rw[ZZj hl,Yti h1 hs hl,ZZa,Yr (by rw[e1.2.2.1];omega) (by rw[e1.2.2.1];omega)]
   have hb:Q0 (Xd b) s={Xd b with addr:=Zg.z0,data_:={(Xd b).addr with left:=(Zdd (Xd b) s (Xd b).addr).2,resp:=(Zdd (Xd b) s (Xd b).addr).1},picks:=(Xd b).picks+1}:=by
    unfold Q0;rw[ZZj hl]
   rw[<-hb];exact hJ9 _ _ h2 (by rw[e2.1,e1.2.2.2.1])
  .rw[ZZi hl]
   have hb:Q0 (Xd b) s=Xd b:=by
    unfold Q0;rw[ZZi hl]
   rw[hb];exact hJ9 _ _ h1 e1.2.2.2.1
 have hJ6:Jc x0 s b w false=Zb9 x0 s b w:=by unfold Jc;rw[ZZi (by simp)]
 by_cases e:b.holder=-1
 .have hb:Xd b=b:=by unfold Xd;rw[ZZi (λhx:b.holder≠-1/\b.held=b.conf.lockMost=>hx.1 e)]
  rw[ZZi (by simpa using e),hJ6];have:=hJ8 w
  rwa [hb] at this
 .rw[ZZj (by simpa using e)]
  by_cases e2:b.held=b.conf.lockMost
  .have hb:Xd b=Yx6 {b with m:=b.m.set b.holder.toNat {atI b.m b.holder with broken:=true}}:=by unfold Xd;rw[ZZj ⟨e,e2⟩]
   unfold Jc Zmf;rw[decide_eq_true e2,ZZj rfl,We h.ml (Zew h e).1,ZZa,Wx,ZZa,ZZa];have:=hJ8 w;rw[hb] at this;exact this
  .have hb:Xd b=b:=by unfold Xd;rw[ZZi (λhx:b.holder≠-1/\b.held=b.conf.lockMost=>e2 hx.2)]
   rw[decide_eq_false e2,hJ6];have:=hJ8 w
   rwa [hb] at this
theorem Ymv (x0:Za) (w:Zp) (h:Yz n b) (hs:s.sm) (hd:b.data_=Zg.z0) (hp:0<=b.picks/\b.picks<=4000) (hn:0<=b.now/\b.now<=4000) (hg:w.got=-1):(if decide (b.holder≥0)=true then J2 x0 s b w (decide (b.held≥b.conf.lockMost)) else J2 x0 s b w false)=some ({(Wu b s).2 with now:=b.now+1},{w with got:=(Wu b s).1}):=by
 obtain⟨h1,h2⟩:=Yci h s hd;have e1:=Zxh b;have e2:=Z5t (Xd b) s;have hz:=(Ydg h1 s (by rw[e1.1];exact hd)).2;have hJ9:Zdg x0 s (Xd b) w=some ({(Wu b s).2 with now:=b.now+1},{w with got:=(Wu b s).1}):=by
  unfold Zdg Zdb Wu;have hgr:=Yyg h2;have hgd:=(Z46 h2).1;rw[Yxx h1 hs (by rw[e1.2.2.1];exact hp),ZZa,hgr,ZZa];have hpk:=Zwf h2;rw[hgd,e2.1,e1.2.2.2.1,Yr (by omega) (by omega)];unfold Jb;rcases hpk.who with hw|hw
  .rw[ZZj (show (Zad (Q0 (Xd b) s)).1 < 0 by rw[hw];decide)]
   have:(Zad (Q0 (Xd b) s)).2.2.addr.live=false:=by rw[hpk.addr,hz]
   rw[ZZi (by simp[this])];rw[show (-1,(Zad (Q0 (Xd b) s)).2.2).1=w.got from hg.symm]
  .have hmb:=Wb hw.1
   rw[ZZi (show ¬(Zad (Q0 (Xd b) s)).1 < 0 by omega),ZZj (by rfl)];rfl
 have hh:=Z09 h;have Ya:b.holder≥0↔b.holder≠-1:=by
  rcases hh with hh|hh
  .omega
  .have:=Wb hh;omega
 have hJ7:J2 x0 s b w false=Zdg x0 s b w:=by unfold J2;rw[ZZi (by simp)]
 by_cases e:b.holder=-1
 .have hb:Xd b=b:=by unfold Xd;rw[ZZi (λhx:b.holder≠-1/\b.held=b.conf.lockMost=>hx.1 e)]
  rw[ZZi (by simp;omega),hJ7]
  rwa [hb] at hJ9
 .rw[ZZj (by simpa using Ya.2 e)]
  have hhe:=(Zew h e).2.2.2;by_cases e2:b.held=b.conf.lockMost
  .have hb:Xd b=Yx6 {b with m:=b.m.set b.holder.toNat {atI b.m b.holder with broken:=true}}:=by unfold Xd;rw[ZZj ⟨e,e2⟩]
   unfold J2;rw[decide_eq_true (show b.held≥b.conf.lockMost by omega),ZZj rfl,We h.ml (Zew h e).1,ZZa,Wx,ZZa];rw[hb] at hJ9;exact hJ9
  .have hb:Xd b=b:=by unfold Xd;rw[ZZi (λhx:b.holder≠-1/\b.held=b.conf.lockMost=>e2 hx.2)]
   rw[decide_eq_false (show ¬b.held≥b.conf.lockMost by omega),hJ7]
   rwa [hb] at hJ9
theorem Y5v (x0:Za) (w:Zp) (h:Yz b.now b) (hs:s.sm) (hw:w.ready=true) (hg:w.resp=0) (hp:0<=b.picks/\b.picks<=4000) (hn:0<=b.now/\b.now < 4000):
  Jf x0 s b w=some (if (Z9 b s).2.1=true then ({w with resp:=(Z9 b s).2.2,got:=(Wu (Z9 b s).1 s).1},{(Wu (Z9 b s).1 s).2 with now:=b.now+1}) else ({w with ready:=false,resp:=(Z9 b s).2.2},{(Z9 b s).1 with now:=b.now+1})):=by
 have hf:=Z7k s hn.1 h;have hfn:=Z51 b s;obtain⟨w1,w2,w3,w4,w5,w6,rdy,rsp,w9⟩:=w;simp only at hw hg;subst hw;subst hg;unfold Jf;rw[Yrg (Zp.mk w1 w2 w3 w4 w5 w6 true 0 w9) h hs (by omega),ZZa];simp only;have hresp:(if b.data_.live=true/\¬b.data_.left > 0 then Zp.mk w1 w2 w3 w4 w5 w6 true b.data_.resp w9 else Zp.mk w1 w2 w3 w4 w5 w6 true 0 w9)=Zp.mk w1 w2 w3 w4 w5 w6 true (Z9 b s).2.2 w9:=by
  unfold Z9;by_cases hd:b.data_.live=true
  .by_cases hl:b.data_.left > 0
   .rw[ZZi (λhx:b.data_.live=true/\¬b.data_.left > 0=>hx.2 hl),ZZi (by simp[hd]),ZZj hl]
   .rw[ZZj ⟨hd,hl⟩,ZZi (by simp[hd]),ZZi hl]
    congr 1
    split
    .rfl
    .split
     .rfl
     .split<;>rfl
  .rw[ZZi (λhx:b.data_.live=true/\¬b.data_.left > 0=>hd hx.1),ZZj (by simpa using hd)]
 rw[hresp];by_cases hr:(Z9 b s).2.1=true
 .rw[ZZj hr,ZZj hr]
  simp only[hr];have:=Yng x0 (Zp.mk w1 w2 w3 w4 w5 w6 true (Z9 b s).2.2 w9) hf.1 hs (hf.2 hr) (by rw[hfn.2.1];exact hp) (by rw[hfn.1];omega);rw[hfn.1] at this;exact this
 .rw[ZZi hr,ZZi hr]
  unfold Zez;have Z6:(Z9 b s).2.1=false:=by simpa using hr
  rw[Z6,hfn.1,Yr (by omega) (by omega)]
theorem Y6f (x0:Za) (w:Zp) (h:Yz b.now b) (hs:s.sm) (hw:w.ready=true) (hg:w.resp=0) (hgot:w.got=-1) (hp:0<=b.picks/\b.picks<=4000) (hn:0<=b.now/\b.now < 4000):
  J3 x0 s b w=some (if (Z9 b s).2.1=true then ({(Wu (Z9 b s).1 s).2 with now:=b.now+1},{w with resp:=(Z9 b s).2.2,got:=(Wu (Z9 b s).1 s).1}) else ({(Z9 b s).1 with now:=b.now+1},{w with ready:=false,resp:=(Z9 b s).2.2})):=by
 have hf:=Z7k s hn.1 h;have hfn:=Z51 b s;have Yyp:=(Qk h.conf).2.1;obtain⟨w1,w2,w3,w4,w5,w6,rdy,rsp,w9⟩:=w;simp only at hw hg hgot;subst hw;subst hg;subst hgot;have hT:∀w2:Zp,w2.ready=true->w2.got=-1->(Z9 b s).2.1=true->Q2 x0 s (Z9 b s).1 w2=some ({(Wu (Z9 b s).1 s).2 with now:=b.now+1},{w2 with got:=(Wu (Z9 b s).1 s).1}):=by
  intro w2 h1 h2 hr;unfold Q2;rw[ZZj h1];have:=Ymv x0 w2 hf.1 hs (hf.2 hr) (by rw[hfn.2.1];exact hp) (by rw[hfn.1];omega) h2;rw[hfn.1] at this;exact this
 have hF:∀(c:Za) (w2:Zp),w2.ready=false->c.now=b.now->Q2 x0 s c w2=some ({c with now:=b.now+1},w2):=by
  intro c w2 h1 h2;unfold Q2 Zdb;rw[ZZi (by simp[h1]),h2,Yr (by omega) (by omega)]
 unfold J3 Zkt;by_cases hd:b.data_.live=true
 .have Za2:=h.data
  unfold Km at Za2;rw[ZZj hd] at Za2;rw[ZZj hd];by_cases hl:b.data_.left > 0
  .have e:Z9 b s=({b with data_:={b.data_ with left:=b.data_.left - 1}},false,0):=by
    unfold Z9;rw[ZZi (by simp[hd]),ZZj hl]
   rw[decide_eq_true hl,ZZj rfl,Xh (by omega) (by omega),hF {b with data_:={b.data_ with left:=b.data_.left - 1}} (Zp.mk w1 w2 w3 w4 w5 w6 false 0 (-1)) rfl rfl,e,ZZi (by simp)]
  .rw[decide_eq_false hl,ZZi (by simp),ZZj hd]
   have Yhx:¬(b.data_.resp≠0/\b.data_.second=false)->J1 x0 s b (Zp.mk w1 w2 w3 w4 w5 w6 true 0 (-1)) false=some (if (Z9 b s).2.1=true then ({(Wu (Z9 b s).1 s).2 with now:=b.now+1},Zp.mk w1 w2 w3 w4 w5 w6 true (Z9 b s).2.2 (Wu (Z9 b s).1 s).1) else ({(Z9 b s).1 with now:=b.now+1},Zp.mk w1 w2 w3 w4 w5 w6 false (Z9 b s).2.2 (-1))):=by
    intro hns;unfold J1;rw[ZZi (by simp),ZZj hd,Yr1 h hs (by omega) hd hl hns,ZZa];have hr:(Z9 b s).2.1=true/\(Z9 b s).2.2=b.data_.resp:=by
     unfold Z9;rw[ZZi (by simp[hd]),ZZi hl,ZZi hns];split
     .exact⟨rfl,rfl⟩
     .split<;>exact⟨rfl,rfl⟩
    rw[ZZj hr.1,hr.2];exact hT _ rfl rfl hr.1
   by_cases h2:b.data_.resp≠0
   .rw[ZZj (decide_eq_true h2)]
    by_cases h3:b.data_.second=false
    .rw[h3]
     have e:Z9 b s=(if b.addr.live then {Wh {b with data_:={b.data_ with second:=true}} b.addr with addr:=Zg.z0} else {b with data_:={b.data_ with second:=true}},false,b.data_.resp):=by
      unfold Z9;rw[ZZi (by simp[hd]),ZZi hl,ZZj ⟨h2,h3⟩]
     have hq:∀(x y:Option (Za×Zp)),(if (Z9 b s).2.1=true then x else y)=y:=by
      intro x y;rw[e];exact ZZi (by simp)
     have hq2:(some (if (Z9 b s).2.1=true then ({(Wu (Z9 b s).1 s).2 with now:=b.now+1},Zp.mk w1 w2 w3 w4 w5 w6 true (Z9 b s).2.2 (Wu (Z9 b s).1 s).1) else ({(Z9 b s).1 with now:=b.now+1},Zp.mk w1 w2 w3 w4 w5 w6 false (Z9 b s).2.2 (-1))))=some ({(Z9 b s).1 with now:=b.now+1},Zp.mk w1 w2 w3 w4 w5 w6 false b.data_.resp (-1)):=by
      rw[show (Z9 b s).2.2=b.data_.resp by rw[e]];exact congrArg some (ZZi (by rw[e];simp))
     refine Eq.trans ?_ hq2.symm;unfold J1;rw[ZZj (by rfl),show (Z9 b s).1=(if b.addr.live then {Wh {b with data_:={b.data_ with second:=true}} b.addr with addr:=Zg.z0} else {b with data_:={b.data_ with second:=true}}) by rw[e]];by_cases ha:b.addr.live=true
     .rw[ZZj ha,ZZj ha]
      have hwa:=Zbl h ha;rw[Z2j (b:={b with addr:=Zg.z0,data_:={b.data_ with second:=true}}) b.addr h.conf hwa h.ml h.bl (h.mst _ hwa).right h.arb,ZZa];have er:Wh {b with addr:=Zg.z0,data_:={b.data_ with second:=true}} b.addr={Wh {b with data_:={b.data_ with second:=true}} b.addr with addr:=Zg.z0}:=by
       unfold Wh;split
       .rfl
       .split<;>rfl
      rw[er];exact hF _ _ rfl (Zxs _ _).1
     .rw[ZZi ha,ZZi ha]
      exact hF _ _ rfl rfl
    .have h4:b.data_.second=true:=by simpa using h3
     rw[h4,Va5];exact Yhx λhx=>h3 hx.2
   .rw[ZZi (by simpa using h2)]
    exact Yhx λhx=>h2 hx.1
 .have hd2:b.data_.live=false:=by simpa using hd
  have e:Z9 b s=(b,true,0):=by unfold Z9;rw[ZZj hd2]
  rw[ZZi hd,ZZi (by simp),ZZi hd];unfold J1;have:=hT (Zp.mk w1 w2 w3 w4 w5 w6 true 0 (-1)) rfl rfl (by rw[e]);rw[e] at this ⊢;rw[ZZi (by simp),ZZi hd,ZZj rfl];simp only at this ⊢;rw[this]
theorem Y5o (x0:Za) (w:Zp) (h:Yz b.now b) (hs:s.sm) (hw:w.ready=true) (hg:w.resp=0) (hp:0<=b.picks/\b.picks<=4000) (hn:0<=b.now/\b.now < 4000):
  Zan x0 s FU b w (b.splits.length:Int) 0=Jf x0 s (Js (Xg b)) w:=by
 have Yo:=Zam h.conf;have hsl:=h.sl;rw[hsl];have:=Zfp (σ:=Za×Zp×Int) (n:=b.conf.masters.length) (by omega) (λk=>(Zkn b k,w,(b.conf.masters.length:Int))) (B:=λκ st i=>Zhq x0 s (λa b c i=>κ (a,b,c) i) st.1 st.2.1 st.2.2 i) (L:=λm st i=>Zan x0 s m st.1 st.2.1 st.2.2 i) (λm s i=>rfl) (r:=Jf x0 s (Js (Xg b)) w) (λk hk κ=>?_) λκ=>?_
 .simp only[Yux] at this
  exact this
 .have hmk:=mas (c:=b.conf) hk
  obtain⟨t1,t2,t3,t4⟩:=Ye0 h hk;have hsp:=(h.mst _ hmk).split;have hlm:=(Qk h.conf).2.2.2;unfold Zhq;simp only;rw[ZZj (by simpa using hk),t1,ZZa,Wx,ZZa,t3,ZZa,show (Zkn b k).conf=b.conf from rfl,Z02 hmk,ZZa,Yhb _ (Zkc h.conf hmk),ZZa,Wx,ZZa,Xh (by omega) (by omega),Zuh,Vcd,t2,t4];rfl
 .have hto:=Z5h h
  unfold Zhq;simp only[Ykt h];rw[ZZi (by simp)];unfold Js;by_cases e:b.holder=-1
  .rw[ZZi (by simp[Xg,e]),ZZj (show (Xg b).holder=-1 from e)]
  .have hh:=(Zew hto (show (Xg b).holder≠-1 from e)).2.2.2
   have hl:=(Qk h.conf).2.2.1;have h3:(Xg b).conf.lockMost=b.conf.lockMost:=rfl;rw[ZZj (by simp[Xg,e]),ZZi (show ¬(Xg b).holder=-1 from e),Yr (by omega) (by omega),Zce]
theorem Y5i (x0:Za) (w:Zp) (h:Yz b.now b) (hs:s.sm):Zba x0 s FU b w 0=J3 x0 s (Js (Xg b)) w:=by
 have Yo:=Zam h.conf;have hml:=h.ml;have:=Zfp (σ:=Za×Zp) (n:=b.conf.masters.length) (by omega) (λk=>(Zkn b k,w)) (B:=λκ st i=>Ziu x0 s (λa b i=>κ (a,b) i) st.1 st.2 i) (L:=λm st i=>Zba x0 s m st.1 st.2 i) (λm s i=>rfl) (r:=J3 x0 s (Js (Xg b)) w) (λk hk κ=>?_) λκ=>?_
 .simp only[Yux] at this
  exact this
 .have hmk:=mas (c:=b.conf) hk
  obtain⟨t1,t2,t3,t4⟩:=Ye0 h hk;have hsp:=(h.mst _ hmk).split;have hlm:=(Qk h.conf).2.2.2;unfold Ziu;simp only;rw[ZZj (by show decide ((k:Int) < (b.m.length:Int))=true;rw[hml];simpa using hk),t1,ZZa,Wx,ZZa,t3,ZZa,show (Zkn b k).conf=b.conf from rfl,Z02 hmk,ZZa,Ye4 _ (Zkc h.conf hmk),ZZa,Wx,ZZa,Xh (by omega) (by omega),Zuh,Int.max_comm,Vcd,t2,t4];rfl
 .have hto:=Z5h h
  have hh:=Z09 h;unfold Ziu;simp only[Ykt h];rw[ZZi (by show ¬decide ((b.conf.masters.length:Int) < (b.m.length:Int))=true;rw[hml];simp)];unfold Js;by_cases e:b.holder=-1
  .rw[ZZi (by show ¬decide (b.holder≥0)=true;rw[e];simp),ZZj (show (Xg b).holder=-1 from e)]
  .have hh2:=(Zew hto (show (Xg b).holder≠-1 from e)).2.2.2
   have hl:=(Qk h.conf).2.2.1;have h3:(Xg b).conf.lockMost=b.conf.lockMost:=rfl;have hmb:=Wb (Zew h e).1;rw[ZZj (by show decide (b.holder≥0)=true;simpa using hmb.1),ZZi (show ¬(Xg b).holder=-1 from e),Yr (by omega) (by omega),Zce,Vdn]
theorem Yt9 (h:Yz n b):Zmx b s=Zeo b s (Zku b):=by
 unfold Zmx Ze7 Zku;by_cases ha:b.addr.live=true
 .have hwa:=Zbl h ha
  by_cases hd:b.data_.live=true
  .have hwd:=Qv h hd
   simp only[ha,hd,if_true,We h.ml hwa,We h.ml hwd,ZZa,Zex _ (h.mst _ hwa).right,Zex _ (h.mst _ hwd).right];by_cases hf:b.addr.first=true<;>simp[hf]
  .have hd2:b.data_.live=false:=by simpa using hd
   simp only[ha,hd2,if_true,ZZf,if_false,We h.ml hwa,ZZa,Zex _ (h.mst _ hwa).right];by_cases hf:b.addr.first=true<;>simp[hf]
 .have Ks:b.addr.live=false:=by simpa using ha
  by_cases hd:b.data_.live=true
  .have hwd:=Qv h hd
   simp only[Ks,hd,if_true,ZZf,if_false,We h.ml hwd,ZZa,Zex _ (h.mst _ hwd).right]
  .have hd2:b.data_.live=false:=by simpa using hd
   simp only[Ks,hd2,if_true,ZZf,if_false]
theorem Yzx (h:Yz n b):Zvm b=some (Zku b):=by
 unfold Zvm Zf3 Zku;by_cases ha:b.addr.live=true
 .have hwa:=Zbl h ha
  by_cases hd:b.data_.live=true
  .have hwd:=Qv h hd
   simp only[ha,hd,if_true,We h.ml hwa,We h.ml hwd,ZZa,Zh2 _ (h.mst _ hwa).right,Zh2 _ (h.mst _ hwd).right];by_cases hf:b.addr.first=true<;>simp[hf]
  .have hd2:b.data_.live=false:=by simpa using hd
   simp only[ha,hd2,if_true,ZZf,if_false,We h.ml hwa,ZZa,Zh2 _ (h.mst _ hwa).right];by_cases hf:b.addr.first=true<;>simp[hf]
 .have Ks:b.addr.live=false:=by simpa using ha
  by_cases hd:b.data_.live=true
  .have hwd:=Qv h hd
   simp only[Ks,hd,if_true,ZZf,if_false,We h.ml hwd,ZZa,Zh2 _ (h.mst _ hwd).right]
  .have hd2:b.data_.live=false:=by simpa using hd
   simp only[Ks,hd2,if_true,ZZf,if_false]
theorem Y4s (x0:Za) (w:Zp) (h:Yz n b) (ps:List Zl) (hps:ps.length < 1048577/\∀p∈ps,p.req.sm):Zer x0 s FU b w ps (ps.length:Int) 0=Zan x0 s FU (Xv b ps) w ((Xv b ps).splits.length:Int) 0:=by
 have Ya:=Zcd h.conf;have:=Zfp (σ:=Za×Zp×List Zl×Int) (n:=ps.length) (by omega) (λk=>(Xv b (ps.take k),w,ps,(ps.length:Int))) (B:=λκ st i=>Zhi x0 s (λa b c d i=>κ (a,b,c,d) i) st.1 st.2.1 st.2.2.1 st.2.2.2 i) (L:=λm st i=>Zer x0 s m st.1 st.2.1 st.2.2.1 st.2.2.2 i) (λm s i=>rfl) (r:=Zan x0 s FU (Xv b ps) w ((Xv b ps).splits.length:Int) 0) (λk hk κ=>?_) λκ=>?_
 .exact this
 .have hI:=Zr6 h (ps.take k)
  have hc:=(Zms b (ps.take k)).1;rw[Z9b b ps k hk];generalize Xv b (ps.take k)=c at hI hc ⊢;unfold Zhi Ku;simp only;rw[ZZj (by simpa using hk),Xu hk,ZZa,Jl _ _ (by rw[hc];exact Ya),ZZa];by_cases e:Zv c.conf ps[k].who=true
  .obtain⟨ok,hp⟩:=Ynl (r:=ps[k].req) (hI.mst _ e).right (hps.2 _ (Vas hk))
   rw[ZZj e,ZZj e,We hI.ml e,ZZa,hp,ZZa,Wx,ZZa]
  .rw[ZZi e,ZZi e]
 .unfold Zhi
  simp only;rw[ZZi (by simp),Vbx]
theorem Y5a (x0:Za) (w:Zp) (h:Yz n b) (ps:List Zl) (hps:ps.length < 1048577/\∀p∈ps,p.req.sm):Zfw x0 s FU b w ps 0=Zba x0 s FU (Xv b ps) w 0:=by
 have Ya:=Zcd h.conf;have:=Zfp (σ:=Za×Zp×List Zl) (n:=ps.length) (by omega) (λk=>(Xv b (ps.take k),w,ps)) (B:=λκ st i=>Zjk x0 s (λa b c i=>κ (a,b,c) i) st.1 st.2.1 st.2.2 i) (L:=λm st i=>Zfw x0 s m st.1 st.2.1 st.2.2 i) (λm s i=>rfl) (r:=Zba x0 s FU (Xv b ps) w 0) (λk hk κ=>?_) λκ=>?_
 .exact this
 .have hI:=Zr6 h (ps.take k)
  have hc:=(Zms b (ps.take k)).1;rw[Z9b b ps k hk];generalize Xv b (ps.take k)=c at hI hc ⊢;unfold Zjk Ku;simp only;rw[ZZj (by simpa using hk),Xu hk,ZZa,Zjy hI.ml (by rw[hc];exact Ya),ZZa];by_cases e:Zv c.conf ps[k].who=true
  .obtain⟨ok,hp⟩:=Yov (r:=ps[k].req) (hI.mst _ e).right (hps.2 _ (Vas hk))
   rw[ZZj e,ZZj e,We hI.ml e,ZZa,hp,ZZa,Wx,ZZa]
  .rw[ZZi e,ZZi e]
 .unfold Zjk
  simp only;rw[ZZi (by simp),Vbx]
end
theorem Y0l {b:Za} {s:Zi} (h:Zqm b) (hs:s.sm) (hn:b.now < 4000):Zmx b s=some ((Ztb b s).2,(Ztb b s).1):=by
 have hP:=Zr6 h.i (Zbk s b.now);have hc:=Zms b (Zbk s b.now);have hp:=h.picks;have hn2:=h.now;have hO:=Yjl h s;have eO:=Z71 b s;rw[Yt9 h.i];unfold Zeo;rw[Yoa _ _ hs,ZZa,Y4s b (Zku b) h.i _ (Yp4 hs _)];have hP2:Yz (Xv b (Zbk s b.now)).now (Xv b (Zbk s b.now)):=by rw[hc.2.1];exact hP
 rw[Y5o b (Zku b) hP2 hs rfl rfl (by rw[hc.2.2.1];omega) (by rw[hc.2.1];omega)];have hO2:Yz (Kt b s).now (Kt b s):=by rw[eO.1];exact hO
 show Jf b s (Kt b s) (Zku b)=_;rw[Y5v b (Zku b) hO2 hs rfl rfl (by rw[eO.2.2.1];omega) (by rw[eO.1];omega),eO.1];unfold Ztb;split<;>rfl
theorem Y0u {b:Za} {s:Zi} (h:Zqm b) (hs:s.sm) (hn:b.now < 4000):Zus b s=some ((Ztb b s).1,(Ztb b s).2):=by
 have hP:=Zr6 h.i (Zbk s b.now);have hc:=Zms b (Zbk s b.now);have hp:=h.picks;have hn2:=h.now;have hO:=Yjl h s;have eO:=Z71 b s;unfold Zus;rw[Zyy b h.sm,ZZa,Yzx h.i,ZZa,Yoc _ _ hs,ZZa,Y5a b (Zku b) h.i _ (Yp4 hs _)];have hP2:Yz (Xv b (Zbk s b.now)).now (Xv b (Zbk s b.now)):=by rw[hc.2.1];exact hP
 rw[Y5i b (Zku b) hP2 hs];have hO2:Yz (Kt b s).now (Kt b s):=by rw[eO.1];exact hO
 show J3 b s (Kt b s) (Zku b)=_;rw[Y6f b (Zku b) hO2 hs rfl rfl rfl (by rw[eO.2.2.1];omega) (by rw[eO.1];omega),eO.1];unfold Ztb;split<;>rfl
def okB (b:Za):Bool:=(Znc b).getD false
theorem Yih {b:Za} (hs:b.sm):okB b=true↔Zqm b:=by
 obtain⟨r,-,h2,h3⟩:=Ydk b hs;unfold okB;rw[h2];exact h3
theorem i_okB {b:Za} (hs:b.sm):Zqt b=some (okB b):=by
 obtain⟨r,h1,h2,h3⟩:=Ydk b hs;unfold okB;rw[h1,h2];rfl
theorem s_okB {b:Za} (hs:b.sm):Znc b=some (okB b):=by
 obtain⟨r,h1,h2,h3⟩:=Ydk b hs;unfold okB;rw[h2];rfl
def Zwb (b:Za) (s:Zi):Za×Zp:=if okB b=true/\b.now≠4000 then Ztb b s else (b,Zp.z0)
theorem Yp0 {b:Za} {s:Zi} (hb:b.sm) (hs:s.sm):Zut b s=some (Zwb b s):=by
 unfold Zut Zwb;rw[Yby b hb,ZZa,i_okB hb,ZZa];unfold Zld;by_cases h:okB b=true
 .have hP:=(Yih hb).1 h
  rw[h,ZZi (by simp)];by_cases hn:b.now=4000
  .rw[ZZj (by simp[hn]),ZZi (by simp[hn])]
  .have:=hP.now
   rw[ZZi (by simpa using hn),ZZj ⟨rfl,hn⟩,Y0l hP hs (by omega),ZZa,Yby _ (Yup hP s (by omega)).1.sm];rfl
 .have h2:okB b=false:=by simpa using h
  simp[h2]
def Zdc (left:Int) (n:Nat):Int:=if left < (n:Int) then -1 else left - n
def Sz (f:Int->Option Int) (n:Nat):Prop:=∀left,0<=left->left<=1048576->f left=some (Zdc left n)
theorem Sz.tail {f:Int->Option Int} {n:Nat} (h:Sz f n):Sz (λl=>(f l).bind λr=>if decide (r < 0)=true then some (-1) else some r) n:=by
 intro l h0 h1;dsimp only;rw[h l h0 h1,ZZa];unfold Zdc;by_cases hc:l < (n:Int)
 .simp[hc]
 .rw[ZZi hc,ZZi (by simp;omega)]
theorem Sz.seq {f g:Int->Option Int} {n m:Nat} (h:Sz f n) (k:Sz g m):Sz (λl=>(f l).bind λr=>if decide (r < 0)=true then some (-1) else g r) (n+m):=by
 intro l h0 h1;dsimp only;rw[h l h0 h1,ZZa];unfold Zdc;by_cases hc:l < (n:Int)
 .rw[ZZj hc,ZZj (by decide),ZZj (by omega)]
 .rw[ZZi hc,ZZi (by simp;omega),k _ (by omega) (by omega)]
  unfold Zdc;by_cases hd:l - (n:Int) < (m:Int)
  .rw[ZZj hd,ZZj (by omega)]
  .rw[ZZi hd,ZZi (by omega)]
   congr 1;omega
theorem Sz.flat {n:Nat} (hn:n<=9223372036854775807):Sz (λl=>if decide ((Y8 l (n:Int)) < 0)=true then some (-1) else some (Y8 l (n:Int))) n:=by
 intro l h0 h1;dsimp only;rw[Xh (by omega) (by omega)];unfold Zdc;by_cases h:l < (n:Int)
 .rw[ZZj (by simp;omega),ZZj h]
 .rw[ZZi (by simp;omega),ZZi h]
theorem Sz.list {α:Type} (xs:List α) (f:α->Int->Option Int) (t:α->Nat) (hn:xs.length<=9223372036854775807) (hf:∀a∈xs,Sz (f a) (t a)) (L:Int->Nat->Int->Int->Option Int)
  (hL:∀l m v i,L l (m+1) v i=if decide (i < (xs.length:Int))=true then (idx xs i).bind λa=>(f a v).bind λr=>if decide (r < 0)=true then some (-1) else L l m r (Zt i 1) else some v):
  Sz (λl=>if decide ((Y8 l (xs.length:Int)) < 0)=true then some (-1) else L l FU (Y8 l (xs.length:Int)) 0) (xs.length+(xs.map t).sum):=by
 intro l h0 h1;dsimp only;rw[Xh (by omega) (by omega)];by_cases h:l < (xs.length:Int)
 .rw[ZZj (by simp;omega)]
  unfold Zdc;rw[ZZj (by omega)]
 .rw[ZZi (by simp;omega)]
  have key:=Ydf (ρ:=Int) xs (by omega) (λa s=>(f a s).bind λr=>if decide (r < 0)=true then some (.inr (-1)) else some (.inl r)) some (L l) (λm s i=>by
   rw[hL]
   congr 1;congr 1;funext a
   cases f a s with
   | none=>rfl
   | some r=>
    simp only[ZZa];by_cases hr:r < 0<;>simp[hr,goL]) (l - xs.length)
  rw[key];have run:∀(ys:List α) (s:Int),0<=s->s<=1048576->(∀a∈ys,Sz (f a) (t a))->Z2w (λa s=>(f a s).bind λr=>if decide (r < 0)=true then some (.inr (-1)) else some (.inl r)) some ys s=some (Zdc s (ys.map t).sum):=by
   intro ys
   induction ys with
   | nil=>intro s hs0 _ _;simp[Z2w,Zdc];omega
   | cons p ys ih=>
    intro s hs0 hs1 hp;simp only[Z2w,hp p Vaa s hs0 hs1,ZZa,Va1,Vdb];unfold Zdc;by_cases hr:s < (t p:Int)
    .rw[ZZj hr,ZZj (by decide),ZZj (by omega)]
     rfl
    .rw[ZZi hr,ZZi (by simp;omega)]
     simp only[ZZa];rw[ih _ (by omega) (by omega) (λq hq=>hp q (Vac _ hq))];unfold Zdc;by_cases h3:s - (t p:Int) < ((ys.map t).sum:Nat)
     .rw[ZZj h3,ZZj (by omega)]
     .rw[ZZi h3,ZZi (by omega)]
      congr 1;omega
  rw[run xs _ (by omega) (by omega) hf];unfold Zdc;by_cases h3:l - (xs.length:Int) < ((xs.map t).sum:Nat)
  .rw[ZZj h3,ZZj (by omega)]
  .rw[ZZi h3,ZZi (by omega)]
   congr 1;omega
theorem Zo5 {α:Type} {xs:List α} {t:α->Nat} {a:α} (h:a∈xs):t a<=(xs.map t).sum:=by
 induction xs with
 | nil=>simp at h
 | cons q l ih=>
  simp only[Va1,Vdb];rcases Vau.1 h with rfl|h
  .omega
  .have:=ih h;omega
def Zf.tot (r:Zf):Nat:=r.data_.length
def Zbv (l:List Zf):Nat:=l.length+(l.map Zf.tot).sum
def Zb.tot (m:Zb):Nat:=Zbv m.queue
def Zeg (l:List Zb):Nat:=l.length+(l.map Zb.tot).sum
def Zh.tot (m:Zh):Nat:=m.mem.length+(m.dev.regs.length+m.dev.fifo.length)
def Za.tot (b:Za):Nat:=b.conf.masters.length+(Zeg b.m+(b.buckets.length+(b.splits.length+(b.model.tot+b.log.length))))
theorem Y1b (c:Zk) (h:c.ok):Sz (Z5d c) c.masters.length:=(Sz.flat (by have:=h.1.1;unfold maxLen at this;omega)).tail
theorem Yoq (r:Zf) (h:r.ok):Sz (Zv7 r) r.tot:=(Sz.flat (by have:=h.2.2.2.2.2.1;unfold maxLen at this;omega)).tail
theorem Yz5 (l:List Zf) (h0:l.length<=maxLen) (h:∀r∈l,r.ok):Sz (Z4w l) (Zbv l):=
 Sz.list l Zv7 Zf.tot (by unfold maxLen at h0;omega) (λa ha=>Yoq a (h a ha)) (Znz l) (λ_ _ _ _=>rfl)
theorem Y2i (m:Zb) (h:m.ok):Sz (Z04 m) m.tot:=(Yz5 m.queue h.1.1 h.1.2).tail
theorem Y0q (l:List Zb) (h0:l.length<=maxLen) (h:∀r∈l,r.ok):Sz (Z5w l) (Zeg l):=
 Sz.list l Z04 Zb.tot (by unfold maxLen at h0;omega) (λa ha=>Y2i a (h a ha)) (Zn0 l) (λ_ _ _ _=>rfl)
theorem Yxs (m:Zh) (h:m.ok):Sz (Z3b m) m.tot:=by
 have h1:=h.1.1;have h2:=h.2.1.1;have h3:=h.2.2.2.1;unfold maxLen at h1 h2 h3;exact (Sz.flat (by omega)).seq ((Sz.flat (by omega)).seq (Sz.flat (by omega)).tail).tail
theorem Y2g (b:Za) (h:b.ok):Sz (Zv3 b) b.tot:=by
 obtain⟨h1,-,h2,-,h3,h4,-,-,-,-,-,h5,-,h6⟩:=h;have a3:=h3.1;have a4:=h4.1;have a6:=h6.1;unfold maxLen at a3 a4 a6;exact (Y1b _ h1).seq ((Y0q _ h2.1 h2.2).seq ((Sz.flat (by omega)).seq ((Sz.flat (by omega)).seq ((Yxs _ h5).seq (Sz.flat (by omega)).tail))))
theorem Znb (xs:List Int) (hl:xs.length < 1048577):Zcu xs=some xs:=by
 unfold Zcu;rw[Zvz (by omega) (by omega),ZZa];have:=Zqk xs id (by omega) some (λa _=>rfl) (Znl xs) (λm v i=>rfl) (List.replicate xs.length 0) (by simp);simpa using this
theorem Yzi (c:Zk) (hl:c.masters.length < 1048577):Zxm c=some c:=by
 have:Zrn c.masters=some c.masters:=by
  unfold Zrn;rw[Zvz (by omega) (by omega),ZZa];have:=Zqk c.masters id (by omega) Z23 (λa _=>rfl) (Zjt c.masters) (λm v i=>rfl) (List.replicate c.masters.length Zd.z0) (by simp);simpa using this
 unfold Zxm;rw[this];rfl
theorem Yo0 (r:Zf) (h:r.data_.length < 1048577):Zq2 r=some r:=by
 unfold Zq2;rw[Znb _ h];rfl
theorem Y1p (l:List Zf) (h:Zbv l < 1048577):Zx8 l=some l:=by
 unfold Zbv at h;unfold Zx8;rw[Zvz (by omega) (by omega),ZZa];have:=Zqk l id (by omega) Zq2 (λa ha=>Yo0 a (by have:=Zo5 (t:=Zf.tot) ha;unfold Zf.tot at this h;omega)) (Znw l) (λm v i=>rfl) (List.replicate l.length Zf.z0) (by simp);simpa using this
theorem Yz6 (l:List Zb) (h:Zeg l < 1048577):Zx3 l=some l:=by
 unfold Zeg at h;unfold Zx3;rw[Zvz (by omega) (by omega),ZZa];have:=Zqk l id (by omega) Z1p (λa ha=>by
  unfold Z1p;rw[Y1p _ (by have:=Zo5 (t:=Zb.tot) ha;unfold Zb.tot at this h;omega)];rfl) (Zn3 l) (λm v i=>rfl) (List.replicate l.length Zb.z0) (by simp)
 simpa using this
theorem Yw6 (m:Zh) (h:m.tot < 1048577):Zu4 m=some m:=by
 unfold Zh.tot at h;unfold Zu4 Z7q;rw[Znb _ (by omega),ZZa,Znb _ (by omega),ZZa,Znb _ (by omega)];rfl
theorem Y3p (b:Za) (h:b.tot < 1048577):Z1e b=some b:=by
 unfold Za.tot at h;have e1:Zp1 b.buckets=some b.buckets:=by
  unfold Zp1;rw[Zvz (by omega) (by omega),ZZa];have:=Zqk b.buckets id (by omega) Zze (λa _=>rfl) (Zhc b.buckets) (λm v i=>rfl) (List.replicate b.buckets.length Zc.z0) (by simp);simpa using this
 have e2:Zvu b.log=some b.log:=by
  unfold Zvu;rw[Zvz (by omega) (by omega),ZZa];have:=Zqk b.log id (by omega) Z6h (λa _=>rfl) (Zk7 b.log) (λm v i=>rfl) (List.replicate b.log.length Zm.z0) (by simp);simpa using this
 unfold Z1e;rw[Yzi _ (by omega),ZZa,Yz6 _ (by omega),ZZa,show Z89 b.arb=some b.arb from rfl,ZZa,e1,ZZa,Znb _ (by omega),ZZa,show Zr3 b.addr=some b.addr from rfl,ZZa,show Zr3 b.data_=some b.data_ from rfl,ZZa,Yw6 _ (by omega),ZZa,e2];rfl
theorem Zyh {α:Type} (xs:List α) (hl:xs.length < 4611686018427387904) (e:α->α->Option Bool) (L:Nat->Int->Option Bool)
  (hL:∀m i,L (m+1) i=if decide (i < (xs.length:Int))=true then (idx xs i).bind λa=>(idx xs i).bind λb=>(e a b).bind λr=>if (!r)=true then some false else L m (Zt i 1) else some true)
  (he:∀a∈xs,e a a=some true):(if decide ((xs.length:Int)≠(xs.length:Int))=true then some false else L FU 0)=some true:=by
 rw[ZZi (by simp)];refine Ypn (n:=xs.length) hl (B:=λκ i=>if decide (i < (xs.length:Int))=true then (idx xs i).bind λa=>(idx xs i).bind λb=>(e a b).bind λr=>if (!r)=true then some false else κ (Zt i 1) else some true) (L:=L) hL (λk hk κ=>?_) λκ=>?_
 .rw[ZZj (by simpa using hk),Xu hk,ZZa,ZZa,he _ (Vas hk)]
  rfl
 .rw[ZZi (by simp)]
theorem Zg3 (xs:List Int) (hl:xs.length < 1048577):Zcs xs xs=some true:=by
 unfold Zcs;rw[ZZi (by simp)];refine Ypn (n:=xs.length) (by omega) (B:=Zk4 xs xs) (L:=Zoo xs xs) (λm i=>rfl) (λk hk κ=>?_) λκ=>?_
 .unfold Zk4
  rw[ZZj (by simpa using hk),Xu hk];simp
 .unfold Zk4
  rw[ZZi (by simp)]
theorem Yoh (m:Zd):Zo8 m m=some true:=by unfold Zo8;simp
theorem Yrv (c:Zk) (hl:c.masters.length < 1048577):Zyb c c=some true:=by
 have:Zte c.masters c.masters=some true:=by
  unfold Zte;exact Zyh c.masters (by omega) Zo8 (Zja c.masters c.masters) (λm i=>rfl) (λa _=>Yoh a)
 unfold Zyb;rw[this];simp
theorem Yfl (r:Zf) (h:r.data_.length < 1048577):Zqu r r=some true:=by
 unfold Zqu;rw[Zg3 _ h];simp
theorem Yro (l:List Zf) (h:Zbv l < 1048577):Zxi l l=some true:=by
 unfold Zbv at h;unfold Zxi;exact Zyh l (by omega) Zqu (Zoh l l) (λm i=>rfl) (λa ha=>Yfl a (by have:=Zo5 (t:=Zf.tot) ha;unfold Zf.tot at this h;omega))
theorem Ysn (l:List Zb) (h:Zeg l < 1048577):Zxw l l=some true:=by
 unfold Zeg at h;unfold Zxw;exact Zyh l (by omega) Z0r (Zod l l) (λm i=>rfl) (λa ha=>by
  unfold Z0r;rw[Yro _ (by have:=Zo5 (t:=Zb.tot) ha;unfold Zb.tot at this h;omega)];simp)
theorem Ypf (m:Zh) (h:m.tot < 1048577):Zvd m m=some true:=by
 unfold Zh.tot at h;unfold Zvd Z74;rw[Zg3 _ (by omega),Zg3 m.dev.regs (by omega),Zg3 m.dev.fifo (by omega)];simp
theorem Ys1 (d:Zm):Zr1 d d=some true:=by unfold Zr1;simp
theorem Ynt (l:List Zm) (h:l.length < 1048577):Zvl l l=some true:=by
 unfold Zvl;exact Zyh l (by omega) Zr1 (Zkk l l) (λm i=>rfl) (λa _=>Ys1 a)
theorem Yrq (x:Zg):Zro x x=some true:=by unfold Zro;simp
theorem Ywr (b:Za) (h:b.tot < 1048577):Zqz b b=some true:=by
 unfold Za.tot at h;have e1:Zp3 b.buckets b.buckets=some true:=by
  unfold Zp3;exact Zyh b.buckets (by omega) Zs8 (Zhl b.buckets b.buckets) (λm i=>rfl) (λa _=>by unfold Zs8;simp)
 have e2:Z15 b.arb b.arb=some true:=by unfold Z15;simp
 unfold Zqz;simp[Yrv b.conf (by omega),Ysn b.m (by omega),e1,e2,Zg3 b.splits (by omega),Yrq,Ypf b.model (by omega),Ynt b.log (by omega)]
theorem Ynq {b:Za} {s:Zi} (hb:b.sm) (hs:s.sm):Zu7 b s=some (Zwb b s):=by
 unfold Zu7 Zwb;rw[s_okB hb,ZZa];unfold Zkx;by_cases h:okB b=true
 .have hP:=(Yih hb).1 h
  rw[h,ZZi (by simp)];by_cases hn:b.now=4000
  .rw[ZZj (by simp[hn]),ZZi (by simp[hn]),Zyy b hb]
   rfl
  .have:=hP.now
   rw[ZZi (by simpa using hn),ZZj ⟨rfl,hn⟩,Y0u hP hs (by omega)];rfl
 .have h2:okB b=false:=by simpa using h
  simp[h2,Zyy b hb]
def Zl.tot (p:Zl):Nat:=p.req.tot
def Ziw (l:List Zl):Nat:=l.length+(l.map Zl.tot).sum
def Zi.tot (s:Zi):Nat:=Ziw s.posts+(s.waits.length+s.says.length)
theorem Y0c (p:Zl) (h:p.ok):Sz (Zxk p) p.tot:=(Yoq p.req h.2.2).tail
theorem Yxu (l:List Zl) (h0:l.length<=maxLen) (h:∀r∈l,r.ok):Sz (Z2u l) (Ziw l):=
 Sz.list l Zxk Zl.tot (by unfold maxLen at h0;omega) (λa ha=>Y0c a (h a ha)) (Zle l) (λ_ _ _ _=>rfl)
theorem Yso (s:Zi) (h:s.ok):Sz (Zs7 s) s.tot:=by
 have h1:=h.1.1;have h2:=h.2.1.1;have h3:=h.2.2.1;unfold maxLen at h1 h2 h3;exact (Yxu s.posts h.1.1 h.1.2).seq ((Sz.flat (by omega)).seq (Sz.flat (by omega)).tail)
theorem Y0f (p:Zl) (h:p.tot < 1048577):Zr0 p=some p:=by
 unfold Zr0;rw[Yo0 _ h];rfl
theorem Yvv (l:List Zl) (h:Ziw l < 1048577):Zvt l=some l:=by
 unfold Ziw at h;unfold Zvt;rw[Zvz (by omega) (by omega),ZZa];have:=Zqk l id (by omega) Zr0 (λa ha=>Y0f a (by have:=Zo5 (t:=Zl.tot) ha;omega)) (Zlv l) (λm v i=>rfl) (List.replicate l.length Zl.z0) (by simp);simpa using this
theorem Yuc (s:Zi) (h:s.tot < 1048577):Zs2 s=some s:=by
 unfold Zi.tot at h;unfold Zs2;rw[Yvv _ (by omega),ZZa,Znb _ (by omega),ZZa,Znb _ (by omega)];rfl
theorem Ytg (p:Zl) (h:p.tot < 1048577):Zs5 p p=some true:=by
 unfold Zs5;rw[Yfl _ h];simp
theorem Yoz (l:List Zl) (h:Ziw l < 1048577):Zur l l=some true:=by
 unfold Ziw at h;unfold Zur;exact Zyh l (by omega) Zs5 (Zk1 l l) (λm i=>rfl) (λa ha=>Ytg a (by have:=Zo5 (t:=Zl.tot) ha;omega))
theorem Yl9 (s:Zi) (h:s.tot < 1048577):Zri s s=some true:=by
 unfold Zi.tot at h;unfold Zri;rw[Yoz _ (by omega),ZZa,ZZi (by simp),Zg3 _ (by omega),ZZa,ZZi (by simp),Zg3 _ (by omega)];simp
theorem Yuf (x:Zp):Zxz x x=some true:=by unfold Zxz;simp
theorem Zi.small {s:Zi} (h:s.tot < 1048577) (Y3:s.ok):s.sm:=by
 unfold Zi.tot Ziw at h;refine⟨by omega,λp hp=>?_,by omega,by omega,λw hw=>ok_i64 (Y3.2.1.2 w hw)⟩;have:=Zo5 (t:=Zl.tot) hp;unfold Zl.tot Zf.tot at this h;unfold Zf.sm;omega
theorem Yth {l:List Zf} {r:Zf} (h:r∈l):r.data_.length<=Zbv l:=by
 have:=Zo5 (t:=Zf.tot) h;unfold Zbv;unfold Zf.tot at this ⊢;omega
theorem Ysj {l:List Zb} {m:Zb} (h:m∈l):Zbv m.queue<=Zeg l:=by
 have:=Zo5 (t:=Zb.tot) h;unfold Zeg;unfold Zb.tot at this ⊢;omega
theorem Za.small {b:Za} (h:b.tot < 1048577):b.sm:=by
 have hm:∀x∈b.m,Zbv x.queue<=Zeg b.m:=λx hx=>Ysj hx;unfold Za.tot Zh.tot at h;have h1:b.m.length<=Zeg b.m:=by unfold Zeg;omega
 refine⟨by omega,by omega,λx hx=>?_,by omega,by omega,⟨by omega,by omega,by omega⟩,by omega⟩;have:=hm x hx;have hl:x.queue.length<=Zbv x.queue:=by unfold Zbv;omega
 refine⟨by omega,λr hr=>?_⟩;have:=Yth hr;unfold Zf.sm;omega
theorem Zi.mk_ok {s:Zi} (h:s.tot < 1048577):s.mok:=by
 unfold Zi.tot Ziw at h;refine⟨⟨by omega,λp hp=>?_⟩,by omega,by omega⟩;have:=Zo5 (t:=Zl.tot) hp;unfold Zl.tot Zf.tot at this h;omega
theorem Za.mk_ok {b:Za} (hs:b.sm):b.mok:=by
 have h1:=hs.conf;have h2:=hs.ml;have h3:=hs.bl;have h4:=hs.sl;have h5:=hs.log;have h6:=hs.model.1;have h7:=hs.model.2.1;have h8:=hs.model.2.2;refine⟨by unfold Zk.mok;omega,⟨by omega,λx hx=>?_⟩,by omega,by omega,⟨by omega,⟨by omega,by omega⟩⟩,by omega⟩;have h9:=hs.mst x hx;have:=h9.1;refine⟨by omega,λr hr=>?_⟩;have:=h9.2 r hr;unfold Zf.sm at this;omega
theorem Yjk {α:Type} {w t:α->Nat} {c:Nat} (h:∀x,w x<=c*t x+c) (l:List α):Kw w l<=c*(l.length+(l.map t).sum):=by
 induction l with
 | nil=>simp[Kw]
 | cons x l ih=>
  have:=h x;rw[Zm1,Vag,Va1,Vdb];have e:c*(l.length+1+(t x+(l.map t).sum))=c*(l.length+(l.map t).sum)+(c*t x+c):=by
   rw[Veb,Veb,Veb,Veb];omega
  omega
theorem Y0d (l:List Zf):Kw Z2q l<=5*Zbv l:=Yjk (λx=>by unfold Z2q Zf.tot;omega) l
theorem Yz3 (l:List Zb):Kw Zhr l<=5*Zeg l:=Yjk (λx=>by
 have:=Y0d x.queue;unfold Zhr Zb.tot;omega) l
def Yd3 (b:Za):Nat:=4*b.conf.masters.length+Kw Zhr b.m+2*b.buckets.length+b.splits.length+b.model.mem.length+b.model.dev.regs.length+b.model.dev.fifo.length+7*b.log.length
theorem Y6d {b:Za}:Yd3 b<=7*b.tot:=by
 have:=Yz3 b.m;unfold Yd3 Za.tot Zh.tot;omega
theorem Y48 {l:List Zd} {k:Int} (h0:0<=k) (h1:k+4*(l.length:Int)<=1152921504606846976):(mkL Jt l k).2=k+4*(l.length:Int):=by
 have e:=Zmc (α:=Zd) 4 l;rw[Zqy Yky (l:=l) h0 (by rw[e];omega),e];omega
theorem Y5q {l:List Zc} {k:Int} (h0:0<=k) (h1:k+2*(l.length:Int)<=1152921504606846976):(mkL Xa l k).2=k+2*(l.length:Int):=by
 have e:=Zmc (α:=Zc) 2 l;rw[Zqy Yf1 (l:=l) h0 (by rw[e];omega),e];omega
theorem Y5t {l:List Zm} {k:Int} (h0:0<=k) (h1:k+7*(l.length:Int)<=1152921504606846976):(mkL Zbe l k).2=k+7*(l.length:Int):=by
 have e:=Zmc (α:=Zm) 7 l;rw[Zqy Ypw (l:=l) h0 (by rw[e];omega),e];omega
theorem Zzb {a:Int} (h:0<=a):¬decide (a < 0)=true:=by simp;omega
theorem Yyd {b:Za} (hs:b.sm) {k:Int} (h0:0<=k) (h1:k+(Yd3 b:Int)<=1152921504606846976):(Xb b k).2=k+(Yd3 b:Int)/\Zph (Xb b k).1 k=some (Xb b k).2:=by
 unfold Yd3 at h1 ⊢;have g1:=hs.conf;have g2:=hs.ml;have g3:=hs.bl;have g4:=hs.sl;have g5:=hs.log;have g6:=hs.model.1;have g7:=hs.model.2.1;have g8:=hs.model.2.2;have a1:=Y48 (l:=b.conf.masters) (k:=k) h0 (by omega);have b1:=Ypp b.conf.masters k g1 h0 (by omega);have a2:=Zqy Yu9 (l:=b.m) (k:=k+4*(b.conf.masters.length:Int)) (by omega) (by omega);have b2:=Yxd b.m (k+4*(b.conf.masters.length:Int)) g2 (λx hx=>⟨(hs.mst x hx).1,λr hr=>(hs.mst x hx).2 r hr⟩) (by omega) (by omega);rw[a2] at b2;have a3:=Y5q (l:=b.buckets) (k:=k+4*(b.conf.masters.length:Int)+(Kw Zhr b.m:Int)) (by omega) (by omega);have b3':=Yl8 b.buckets (k+4*(b.conf.masters.length:Int)+(Kw Zhr b.m:Int)) g3 (by omega) (by omega);rw[a3] at b3';have a4:=Zgb (l:=b.splits) (k:=k+4*(b.conf.masters.length:Int)+(Kw Zhr b.m:Int)+2*(b.buckets.length:Int)) (by omega) (by omega);have b4:=Zsm b.splits (k+4*(b.conf.masters.length:Int)+(Kw Zhr b.m:Int)+2*(b.buckets.length:Int)) g4 (by omega) (by omega);rw[a4] at b4;have a5:=Zgb (l:=b.model.mem) (k:=k+4*(b.conf.masters.length:Int)+(Kw Zhr b.m:Int)+2*(b.buckets.length:Int)+(b.splits.length:Int)) (by omega) (by omega);have b5:=Zsm b.model.mem (k+4*(b.conf.masters.length:Int)+(Kw Zhr b.m:Int)+2*(b.buckets.length:Int)+(b.splits.length:Int)) g6 (by omega) (by omega);rw[a5] at b5;have a6:=Zgb (l:=b.model.dev.regs) (k:=k+4*(b.conf.masters.length:Int)+(Kw Zhr b.m:Int)+2*(b.buckets.length:Int)+(b.splits.length:Int)+(b.model.mem.length:Int)) (by omega) (by omega);have b6:=Zsm b.model.dev.regs (k+4*(b.conf.masters.length:Int)+(Kw Zhr b.m:Int)+2*(b.buckets.length:Int)+(b.splits.length:Int)+(b.model.mem.length:Int)) g7 (by omega) (by omega);rw[a6] at b6;have a7:=Zgb (l:=b.model.dev.fifo) (k:=k+4*(b.conf.masters.length:Int)+(Kw Zhr b.m:Int)+2*(b.buckets.length:Int)+(b.splits.length:Int)+(b.model.mem.length:Int)+(b.model.dev.regs.length:Int)) (by omega) (by omega);have b7:=Zsm b.model.dev.fifo (k+4*(b.conf.masters.length:Int)+(Kw Zhr b.m:Int)+2*(b.buckets.length:Int)+(b.splits.length:Int)+(b.model.mem.length:Int)+(b.model.dev.regs.length:Int)) g8 (by omega) (by omega);rw[a7] at b7;have a8:=Y5t (l:=b.log) (k:=k+4*(b.conf.masters.length:Int)+(Kw Zhr b.m:Int)+2*(b.buckets.length:Int)+(b.splits.length:Int)+(b.model.mem.length:Int)+(b.model.dev.regs.length:Int)+(b.model.dev.fifo.length:Int)) (by omega) (by omega);have b8:=Ysq b.log (k+4*(b.conf.masters.length:Int)+(Kw Zhr b.m:Int)+2*(b.buckets.length:Int)+(b.splits.length:Int)+(b.model.mem.length:Int)+(b.model.dev.regs.length:Int)+(b.model.dev.fifo.length:Int)) g5 (by omega) (by omega);rw[a8] at b8;rw[a1] at b1;constructor
 .simp only[Xb,Xq,K7,Zn4,a1,a2,a3,a4,a5,a6,a7,a8]
  omega
 .unfold Zph Zyp Zw6 Z22
  simp only[Xb,Xq,K7,Zn4,a1,a2,a3,a4,a5,a6,a7,a8];rw[b1,ZZa,ZZi (Zzb (by omega)),ZZa,ZZi (Zzb (by omega)),b2,ZZa,ZZi (Zzb (by omega)),b3',ZZa,ZZi (Zzb (by omega)),b4,ZZa,ZZi (Zzb (by omega)),b5,ZZa,ZZi (Zzb (by omega)),b6,ZZa,ZZi (Zzb (by omega)),b7,ZZa,ZZi (Zzb (by omega)),ZZa,ZZi (Zzb (by omega)),ZZa,ZZi (Zzb (by omega)),b8,ZZa,ZZi (Zzb (by omega))]
theorem Y2l {r:Zf} (h:Zdw r=true):r.data_.length < 1000:=by
 have:=Y1g h;unfold Zdw at h;simp only[ZZg,ZZl] at h;have h1:=h.2.1;have:X0 r.burst<=16:=by unfold X0;repeat (first|omega|split)
 split at h1<;>omega
theorem Zqm.tot_lt {b:Za} (h:Zqm b):b.tot < 100000:=by
 have h1:=Zam h.conf;have h2:=h.ml;have h3:=h.bl;have h4:=h.sl;have h5:=Yav (by have:=h.now;omega) h.log;have h6:=h.model.len;have h7:=h.model.dev.regs;have h8:=h.model.dev.len;have hq:∀x∈b.m,Zbv x.queue<=4004:=λx hx=>by
  obtain⟨k,hk,rfl⟩:=Vbr hx;have hr:=(h.mst (k:Int) (mas (by omega))).right;rw[Ql hk] at hr;have key:∀(l:List Zf),(∀r∈l,r.data_.length<=1000)->(l.map Zf.tot).sum<=1000*l.length:=by
   intro l
   induction l with
   | nil=>intro _;simp
   | cons r l ih=>
    intro hl;have:=hl r (Vaa ..);have:=ih λq hq=>hl q (Vac _ hq);simp only[Va1,Vdb,Vag];unfold Zf.tot at*;omega
  have:=key _ λr J4=>Nat.le_of_lt (Y2l (hr.reqs r J4));have:=hr.len;unfold Zbv;omega
 have key:∀(l:List Zb),(∀x∈l,Zbv x.queue<=4004)->(l.map Zb.tot).sum<=4004*l.length:=by
  intro l
  induction l with
  | nil=>intro _;simp
  | cons r l ih=>
   intro hl;have:=hl r (Vaa ..);have:=ih λq hq=>hl q (Vac _ hq);simp only[Va1,Vdb,Vag];unfold Zb.tot at*;omega
 have:=key _ hq;unfold Za.tot Zeg Zh.tot;omega
theorem Ykj {b:Za} (h:b.tot < 1048577):b.mok/\Zqz b b=some true/\(Xb b 1).2=1+(Yd3 b:Int)/\Zph (Xb b 1).1 1=some (Xb b 1).2/\Yd3 b<=7340032:=by
 have hw:=Y6d (b:=b);obtain⟨h1,h2⟩:=Yyd (Za.small h) (k:=1) (by omega) (by omega);exact⟨Za.mk_ok (Za.small h),Ywr b h,h1,h2,by omega⟩
theorem Yzq {s:Zi} (h:s.tot < 1048577) {k:Int} (h0:0<=k) (h1:k<=100000000):0<=(Kv s k).2:=by
 have hi:Inc Qt (λp=>7+p.req.data_.length):=λx k h0 h1=>by
  have h3:k+((7+x.req.data_.length:Nat):Int)<=1152921504606846976:=h1;show _=k+((7+x.req.data_.length:Nat):Int);have h2:k+7+(x.req.data_.length:Int)<=1152921504606846976:=by omega
  simp only[Qt];simp (discharger:=omega) only[Z1r];rw[Zgb (by omega) (by omega)];omega
 unfold Zi.tot Ziw at h;have hw:Kw (λp:Zl=>7+p.req.data_.length) s.posts<=7*(s.posts.length+(s.posts.map Zl.tot).sum):=Yjk (λx=>by unfold Zl.tot Zf.tot;omega) s.posts;have e1:=Zqy hi (l:=s.posts) h0 (by omega);have e2:=Zgb (l:=s.waits) (k:=(mkL Qt s.posts k).2) (by rw[e1];omega) (by rw[e1];omega);have e3:=Zgb (l:=s.says) (k:=(mkL Yd s.waits (mkL Qt s.posts k).2).2) (by rw[e2,e1];omega) (by rw[e2,e1];omega);simp only[Kv];rw[e3,e2,e1];omega
theorem Y0p {b:Za} (h:b.tot < 1048577) (s:Zi):(Zwb b s).1.tot < 1048577:=by
 unfold Zwb;split
 .rename_i hc
  have hP:=(Yih (Za.small h)).1 hc.1;have hn:=hP.now;have:=(Yup hP s (by omega)).1.tot_lt;omega
 .exact h
theorem Y57 {n:Nat} (h:(1048576:Int) < (n:Int)):Zdc 1048576 n < 0:=by unfold Zdc;rw[ZZj h];omega
theorem Y4t {n:Nat} (h:¬(1048576:Int) < (n:Int)):Zdc 1048576 n=1048576 - (n:Int)/\0<=Zdc 1048576 n/\n < 1048577:=by unfold Zdc;rw[ZZi h];omega
theorem Z59 (b:Za) (s:Zi) (h:b.ok) (hs:s.ok):b.ok/\s.ok:=⟨h,hs⟩
theorem Z9a [Anchor] {b:Za} {s:Zi} (h:b.ok/\s.ok):Zu Tryz.prog Mo (5,[.agg (Za.enc b),.agg (Zi.enc s)],.lit (.bool true),[.undef,.undef]):=by
 have c0:=Y2g b h.1 1048576 (by omega) (by omega);by_cases hc:(1048576:Int) < (b.tot:Int)
 .exact Z5b b s c0 (Y57 hc)
 .obtain⟨e0,e1,ht⟩:=Y4t hc
  have c1:=Yso s h.2 (Zdc 1048576 b.tot) e1 (by omega);by_cases hc2:Zdc (Zdc 1048576 b.tot) s.tot < 0
  .exact Z5s b s c0 e1 c1 hc2
  .have hst:s.tot < 1048577:=by
    unfold Zdc at hc2 e1;split at hc2
    .omega
    .omega
   obtain⟨f1,f2,f3,f4,f5⟩:=Ykj ht;obtain⟨g1,g2,g3,g4,g5⟩:=Ykj (Y0p ht s);have hbs:=Za.small ht;have hss:=Zi.small hst h.2;exact Z8e b s (Zwb b s).1 (Zwb b s).2 c0 e1 c1 (by omega) (Y3p b ht) (Yuc s hst) (Ynq hbs hss) (Yp0 hbs hss) g2 (Yuf _) f2 (Yl9 s hst) f1 (Zi.mk_ok hst) (Yzq hst (by rw[f3];omega) (by rw[f3];omega)) g1 g4 (by rw[g3];omega)
end Go.Proofs.YtagdmghmblplbaaGreat.Ev
