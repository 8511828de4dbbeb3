/- A part of the proof of FnDesk: see the text YthdljdelfgofdaaGreatDoorLawFnDesk for what is proved and its conditions. Conditions here: those in each line. -/
import Derived.Test.YthdljdelfgofdaaGreatDoorA9
import Derived.Lib.AtoiAllCases
import Derived.Lib.IndexBytes
import Derived.Lib.IndexLaws
import Derived.Lib.SplitLaws
set_option linter.unusedSimpArgs false
set_option linter.unusedVariables false
set_option linter.unusedSectionVars false
namespace Go.Proofs.YthdljdelfgofdaaGreatDoor.Ev
open Go Go.Proofs
theorem Ykv {x:ByteArray} {c:Zg} (h:gJ x c) (hx:x.size<=1048576):O8 x=some (c,true):=by
 obtain⟨hg,ht⟩:=h;have hS:=gI hg;obtain⟨hq,hw,hr,hs,hk,hn,hm⟩:=hS;obtain⟨ws,h1,h2⟩:=HJ (x:=x) 32 (by omega);have h1:W0 x 32=some ws:=h1;have hc:ws.map L8=Fm c:=by rw[h2,Ymq ht]
 have Yp:ws.length=5+c.Ab.length:=by
  have:=congrArg List.length hc;simp[Fm,K9] at this;omega
 obtain⟨l0,w0⟩:=gK hc (i:=0) (by omega);obtain⟨l1,w1⟩:=gK hc (i:=1) (by omega);obtain⟨l2,w2⟩:=gK hc (i:=2) (by omega);obtain⟨l3,w3⟩:=gK hc (i:=3) (by omega);obtain⟨l4,w4⟩:=gK hc (i:=4) (by omega);have w0:ws[0]=Z1 c.Av:=w0;have w1:ws[1]=Z1 c.As:=w1;have w2:ws[2]=Z1 c.An:=w2;have w3:ws[3]=Z1 c.Ap:=w3;have w4:ws[4]=Z1 c.Al:=w4;have i0:idx ws 0=some (Z1 c.Av):=by rw[<-w0];exact Zx (k:=0) (by omega)
 have i1:idx ws 1=some (Z1 c.As):=by rw[<-w1];exact Zx (k:=1) (by omega)
 have i2:idx ws 2=some (Z1 c.An):=by rw[<-w2];exact Zx (k:=2) (by omega)
 have i3:idx ws 3=some (Z1 c.Ap):=by rw[<-w3];exact Zx (k:=3) (by omega)
 have i4:idx ws 4=some (Z1 c.Al):=by rw[<-w4];exact Zx (k:=4) (by omega)
 have key:∀(m i:Nat),i<=c.Ab.length->c.Ab.length - i < m->Jv x m {c with Ab:=c.Ab.take i} ws ((5+i:Nat):Int)=some (c,true):=by
  intro m
  induction m with
  | zero=>intro i _ h;omega
  | succ m ih=>
   intro i hi Dm;show bG x (Jv x m) {c with Ab:=c.Ab.take i} ws ((5+i:Nat):Int)=some (c,true);unfold bG;by_cases Ya:i < c.Ab.length
   .obtain⟨u4,hww⟩:=Y3m hc Ya
    obtain⟨ps,p1,p2⟩:=HJ (x:=ws[5+i]) 58 (by have:ws[5+i].size<=x.size:=Jl h2 (B6 u4);omega);have p1:W0 ws[5+i] 58=some ps:=p1;rw[hww,Yva] at p2;have p3:=Yqa p2;obtain⟨⟨m1,m2⟩,⟨m3,m4⟩,⟨m5,m6⟩,m7⟩:=hm _ (B6 Ya);rw[Ah (decide_eq_true (by show ((5+i:Nat):Int) < _;omega)),Zx u4,Ag,p1,Ag];have next:RG x (Jv x m) {c with Ab:=c.Ab.take i} c.Ab[i] ws ((5+i:Nat):Int)=some (c,true):=by
     unfold RG;simp only;rw[Yr (by simp;omega) (by simp;omega),Ag,Z8 (by omega),<-List.take_succ_eq_append_getElem Ya];exact ih (i+1) (by omega) (by omega)
    by_cases hp:c.Ab[i].prio=true
    .have p4:ps=[Z1 c.Ab[i].weight,Z1 c.Ab[i].every,Z1 c.Ab[i].cap]:=by rw[p3];unfold Ir;rw[Ah hp];rfl
     subst p4;have j0:idx [Z1 c.Ab[i].weight,Z1 c.Ab[i].every,Z1 c.Ab[i].cap] 0=some (Z1 c.Ab[i].weight):=rfl;have j1:idx [Z1 c.Ab[i].weight,Z1 c.Ab[i].every,Z1 c.Ab[i].cap] 1=some (Z1 c.Ab[i].every):=rfl;have j2:idx [Z1 c.Ab[i].weight,Z1 c.Ab[i].every,Z1 c.Ab[i].cap] 2=some (Z1 c.Ab[i].cap):=rfl;rw[j0,Ag,N3 ⟨by omega,by omega⟩,Ag,Ah (by simp),j1,Ag,N3 ⟨by omega,by omega⟩,Ag,j2,Ag,N3 ⟨by omega,by omega⟩,Ag,Pp hp];exact next
    .have p4:ps=[Z1 c.Ab[i].weight]:=by rw[p3];unfold Ir;rw[Ai hp];rfl
     subst p4;have j0:idx [Z1 c.Ab[i].weight] 0=some (Z1 c.Ab[i].weight):=rfl;have gL:c.Ab[i].prio=false:=by simpa using hp
     rw[j0,Ag,N3 ⟨by omega,by omega⟩,Ag,Ai (by simp),Y9f gL (m7 gL)];exact next
   .rw[Ai (by simp;omega),Yr9 (DH (by omega))]
    obtain⟨r,e1,_,e3⟩:=Z9d (x:=x) (c:=c) (by omega);rw[e1,e3 ⟨hg,ht⟩]
 unfold O8;rw[h1,Ag,Ai (by simp;omega),i0,Ag,N3 ⟨by omega,by omega⟩,Ag,i1,Ag,N3 ⟨by omega,by omega⟩,Ag,i2,Ag,N3 ⟨by omega,by omega⟩,Ag,i3,Ag,N3 ⟨by omega,by omega⟩,Ag,i4,Ag,N3 ⟨by omega,by omega⟩,Ag];exact key FU 0 (BM _) (by have:=Yx;omega)
theorem Z9t {x:ByteArray} {c:Zg} (hl:c.Ab.length < 1048577):∃r,((L3 c).bind λr2=>if (!r2)=true then (some (Zg.z0,false)) else (
   (RS c).bind λr3=>if (!(r3.toList == x.toList))=true then (some (Zg.z0,false)) else (some (c,true))))=some r/\Iq x r/\(gJ x c->r=(c,true)):=by
 rw[UT c hl,Z04 hl,Ag,Ag];by_cases h:Yq c=true
 .rw[Ai (by simp[h]),Ah h,Lib.toList_data,Lib.toList_data]
  by_cases he:Ed c=L8 x
  .have e1:((⟨(Ed c).toArray⟩:ByteArray).data.toList == x.data.toList)=true:=beq_iff_eq.2 he
   rw[Ai (by simp[e1])];exact⟨_,rfl,.inr ⟨rfl,h,he.symm⟩,λ_=>rfl⟩
  .have e1:¬((⟨(Ed c).toArray⟩:ByteArray).data.toList == x.data.toList)=true:=λhh=>he (beq_iff_eq.1 hh)
   rw[Ah (by simpa using e1)];exact⟨_,rfl,.inl rfl,λhh=>absurd hh.2.symm he⟩
 .rw[Ah (by simp[h])]
  exact⟨_,rfl,.inl rfl,λhh=>absurd hh.1 h⟩
theorem idx0 {α:Type} {l:List α} (h:1<=l.length):∃a,idx l 0=some a:=⟨l[0],Zx (k:=0) (by omega)⟩
theorem Pq {α:Type} {l:List α} (n:Nat) (h:n < l.length):∃a,idx l (n:Int)=some a:=⟨l[n],Zx h⟩
theorem Ynr {x:ByteArray} {ws:List ByteArray} (hz:∀w∈ws,w.size<=1048576) (hn:ws.length<=10):∀(m j:Nat) (c:Zg),j<=ws.length->ws.length - j < m->c.Ab.length<=j->
  ∃r,Qz x m c ws (ws.length:Int) (j:Int)=some r/\Iq x r:=by
 intro m
 induction m with
 | zero=>intro j c _ h;omega
 | succ m ih=>
  intro j c hj hm hc;show ∃r,Kz x (Qz x m) c ws (ws.length:Int) (j:Int)=some r/\_;unfold Kz;by_cases Ya:j < ws.length
  .have W3:=hz _ (B6 Ya)
   obtain⟨ps,h1,h2⟩:=KK (x:=ws[j]) 58 (by omega);have hp:=Is h2;obtain⟨q,e1,e2⟩:=Yc5 (ws:=ps) (by omega) (λw hw=>by have:=Jl h2 hw;omega);rw[Ah (by simpa using Ya),Zx Ya,Ag,h1,Ag,e1,Ag];have next:∀mc:Zd,∃r,((Y4 32 c.Ab [mc]).bind λz0=>Qz x m {c with Ab:=z0} ws (ws.length:Int) (Zl (j:Int) 1))=some r/\Iq x r:=λmc=>by
    rw[Yr (by simp;omega) (by simp;omega),Ag,Z8 (by omega)];exact ih (j+1) _ (by omega) (by omega) (by simp;omega)
   have j4:∀b:Bool,(b=true->q.1.length=3)->∃r,RT x (Qz x m) c q.1 ws (ws.length:Int) (j:Int) b=some r/\Iq x r:=λb hb=>by
    unfold RT;by_cases Jy:b=true
    .have h3:=hb Jy
     obtain⟨a0,i0⟩:=Pq (l:=q.1) 0 (by omega);obtain⟨a1,i1⟩:=Pq (l:=q.1) 1 (by omega);obtain⟨a2,i2⟩:=Pq (l:=q.1) 2 (by omega);have i0:idx q.1 0=some a0:=i0;have i1:idx q.1 1=some a1:=i1;have i2:idx q.1 2=some a2:=i2;rw[Ah Jy,i0,Ag,i1,Ag,i2,Ag];exact next _
    .rw[Ai Jy]
     exact⟨_,rfl,.inl rfl⟩
   have j3:∀(b c2:Bool),(c2=true->q.1.length=1)->∃r,RU x (Qz x m) c q.1 b ws (ws.length:Int) (j:Int) c2=some r/\Iq x r:=λb c2 hb=>by
    unfold RU;by_cases Jy:c2=true
    .have h3:=hb Jy
     obtain⟨a0,i0⟩:=idx0 (l:=q.1) (by omega);rw[Ah Jy,i0,Ag];exact next _
    .rw[Ai Jy]
     split
     .exact j4 _ λh=>by simp at h;omega
     .exact j4 _ λh=>by cases h
   split
   .exact j3 _ _ λh=>by simp at h;omega
   .exact j3 _ _ λh=>by cases h
  .rw[Ai (by simpa using Ya)]
   obtain⟨r,h1,h2,_⟩:=Z9t (x:=x) (c:=c) (by omega);exact⟨r,h1,h2⟩
theorem Qq {α:Type} {xs:List α} {a b:Nat} (h1:a<=b) (h2:b<=xs.length):Yv xs (a:Int) (b:Int)=some ((xs.drop a).take (b - a)):=by
 unfold Yv;rw[Ah ⟨by omega,by omega,by omega⟩];rfl
theorem Yli {x:ByteArray} (hx:x.size<=1048576):∃r,L5 x=some r/\Iq x r:=by
 obtain⟨ws,h1,h2⟩:=KK (x:=x) 32 (by omega);have hz:∀w∈ws,w.size<=1048576:=λw hw=>by have:=Jl h2 hw;omega
 unfold L5;rw[h1,Ag];have bad:∃r,Ul x ws true=some r/\Iq x r:=⟨_,rfl,.inl rfl⟩;by_cases hl:ws.length < 6
 .rw[Ah (by simp;omega)];exact bad
 .rw[Ai (by simp;omega)]
  by_cases CK:ws.length > 9
  .rw[show decide ((ws.length:Int) > 9)=true by simp;omega];exact bad
  .rw[show decide ((ws.length:Int) > 9)=false by simp;omega]
   unfold Ul;have s0:Yv ws 0 5=some ((ws.drop 0).take 5):=Qq (a:=0) (b:=5) (by omega) (by omega);have s1:Yv ws 5 (ws.length:Int)=some ((ws.drop 5).take (ws.length - 5)):=Qq (a:=5) (by omega) (B2 _);rw[Ai (by simp),s0,Ag];obtain⟨q,e1,e2⟩:=Yc5 (ws:=(ws.drop 0).take 5) (by simp;omega) (λw hw=>by have:=hz w (Gp (Gq hw));omega);rw[e1,Ag];by_cases hq:q.2=true
   .have h5:q.1.length=5:=by
     have:=(e2 hq).1;rw[this];simp;omega
    obtain⟨a0,i0⟩:=Pq (l:=q.1) 0 (by omega);obtain⟨a1,i1⟩:=Pq (l:=q.1) 1 (by omega);obtain⟨a2,i2⟩:=Pq (l:=q.1) 2 (by omega);obtain⟨a3,i3⟩:=Pq (l:=q.1) 3 (by omega);obtain⟨a4,i4⟩:=Pq (l:=q.1) 4 (by omega);have i0:idx q.1 0=some a0:=i0;have i1:idx q.1 1=some a1:=i1;have i2:idx q.1 2=some a2:=i2;have i3:idx q.1 3=some a3:=i3;have i4:idx q.1 4=some a4:=i4;rw[Ai (by simp[hq]),i0,Ag,i1,Ag,i2,Ag,i3,Ag,i4,Ag,s1,Ag];exact Ynr (λw hw=>hz w (Gp (Gq hw))) (by simp;omega) FU 0 _ (BM _) (by have:=Yx;simp;omega) (by simp)
   .rw[Ah (by simp[hq])]
    exact⟨_,rfl,.inl rfl⟩
theorem Yko {x:ByteArray} {c:Zg} (h:gJ x c) (hx:x.size<=1048576):L5 x=some (c,true):=by
 obtain⟨hg,ht⟩:=h;have hS:=gI hg;obtain⟨hq,hw,hr,hs,hk,hn,hm⟩:=hS;obtain⟨ws,h1,h2⟩:=KK (x:=x) 32 (by omega);have hc:ws.map L8=Fm c:=by rw[h2,Ymq ht]
 have Yp:ws.length=5+c.Ab.length:=by
  have:=congrArg List.length hc;simp[Fm,K9] at this;omega
 have s0:Yv ws 0 5=some ((ws.drop 0).take 5):=Qq (a:=0) (b:=5) (by omega) (by omega);have s1:Yv ws 5 (ws.length:Int)=some ((ws.drop 5).take (ws.length - 5)):=Qq (a:=5) (by omega) (B2 _);have hh:((ws.drop 0).take 5)=(K9 c).map Z1:=by
  refine Yqa ?_;rw[I0,List.map_take,hc];unfold Fm;rw[Vdu (by simp[K9]),DH (by simp[K9])]
 have ht5:(ws.drop 5).take (ws.length - 5)=ws.drop 5:=DH (by simp);unfold L5;rw[h1,Ag,Ai (by simp;omega),show decide ((ws.length:Int) > 9)=false by simp;omega];unfold Ul;rw[Ai (by simp),s0,Ag,hh,Vq (by simp[K9]) (by
  intro v hv;unfold K9 at hv;simp only[BX,Gs,or_false] at hv;rcases hv with rfl|rfl|rfl|rfl|rfl<;>omega),Ag,Ai (by simp),s1]
 have i0:idx (K9 c) 0=some c.Av:=rfl;have i1:idx (K9 c) 1=some c.As:=rfl;have i2:idx (K9 c) 2=some c.An:=rfl;have i3:idx (K9 c) 3=some c.Ap:=rfl;have i4:idx (K9 c) 4=some c.Al:=rfl;simp only[i0,i1,i2,i3,i4,Ag,ht5];have hd:(ws.drop 5).length=c.Ab.length:=by simp;omega
 rw[hd];have:=Jh (σ:=Zg) (n:=c.Ab.length) (by omega) (λk=>({c with Ab:=c.Ab.take k}:Zg)) (B:=λκ st j=>Kz x (λa b d e=>κ a e) st (ws.drop 5) (c.Ab.length:Int) j) (L:=λm st j=>Qz x m st (ws.drop 5) (c.Ab.length:Int) j) (r:=some (c,true)) (λm s i=>?_) (λk Qg κ=>?_) λκ=>?_
 .exact this
 .show Kz x (Qz x m) s (ws.drop 5) (c.Ab.length:Int) i=Kz x (λa b d e=>Qz x m a (ws.drop 5) (c.Ab.length:Int) e) s (ws.drop 5) (c.Ab.length:Int) i
  unfold Kz RU RT;rfl
 .obtain⟨u4,hww⟩:=Y3m hc Qg
  have Ea:k < (ws.drop 5).length:=by omega
  have Yi:(ws.drop 5)[k]=ws[5+k]:=by rw[List.getElem_drop]
  obtain⟨ps,p1,p2⟩:=KK (x:=ws[5+k]) 58 (by have:ws[5+k].size<=x.size:=Jl h2 (B6 u4);omega);rw[hww,Yva] at p2;have p3:=Yqa p2;obtain⟨⟨m1,m2⟩,⟨m3,m4⟩,⟨m5,m6⟩,m7⟩:=hm _ (B6 Qg);have hbn:∀v∈Ir c.Ab[k],-1000000000000000000 < v/\v < 1000000000000000000:=by
   intro v hv;unfold Ir at hv;split at hv
   .simp only[BX,Gs,or_false] at hv
    rcases hv with rfl|rfl|rfl<;>omega
   .simp only[BX,Gs,or_false] at hv
    subst hv;omega
  have Lb:(Ir c.Ab[k]).length<=3:=by unfold Ir;split<;>simp
  unfold Kz;rw[Ah (by simpa using Qg),Zx Ea,Ag,Yi,p1,Ag,p3,Vq (by omega) hbn,Ag,Ah rfl];have ha:Y4 32 (c.Ab.take k) [c.Ab[k]]=some (c.Ab.take (k+1)):=by
   rw[Yr (by simp;omega) (by simp;omega),List.take_succ_eq_append_getElem Qg]
  unfold RU RT;by_cases hp:c.Ab[k].prio=true
  .have e:Ir c.Ab[k]=[c.Ab[k].weight,c.Ab[k].every,c.Ab[k].cap]:=by unfold Ir;rw[Ah hp]
   have j0:idx [c.Ab[k].weight,c.Ab[k].every,c.Ab[k].cap] 0=some c.Ab[k].weight:=rfl;have j1:idx [c.Ab[k].weight,c.Ab[k].every,c.Ab[k].cap] 1=some c.Ab[k].every:=rfl;have j2:idx [c.Ab[k].weight,c.Ab[k].every,c.Ab[k].cap] 2=some c.Ab[k].cap:=rfl;simp only[e,j0,j1,j2,Ag,AP,Bf,Pp hp,ha];rfl
  .have gL:c.Ab[k].prio=false:=by simpa using hp
   have e:Ir c.Ab[k]=[c.Ab[k].weight]:=by unfold Ir;rw[Ai hp]
   have j0:idx [c.Ab[k].weight] 0=some c.Ab[k].weight:=rfl;simp only[e,j0,Ag,AP,Bf,Y9f gL (m7 gL),ha];rfl
 .unfold Kz
  rw[Ai (by simp),Yr9 (DH (B2 _))];obtain⟨r,e1,_,e3⟩:=Z9t (x:=x) (c:=c) (by omega);rw[e1,e3 ⟨hg,ht⟩]
theorem Ytk {x:ByteArray} (hx:x.size<=1048576):∃r,O8 x=some r/\L5 x=some r/\Iq x r:=by
 obtain⟨r,h1,h2⟩:=Ykm hx;obtain⟨q,h3,h4⟩:=Yli hx;refine⟨r,h1,?_,h2⟩;rcases h2 with rfl|⟨hr,hc⟩
 .rcases h4 with rfl|⟨hq,hd⟩
  .exact h3
  .rw[Ykv hd hx] at h1
   injection h1 with h1;injection h1 with _ h1;cases h1
 .rw[Yko hc hx]
  obtain⟨r1,r2⟩:=r;simp only at hr;rw[hr]
def C2 (v:Int):Prop:=-1000000000000000000 < v/\v < 1000000000000000000
theorem C2.r {v:Int} (h:C2 v):B0 v:=⟨by have:=h.1;omega,by have:=h.2;omega⟩
theorem Z38 {l:List UInt8} (hl:l.length<=18):l.foldl E5 0 < 1000000000000000000:=by
 have:=Yv3 l 0 0 (by simp);have h2:10^(0+l.length)<=10^18:=V1 (by omega) (by omega);omega
def Pr (l:List UInt8):Bool:=l.all λc=>decide (Q3 c)
theorem Yyf {l:List UInt8} (h:∀c∈l,Q3 c):Pr l=true:=by
 unfold Pr;rw[Cf];exactλc hc=>decide_eq_true (h c hc)
theorem dgW2 {c:UInt8} (h:Q3 c) {n:Int} (h0:0<=n) (h1:n < 100000000000000000):Y8 (Zl (X5 n 10) (JL (c.toNat:Int))) 48=n*10+((c.toNat - 48:Nat):Int):=by
 unfold Q3 at h;have e:JL (c.toNat:Int)=(c.toNat:Int):=Xai (by omega) (by omega);have h:48<=(c.toNat:Int)/\(c.toNat:Int)<=57:=by omega
 rw[e,Jj (by omega) (by omega),Ye (by omega) (by omega),Xd (by omega) (by omega)];omega
theorem Yby (x0 w:ByteArray) (sg:Int) (hw:(L8 w).length<=18):∀(m i n:Nat),i<=(L8 w).length->(L8 w).length - i < m->n < 10^i->
  OA x0 m w sg (n:Int) (i:Int)=some (if Pr ((L8 w).drop i)=true then X5 sg (((L8 w).drop i).foldl E5 n:Nat) else 0):=by
 have W3:=Z6 w;intro m
 induction m with
 | zero=>intro i n _ h;omega
 | succ m ih=>
  intro i n hi hm hn;show bH x0 (OA x0 m) w sg (n:Int) (i:Int)=_;unfold bH;by_cases hc:i < (L8 w).length
  .have hb:10^i<=10^17:=V1 (by omega) (by omega)
   rw[Ah (decide_eq_true (by omega)),Ho hc,Ag,DG hc];have bad:∀b:Bool,b=true->¬Q3 (L8 w)[i]->O9 x0 (OA x0 m) w sg (n:Int) (i:Int) b=some (if Pr ((L8 w)[i]::(L8 w).drop (i+1))=true then X5 sg (((L8 w)[i]::(L8 w).drop (i+1)).foldl E5 n:Nat) else 0):=λb hb hd=>by
    unfold O9;rw[Ah hb,Ai (by unfold Pr;rw[Ef,decide_eq_false hd];simp)]
   by_cases h1:(L8 w)[i].toNat < 48
   .rw[Ah (decide_eq_true (by omega))]
    exact bad true rfl (by unfold Q3;omega)
   .rw[Ai (by rw[Bl];omega)]
    by_cases h2:(L8 w)[i].toNat > 57
    .rw[Ah (decide_eq_true (by omega))]
     exact bad true rfl (by unfold Q3;omega)
    .have hd:Q3 (L8 w)[i]:=by unfold Q3;omega
     rw[Ai (by rw[Bl];omega),show decide ((w.size:Int) > 18)=false from decide_eq_false (by omega)];unfold O9;rw[Ai (by simp),Ho hc,Ag,dgW2 hd (by omega) (by omega),Z8 (by omega)];have e:(n:Int)*10+(((L8 w)[i].toNat - 48:Nat):Int)=((E5 n (L8 w)[i]:Nat):Int):=by
      unfold E5;rw[Ah hd];omega
     have Ya:E5 n (L8 w)[i] < 10^(i+1):=by
      unfold E5;rw[Ah hd,Tw];unfold Q3 at hd;omega
     rw[e,ih (i+1) _ (by omega) (by omega) Ya]
     congr 1
     have e2:Pr ((L8 w)[i]::(L8 w).drop (i+1))=Pr ((L8 w).drop (i+1)):=by unfold Pr;rw[Ef,decide_eq_true hd,Hs]
     rw[e2,HO]
  .rw[Ai (by rw[Bl];omega),Fu (by omega)]
   rfl
theorem Yx6 (x0 w:ByteArray) (sg:Int) (hs:sg=1\/sg=-1):∃n,RH x0 w sg=some n/\C2 n:=by
 unfold RH;by_cases hl:(L8 w).length<=18
 .have:=Yby x0 w sg hl FU 0 0 (BM _) (by have:=Yx;omega) (by simp)
  refine⟨_,this,?_⟩;have hb:=Z38 (l:=(L8 w).drop 0) (by simpa using hl);split
  .rcases hs with rfl|rfl
   .rw[Jj (by omega) (by omega)];constructor<;>omega
   .rw[Jj (by omega) (by omega)];constructor<;>omega
  .constructor<;>omega
 .refine⟨0,?_,by constructor<;>omega⟩
  have W3:=Z6 w;show bH x0 (OA x0 18446744073709551615) w sg 0 0=some 0;unfold bH;rw[Ah (decide_eq_true (by omega)),show (0:Int)=((0:Nat):Int) from rfl,Ho (by omega),Ag];have j:O9 x0 (OA x0 18446744073709551615) w sg ((0:Nat):Int) ((0:Nat):Int) true=some 0:=rfl;split
  .exact j
  .split
   .exact j
   .rw[show decide ((w.size:Int) > 18)=true from decide_eq_true (by omega)]
    exact j
theorem Z78 (x:ByteArray):∃n,OB x=some n/\C2 n:=by
 have W3:=Z6 x;unfold OB;have pos:∃n,MU x false=some n/\C2 n:=by
  unfold MU;rw[Ai (by simp)];exact Yx6 x x 1 (.inl rfl)
 by_cases h0:0 < (L8 x).length
 .rw[Ah (decide_eq_true (by omega)),show (0:Int)=((0:Nat):Int) from rfl,Ho h0,Ag]
  cases hb:decide ((((L8 x)[0].toNat:Nat):Int)=45) with
  | false=>exact pos
  | true=>
   unfold MU;obtain⟨y,e,_⟩:=N1 (x:=x) (a:=1) (b:=(L8 x).length) (by omega) (B2 _);rw[Ah rfl,show ((x.size:Nat):Int)=((L8 x).length:Int) by omega,show (1:Int)=((1:Nat):Int) from rfl,e,Ag];exact Yx6 x y (-1) (.inr rfl)
 .rw[Ai (by rw[Bl];omega)]
  exact pos
theorem Ye0 {v:Int} (h:C2 v):OB (Z1 v)=some v:=by
 obtain⟨h1,h2⟩:=h;have W3:=Z6 (Z1 v);rw[Y0] at W3;have ha:=u1 v;have Yj:0 < (Lib.itoa v).length:=Cq.2 (Yp9 v);unfold OB;rw[Ah (decide_eq_true (by omega)),show (0:Int)=((0:Nat):Int) from rfl,Ho (by rw[Y0];exact Yj),Ag];by_cases hn:v < 0
 .have e2:Lib.itoa v=45::Lib.decDigits v.natAbs:=by unfold Lib.itoa;rw[Ah hn]
  have h45:(L8 (Z1 v))[0]'(by rw[Y0,e2];simp)=45:=by simp[Y0,e2]
  rw[h45];show MU (Z1 v) true=_;unfold MU;obtain⟨y,e,hy⟩:=N1 (x:=Z1 v) (a:=1) (b:=(Lib.itoa v).length) (by omega) (by rw[Y0];exact B2 _);have gM:L8 y=Lib.decDigits v.natAbs:=by
   rw[hy,Y0,e2,vL,I0,DH (by simp)]
  have hl:=Vp (k:=17) (u:=v.natAbs) (by omega);have e:EI (Z1 v) 1 ((Lib.itoa v).length:Int)=some y:=e;rw[Ah rfl,show (((Z1 v).size:Nat):Int)=((Lib.itoa v).length:Int) by omega,e,Ag];unfold RH;have:=Yby (Z1 v) y (-1) (by rw[gM];omega) FU 0 0 (BM _) (by rw[gM];have:=Yx;omega) (by simp);rw[show ((0:Nat):Int)=0 from rfl] at this;rw[this,I0,gM,Ah (Yyf λc hc=>LV hc),gG,Jj (by omega) (by omega)]
  congr 1;omega
 .have e2:Lib.itoa v=Lib.decDigits v.toNat:=by unfold Lib.itoa;rw[Ai hn]
  have hl:=Vp (k:=17) (u:=v.toNat) (by omega);have hd:Q3 ((L8 (Z1 v))[0]'(by rw[Y0];exact Yj)):=by
   refine LV (u:=v.toNat) ?_;rw[<-e2];exact B6 Yj
  rw[show decide ((((L8 (Z1 v))[0]'(by rw[Y0];exact Yj)).toNat:Int)=45)=false by unfold Q3 at hd;exact decide_eq_false (by omega)];unfold MU;rw[Ai (by simp)];unfold RH;have:=Yby (Z1 v) (Z1 v) 1 (by rw[Y0,e2];omega) FU 0 0 (BM _) (by rw[Y0,e2];have:=Yx;omega) (by simp);rw[show ((0:Nat):Int)=0 from rfl] at this;rw[this,I0,Y0,Ah (Yyf λc hc=>LV (u:=v.toNat) (by rw[<-e2];exact hc)),u1,Jj (by omega) (by omega)]
  congr 1;omega
theorem Ycm {ws:List ByteArray} (hl:ws.length < 1048600):∃r,RI ws=some r/\r.length=ws.length/\∀v∈r,C2 v:=by
 have key:∀(m k:Nat) (out:List Int),k<=ws.length->ws.length - k < m->out.length=k->(∀v∈out,C2 v)->∃r,Ug ws m out (k:Int)=some r/\r.length=ws.length/\∀v∈r,C2 v:=by
  intro m
  induction m with
  | zero=>intro k out _ h;omega
  | succ m ih=>
   intro k out hk hm ho hv;show ∃r,Uf ws (Ug ws m) out (k:Int)=some r/\_;unfold Uf;by_cases hc:k < ws.length
   .obtain⟨n,h1,h2⟩:=Z78 ws[k]
    rw[Ah (by simpa using hc),Zx hc,Ag,h1,Ag,Yr (by simp;omega) (by simp;omega),Ag,Z8 (by omega)];refine ih (k+1) _ (by omega) (by omega) (by simp;omega) λv DF=>?_;rcases BP.1 DF with DF|DF
    .exact hv v DF
    .rw[List.mem_singleton.1 DF];exact h2
   .rw[Ai (by simpa using hc)]
    exact⟨_,rfl,by omega,hv⟩
 exact key FU 0 [] (BM _) (by have:=Yx;omega) rfl (by simp)
theorem Z72 {l:List Int} (hl:l.length < 1048600) (h:∀v∈l,C2 v):RI (l.map Z1)=some l:=by
 unfold RI;refine Jh (σ:=List Int) (n:=l.length) (by omega) (λk=>l.take k) (B:=λκ st j=>Uf (l.map Z1) κ st j) (L:=λm st j=>Ug (l.map Z1) m st j) (λm s i=>rfl) (λk hk κ=>?_) λκ=>?_
 .unfold Uf
  rw[Ah (by simpa using hk),Zx (by simpa using hk),Ag,iL,Ye0 (h _ (B6 hk)),Ag,Yr (by simp;omega) (by simp;omega),Ag,List.take_succ_eq_append_getElem hk]
 .unfold Uf
  rw[Ai (by simp),E9]
theorem Z8v {x:ByteArray} (h:x.size<=281474976710656):∃r,L1 x 18=some r/\C2 r.1:=by
 obtain⟨r,h1,_⟩:=Yff (d:=18) h;refine⟨r,h1,?_⟩;unfold L1 at h1;rw[Ah h] at h1;have z:C2 0:=by constructor<;>omega
 split at h1
 .rename_i v hv
  split at h1
  .rename_i hc
   injection h1 with h1;rw[<-h1];show C2 v;have hf:=u1 v;have hl:=hc.2;rw[<-hc.1] at hl;unfold Lib.trimPrefix at hl;by_cases hn:v < 0
   .have e2:Lib.itoa v=45::Lib.decDigits v.natAbs:=by unfold Lib.itoa;rw[Ah hn]
    rw[e2,Ah (by simp[Lib.hasPrefix,List.isPrefixOf])] at hl;have hb:=Z38 (l:=Lib.decDigits v.natAbs) (by simp at hl;omega);rw[gG] at hb;constructor<;>omega
   .have e2:Lib.itoa v=Lib.decDigits v.toNat:=by unfold Lib.itoa;rw[Ai hn]
    have hnp:Lib.hasPrefix (Lib.itoa v) [45]=false:=by
     rw[e2];cases hd:Lib.decDigits v.toNat with
     | nil=>rfl
     | cons c l=>
      have:=LV (u:=v.toNat) (c:=c) (by rw[hd];exact BI);unfold Q3 at this;have e:(45:UInt8).toNat=45:=rfl;have Yj:¬(45:UInt8)=c:=by rintro rfl;omega
      simp[Lib.hasPrefix,List.isPrefixOf,Yj]
    rw[Ai (by rw[hnp];simp),e2] at hl;have hb:=Z38 (l:=Lib.decDigits v.toNat) (by omega);rw[gG] at hb;constructor<;>omega
  .injection h1 with h1;rw[<-h1];exact z
 .injection h1 with h1;rw[<-h1];exact z
theorem Zxu {ws:List ByteArray} (hl:ws.length < 1048600) (hz:∀w∈ws,w.size<=281474976710656):∃r,L2 ws=some r/\(∀v∈r.1,C2 v)/\r.1.length<=ws.length/\(r.2=true->r.1.length=ws.length):=by
 have key:∀(m k:Nat) (out:List Int),k<=ws.length->ws.length - k < m->out.length=k->(∀v∈out,C2 v)->∃r,OE ws m out (k:Int)=some r/\(∀v∈r.1,C2 v)/\r.1.length<=ws.length/\(r.2=true->r.1.length=ws.length):=by
  intro m
  induction m with
  | zero=>intro k out _ h;omega
  | succ m ih=>
   intro k out hk hm ho hv;show ∃r,OD ws (OE ws m) out (k:Int)=some r/\_;unfold OD;by_cases hc:k < ws.length
   .obtain⟨r,h1,h2⟩:=Z8v (hz _ (B6 hc))
    rw[Ah (by simpa using hc),Zx hc,Ag,h1,Ag];by_cases hr:r.2=true
    .rw[Ai (by simp[hr]),Yr (by simp;omega) (by simp;omega),Ag,Z8 (by omega)]
     refine ih (k+1) _ (by omega) (by omega) (by simp;omega) λv DF=>?_;rcases BP.1 DF with DF|DF
     .exact hv v DF
     .rw[List.mem_singleton.1 DF];exact h2
    .rw[Ah (by simp[hr])]
     exact⟨_,rfl,by simp,by simp,λh=>by cases h⟩
   .rw[Ai (by simpa using hc)]
    exact⟨_,rfl,hv,by show out.length<=_;omega,λ_=>by show out.length=_;omega⟩
 exact key FU 0 [] (BM _) (by have:=Yx;omega) rfl (by simp)
theorem Yga (xs:List ByteArray) (y:ByteArray) (hl:xs.length < 1000):∃n,Ly xs y=some n:=by
 have key:∀(m k:Nat),k<=xs.length->xs.length - k < m->∃n,O1 xs y m (k:Int)=some n:=by
  intro m
  induction m with
  | zero=>intro k _ h;omega
  | succ m ih=>
   intro k hk hm;show ∃n,O0 xs y (O1 xs y m) (k:Int)=some n;unfold O0;by_cases hc:k < xs.length
   .rw[Ah (by simpa using hc),Zx hc,Ag,Z8 (by omega)]
    split
    .exact⟨_,rfl⟩
    .exact ih (k+1) (by omega) (by omega)
   .rw[Ai (by simpa using hc)];exact⟨_,rfl⟩
 exact key FU 0 (BM _) (by have:=Yx;omega)
theorem Yip (xs:List ByteArray) (y:ByteArray) (hl:xs.length < 1000):∃n,X6 xs y=some n:=by
 have key:∀(m k:Nat),k<=xs.length->xs.length - k < m->∃n,Wv xs y m (k:Int)=some n:=by
  intro m
  induction m with
  | zero=>intro k _ h;omega
  | succ m ih=>
   intro k hk hm;show ∃n,Wm xs y (Wv xs y m) (k:Int)=some n;unfold Wm;by_cases hc:k < xs.length
   .rw[Ah (by simpa using hc),Zx hc,Ag,Z8 (by omega)]
    split
    .exact⟨_,rfl⟩
    .exact ih (k+1) (by omega) (by omega)
   .rw[Ai (by simpa using hc)];exact⟨_,rfl⟩
 exact key FU 0 (BM _) (by have:=Yx;omega)
theorem Tg (xs:List ByteArray) (j:Nat) (hj:j < xs.length) (hl:xs.length < 1000) (hn:∀i (hi:i < j),L8 (xs[i]'(by omega))≠L8 xs[j]):Ly xs xs[j]=some (j:Int):=by
 unfold Ly;refine Ywt (n:=j) (by omega) (B:=λκ i=>O0 xs xs[j] κ i) (L:=λm i=>O1 xs xs[j] m i) (λm i=>rfl) (λk hk κ=>?_) λκ=>?_
 .unfold O0
  rw[Ah (by simp;omega),Zx (by omega),Ag,Ai (by rw[Qx];simpa using hn k hk)]
 .unfold O0
  rw[Ah (by simpa using hj),Zx hj,Ag,Ah (beq_self_eq_true _)]
theorem Th (xs:List ByteArray) (j:Nat) (hj:j < xs.length) (hl:xs.length < 1000) (hn:∀i (hi:i < j),L8 (xs[i]'(by omega))≠L8 xs[j]):X6 xs xs[j]=some (j:Int):=by
 unfold X6;refine Ywt (n:=j) (by omega) (B:=λκ i=>Wm xs xs[j] κ i) (L:=λm i=>Wv xs xs[j] m i) (λm i=>rfl) (λk hk κ=>?_) λκ=>?_
 .unfold Wm
  rw[Ah (by simp;omega),Zx (by omega),Ag,Ai (by rw[Qx];simpa using λh=>hn k hk h.symm)]
 .unfold Wm
  rw[Ah (by simpa using hj),Zx hj,Ag,Ah (beq_self_eq_true _)]
abbrev Ew:List ByteArray:=[Ze [98,121,116,101],Ze [104,97,108,102],Ze [119,111,114,100]]
abbrev Ka:List ByteArray:=[Ze [111,110,101],Ze [102,111,117,114],Ze [119,114,97,112],Ze [101,105,103,104,116]]
theorem gN {r:Zj} (h:Qk r=true):(r.size=0\/r.size=1\/r.size=2)/\(r.Az=0\/r.Az=1\/r.Az=2\/r.Az=3)/\(0<=r.addr/\r.addr < 512)/\∀v∈r.Aa,0<=v/\v < 4294967296:=by
 obtain⟨hb,_,hd⟩:=KB h;have hl:=Pb hb;have h2:r.Az=0\/r.Az=1\/r.Az=2\/r.Az=3:=by
  have:=hl.2;unfold X1 at this
  repeat' split at this
  all_goals omega
 have ha:r.addr∈Ku r.addr r.size r.Az:=by
  have Yj:Ku r.addr r.size r.Az≠[]:=λe=>by rw[e] at hl;simp at hl;omega
  unfold Ku at Yj ⊢;cases hq:EP r.size r.Az (X1 r.Az).toNat r.addr with
  | none=>rw[hq] at Yj;simp at Yj
  | some l=>
   have:=(Yd7 hq).2.2 (by omega);simp only[Gr];cases l with
   | nil=>simp at this
   | cons a l=>simp at this;subst this;exact BI
 obtain⟨h3,h4⟩:=eP ha;have h1:r.size=0\/r.size=1\/r.size=2:=by
  have:=(Jz h3).1;unfold Y3 at this
  repeat' split at this
  all_goals omega
 refine⟨h1,h2,h4,λv hv=>?_⟩;have:=hd v hv;simp only[X3,Bl] at this;have:=S5 r.size;omega
theorem Ysy {r:Zj} (h:Qk r=true):Ly Ew (Fj r.size)=some r.size/\X6 Ew (Fj r.size)=some r.size:=by
 rcases (gN h).1 with e|e|e<;>rw[e]
 .exact⟨Tg Ew 0 (by decide) (by decide) (λi hi=>by omega),Th Ew 0 (by decide) (by decide) (λi hi=>by omega)⟩
 .have hn:∀i (hi:i < 1),L8 (Ew[i]'(by show i < 3;omega))≠L8 (Ew[1]'(by decide)):=λi hi=>by
   obtain rfl:i=0:=by omega
   simp[Z7]
  exact⟨Tg Ew 1 (by decide) (by decide) hn,Th Ew 1 (by decide) (by decide) hn⟩
 .have hn:∀i (hi:i < 2),L8 (Ew[i]'(by show i < 3;omega))≠L8 (Ew[2]'(by decide)):=λi hi=>by
   obtain rfl|rfl:i=0\/i=1:=by omega
   .simp[Z7]
   .simp[Z7]
  exact⟨Tg Ew 2 (by decide) (by decide) hn,Th Ew 2 (by decide) (by decide) hn⟩
theorem Yna {r:Zj} (h:Qk r=true):Ly Ka (Fk r.Az)=some r.Az/\X6 Ka (Fk r.Az)=some r.Az:=by
 rcases (gN h).2.1 with e|e|e|e<;>rw[e]
 .exact⟨Tg Ka 0 (by decide) (by decide) (λi hi=>by omega),Th Ka 0 (by decide) (by decide) (λi hi=>by omega)⟩
 .have hn:∀i (hi:i < 1),L8 (Ka[i]'(by show i < 4;omega))≠L8 (Ka[1]'(by decide)):=λi hi=>by
   obtain rfl:i=0:=by omega
   simp[Z7]
  exact⟨Tg Ka 1 (by decide) (by decide) hn,Th Ka 1 (by decide) (by decide) hn⟩
 .have hn:∀i (hi:i < 2),L8 (Ka[i]'(by show i < 4;omega))≠L8 (Ka[2]'(by decide)):=λi hi=>by
   obtain rfl|rfl:i=0\/i=1:=by omega
   .simp[Z7]
   .simp[Z7]
  exact⟨Tg Ka 2 (by decide) (by decide) hn,Th Ka 2 (by decide) (by decide) hn⟩
 .have hn:∀i (hi:i < 3),L8 (Ka[i]'(by show i < 4;omega))≠L8 (Ka[3]'(by decide)):=λi hi=>by
   obtain rfl|rfl|rfl:i=0\/i=1\/i=2:=by omega
   .simp[Z7]
   .simp[Z7]
   .simp[Z7]
  exact⟨Tg Ka 3 (by decide) (by decide) hn,Th Ka 3 (by decide) (by decide) hn⟩
def Iu (r:Zj):List (List UInt8):=[Eu r.write,L8 (Fj r.size),L8 (Fk r.Az),Lib.itoa r.addr]++((if r.lock=true then [[108,111,99,107]] else [])++r.Aa.map Lib.itoa)
theorem Yf5 (r:Zj):Kw r=Lib.join (Iu r) [32]:=by
 unfold Kw Iu LU Wt;simp only[Hr,LZ];rw[Lib.join_cons];unfold Lib.joinTail;cases r.lock<;>simp[V7,Hu,P4]
theorem Yxl (l:ByteArray) (h:l∈Ew\/l∈Ka):∀y∈L8 l,y≠32/\y≠10:=by
 have h:l∈Ew++Ka:=BP.2 h;simp only[Ew,Ka,Hr,LZ,BX,Gs,or_false] at h;rcases h with rfl|rfl|rfl|rfl|rfl|rfl|rfl<;>decide
theorem Xap (s:Int):Fj s∈Ew:=by
                           unfold Fj;repeat' split
                           all_goals simp[Ew]
theorem Y5t (s:Int):Fk s∈Ka:=by
                            unfold Fk;repeat' split
                            all_goals simp[Ka]
theorem Y8i (b:Bool):∀y∈Eu b,y≠32/\y≠10:=by cases b<;>decide
theorem Ysa {r:Zj}:∀w∈Iu r,∀y∈w,y≠32/\y≠10:=by
 intro w hw y hy;have hi:∀v:Int,y∈Lib.itoa v->y≠32/\y≠10:=λv h=>⟨KL h (.inl rfl),KL h (.inr (.inr rfl))⟩;unfold Iu at hw;rcases BP.1 hw with hw|hw
 .simp only[BX,Gs,or_false] at hw
  rcases hw with rfl|rfl|rfl|rfl
  .exact Y8i _ y hy
  .exact Yxl _ (.inl (Xap _)) y hy
  .exact Yxl _ (.inr (Y5t _)) y hy
  .exact hi _ hy
 .rcases BP.1 hw with hw|hw
  .split at hw
   .rw[List.mem_singleton.1 hw] at hy
    have:∀y∈([108,111,99,107]:List UInt8),y≠32/\y≠10:=by decide
    exact this y hy
   .simp at hw
  .obtain⟨v,_,rfl⟩:=D7.1 hw
   exact hi _ hy
theorem Ysk {x:ByteArray} {r:Zj} (h:L8 x=Kw r):Ym 32 (L8 x)=Iu r:=by
 rw[h,Yf5,u0 (by simp[Iu]) λw hw y hy=>(Ysa w hw y hy).1]
def gO (x:ByteArray) (r:Zj):Prop:=Qk r=true/\L8 x=Kw r
def N4 (x:ByteArray) (q:Zj×Bool):Prop:=q=(Zj.z0,false)\/(q.2=true/\gO x q.1)
theorem Yc3 {x:ByteArray} {r:Zj} (hx:L8 x≠[]) (hs:r.sm) (hn:r.B1):∃q,((RJ r).bind λr1=>if (!(r1.toList == x.toList))=true then some (Zj.z0,false) else some (r,true))=some q/\N4 x q/\(gO x r->q=(r,true)):=by
 rw[Z4s hs hn,Ag];by_cases h:Qk r=true
 .rw[Ah h,Qx,Xr (Kw r)]
  by_cases he:Kw r=L8 x
  .rw[Ai (by simp[he])]
   exact⟨_,rfl,.inr ⟨rfl,h,he.symm⟩,λ_=>rfl⟩
  .rw[Ah (by simp[he])]
   exact⟨_,rfl,.inl rfl,λhh=>absurd hh.2.symm he⟩
 .rw[Ai h,Qx,Gh,decide_eq_false (λe=>hx e.symm),Ah (by simp)]
  exact⟨_,rfl,.inl rfl,λhh=>absurd hh.1 h⟩
theorem Yc1 {x:ByteArray} {r:Zj} (hs:r.sm) (hn:r.B1):∃q,((OF r).bind λr2=>if (!r2)=true then some (Zj.z0,false) else ((Uo r).bind λr3=>if (!(r3.toList == x.toList))=true then some (Zj.z0,false) else some (r,true)))=some q/\N4 x q/\(gO x r->q=(r,true)):=by
 rw[tV r hs,Yds hs hn,Ag,Ag];by_cases h:Qk r=true
 .rw[Ai (by simp[h]),Ah h,Qx,Xr (Kw r)]
  by_cases he:Kw r=L8 x
  .rw[Ai (by simp[he])]
   exact⟨_,rfl,.inr ⟨rfl,h,he.symm⟩,λ_=>rfl⟩
  .rw[Ah (by simp[he])]
   exact⟨_,rfl,.inl rfl,λhh=>absurd hh.2.symm he⟩
 .rw[Ah (by simp[h])]
  exact⟨_,rfl,.inl rfl,λhh=>absurd hh.1 h⟩
theorem Z8o {x:ByteArray} (hx:L8 x≠[]) {ws:List ByteArray} (hw:ws.length < 1048577) {r:Zj} (hr:B0 r.addr) (hd:r.Aa=[]):∃q,Ja x FU r ws 0=some q/\N4 x q:=by
 have key:∀(m k:Nat) (d:List Int),k<=ws.length->ws.length - k < m->d.length=k->(∀v∈d,B0 v)->∃q,Ja x m {r with Aa:=d} ws (k:Int)=some q/\N4 x q:=by
  intro m
  induction m with
  | zero=>intro k d _ h;omega
  | succ m ih=>
   intro k d hk hm ho hv;show ∃q,Jn x (Ja x m) {r with Aa:=d} ws (k:Int)=some q/\_;unfold Jn;by_cases hc:k < ws.length
   .obtain⟨n,h1,h2⟩:=Z78 ws[k]
    rw[Ah (by simpa using hc),Zx hc,Ag,h1,Ag,Yr (by simp;omega) (by simp;omega),Ag,Z8 (by omega)];refine ih (k+1) _ (by omega) (by omega) (by simp;omega) λv DF=>?_;rcases BP.1 DF with DF|DF
    .exact hv v DF
    .rw[List.mem_singleton.1 DF];exact h2.r
   .rw[Ai (by simpa using hc)]
    obtain⟨q,e1,e2,_⟩:=Yc3 (x:=x) (r:={r with Aa:=d}) hx (by unfold Zj.sm;show d.length < _;omega) ⟨hr,hv⟩;exact⟨q,e1,e2⟩
 have:=key FU 0 [] (BM _) (by have:=Yx;omega) rfl (by simp);have e:({r with Aa:=[]}:Zj)=r:=by cases r;simp at hd;simp[hd]
 rw[e] at this;exact this
theorem Z9j {x:ByteArray} {c:UInt8} {ws:List ByteArray} (h:ws.map L8=Ym c (L8 x)) (h2:2<=ws.length):L8 x≠[]:=λe=>by
 rw[e] at h;have:=congrArg List.length h;simp[Ym] at this;omega
theorem Ynl {x:ByteArray} (hx:x.size<=1048576):∃q,Uj x=some q/\N4 x q:=by
 obtain⟨ws,h1,h2⟩:=HJ (x:=x) 32 (by omega);have h1:W0 x 32=some ws:=h1;have Yp:=Is h2;unfold Uj;rw[h1,Ag];by_cases hl:ws.length < 4
 .rw[Ah (by simp;omega)]
  exact⟨_,rfl,.inl rfl⟩
 .have Yj:=Z9j h2 (by omega)
  obtain⟨q3,e3⟩:=Yga Ew ws[1] (by decide);obtain⟨q4,e4⟩:=Yga Ka ws[2] (by decide);obtain⟨q5,e5,b5⟩:=Z78 ws[3];have i0:idx ws 0=some ws[0]:=Zx (k:=0) (by omega);have i1:idx ws 1=some ws[1]:=Zx (k:=1) (by omega);have i2:idx ws 2=some ws[2]:=Zx (k:=2) (by omega);have i3:idx ws 3=some ws[3]:=Zx (k:=3) (by omega);have s4:Yv ws 4 (ws.length:Int)=some ((ws.drop 4).take (ws.length - 4)):=Qq (a:=4) (by omega) (B2 _);rw[Ai (by simp;omega),i0,Ag,i1,Ag,e3,Ag,i2,Ag,e4,Ag,i3,Ag,e5,Ag,s4,Ag];generalize hv:(ws.drop 4).take (ws.length - 4)=vs;have IG:vs.length < 1048577:=by rw[<-hv];simp;omega
  have j2:∀(b:Bool),(b=true->1<=vs.length)->∃q,OC x (Zj.mk (ws[0].toList == (Ze [119,114,105,116,101]).toList) q5 q3 q4 false []) vs b=some q/\N4 x q:=λb hb=>by
   unfold OC Ui;split
   .rename_i Jy
    have s1:Yv vs 1 (vs.length:Int)=some ((vs.drop 1).take (vs.length - 1)):=Qq (a:=1) (hb Jy) (B2 _);rw[s1,Ag];exact Z8o Yj (by simp;omega) (by exact b5.r) rfl
   .exact Z8o Yj IG (by exact b5.r) rfl
  by_cases h0:0 < vs.length
  .have i0:idx vs 0=some vs[0]:=Zx (k:=0) h0
   rw[Ah (by simpa using h0),i0,Ag];exact j2 _ λ_=>h0
  .rw[Ai (by simpa using h0)]
   exact j2 false λh=>by cases h
theorem Ym7 {x:ByteArray} (hx:x.size<=1048576):∃q,Up x=some q/\N4 x q:=by
 obtain⟨ws,h1,h2⟩:=KK (x:=x) 32 (by omega);have Yp:=Is h2;have hz:∀w∈ws,w.size<=281474976710656:=λw hw=>by have:=Jl h2 hw;omega
 unfold Up;rw[h1,Ag];by_cases hl:ws.length < 4
 .rw[Ah (by simp;omega)]
  exact⟨_,rfl,.inl rfl⟩
 .obtain⟨q3,e3⟩:=Yip Ew ws[1] (by decide)
  obtain⟨q4,e4⟩:=Yip Ka ws[2] (by decide);have i0:idx ws 0=some ws[0]:=Zx (k:=0) (by omega);have i1:idx ws 1=some ws[1]:=Zx (k:=1) (by omega);have i2:idx ws 2=some ws[2]:=Zx (k:=2) (by omega);have i3:idx ws 3=some ws[3]:=Zx (k:=3) (by omega);have s4:Yv ws 4 (ws.length:Int)=some ((ws.drop 4).take (ws.length - 4)):=Qq (a:=4) (by omega) (B2 _);have f1:Um=some Ew:=rfl;have f2:Un=some Ka:=rfl;rw[Ai (by simp;omega),i0,Ag,f1,Ag,i1,Ag,e3,Ag,f2,Ag,i2,Ag,e4,Ag,s4,Ag];generalize hv:(ws.drop 4).take (ws.length - 4)=vs;have IG:vs.length < 1048577:=by rw[<-hv];simp;omega
  have hvz:∀w∈vs,w.size<=281474976710656:=λw hw=>hz w (by rw[<-hv] at hw;exact Gp (Gq hw));have j2:∀(r:Zj) (us:List ByteArray),us.length < 1048577->(∀w∈us,w.size<=281474976710656)->∃q,RY x r ws us=some q/\N4 x q:=λr us hu huz=>by
   unfold RY;obtain⟨n,n1,n2⟩:=Z8v (hz ws[3] (B6 (by omega)));obtain⟨d,d1,d2,d3,d4⟩:=Zxu (ws:=us) (by omega) huz;rw[i3,Ag,n1,Ag,d1,Ag];split
   .exact⟨_,rfl,.inl rfl⟩
   .split
    .exact⟨_,rfl,.inl rfl⟩
    .obtain⟨q,e1,e2,_⟩:=Yc1 (x:=x) (r:={r with addr:=n.1,Aa:=d.1}) (by unfold Zj.sm;show d.1.length < _;omega) ⟨n2.r,λv hv=>(d2 v hv).r⟩
     exact⟨q,e1,e2⟩
  have j1:∀(b:Bool) (r:Zj),(b=true->1<=vs.length)->∃q,OG x r ws vs b=some q/\N4 x q:=λb r hb=>by
   unfold OG;split
   .rename_i Jy
    have s1:Yv vs 1 (vs.length:Int)=some ((vs.drop 1).take (vs.length - 1)):=Qq (a:=1) (hb Jy) (B2 _);rw[s1,Ag];exact j2 _ _ (by simp;omega) λw hw=>hvz w (Gp (Gq hw))
   .exact j2 _ _ IG hvz
  by_cases h0:0 < vs.length
  .have i0:idx vs 0=some vs[0]:=Zx (k:=0) h0
   rw[Ah (by simpa using h0),i0,Ag];exact j1 _ _ λ_=>h0
  .rw[Ai (by simpa using h0)]
   exact j1 false _ λh=>by cases h
theorem Yeh {ws:List ByteArray} {r:Zj} (h:ws.map L8=Iu r):ws=[Ze (Eu r.write),Fj r.size,Fk r.Az,Z1 r.addr]++((if r.lock=true then [Ze [108,111,99,107]] else [])++r.Aa.map Z1):=by
 have inj:∀{a b:List ByteArray},a.map L8=b.map L8->a=b:=by
  intro a
  induction a with
  | nil=>intro b h;cases b with
   | nil=>rfl
   | cons y b=>simp at h
  | cons x a ih=>intro b h;cases b with
   | nil=>simp at h
   | cons y b=>
    simp only[CD,V8] at h ⊢;exact⟨Jg h.1,ih h.2⟩
 refine inj (h.trans ?_);unfold Iu;cases r.lock<;>simp[Z7,Y0,Hu,P4]
theorem Ymy {d:List Int} (h:d≠[]):∃a l,d.map Z1=Z1 a::l/\L8 (Z1 a)≠[108,111,99,107]:=by
 cases d with
 | nil=>exact absurd rfl h
 | cons a l=>
  refine⟨a,l.map Z1,rfl,λe=>?_⟩;rw[Y0] at e;have:=Y3a (v:=a) (c:=108) (by rw[e];exact BI);rcases this with h|h
  .cases h
  .unfold Q3 at h
   have e:(108:UInt8).toNat=108:=rfl;omega
theorem Ywg (b:Bool):((Ze (Eu b)).toList == (Ze [119,114,105,116,101]).toList)=b:=by
 rw[Qx,Z7,Z7];cases b<;>rfl
theorem Yn9 {x:ByteArray} {r:Zj} (h:gO x r) (hx:x.size<=1048576):Uj x=some (r,true):=by
 obtain⟨hg,ht⟩:=h;obtain⟨ws,h1,h2⟩:=HJ (x:=x) 32 (by omega);have h1:W0 x 32=some ws:=h1;rw[Ysk ht] at h2;have GJ:=Yeh h2;obtain⟨v1,v2,v3,v4⟩:=gN hg;have Vs:=Vn hg;have Yj:L8 x≠[]:=by rw[ht];exact Y28 r
 have Y7p:r.B1:=⟨⟨by omega,by omega⟩,λv hv=>by have:=v4 v hv;exact⟨by omega,by omega⟩⟩;have loop:∀us:List ByteArray,us=r.Aa.map Z1->Ja x FU {r with Aa:=[]} us 0=some (r,true):=λus hu=>by
  subst hu;refine Jh (σ:=Zj) (n:=r.Aa.length) (by omega) (λk=>({r with Aa:=r.Aa.take k}:Zj)) (B:=λκ st j=>Jn x (λa _ c=>κ a c) st (r.Aa.map Z1) j) (L:=λm st j=>Ja x m st (r.Aa.map Z1) j) (λm s i=>?_) (λk hk κ=>?_) λκ=>?_
  .show Jn x (Ja x m) s (r.Aa.map Z1) i=Jn x (λa _ c=>Ja x m a (r.Aa.map Z1) c) s (r.Aa.map Z1) i
   unfold Jn;rfl
  .unfold Jn
   have hb:=v4 _ (B6 hk);rw[Ah (by simpa using hk),Zx (by simpa using hk),Ag,iL,Ye0 ⟨by omega,by omega⟩,Ag,Yr (by simp;omega) (by simp;omega),Ag,List.take_succ_eq_append_getElem hk]
  .unfold Jn
   have e:({r with Aa:=r.Aa.take r.Aa.length}:Zj)=r:=by rw[E9]
   rw[Ai (by simp),e];obtain⟨q,e1,_,e3⟩:=Yc3 (x:=x) (r:=r) Yj (eQ hg) Y7p;rw[e1,e3 ⟨hg,ht⟩]
 have s4:Yv ws 4 (ws.length:Int)=some ((ws.drop 4).take (ws.length - 4)):=Qq (a:=4) (by rw[GJ];simp) (B2 _);have hd:(ws.drop 4).take (ws.length - 4)=(if r.lock=true then [Ze [108,111,99,107]] else [])++r.Aa.map Z1:=by
  rw[DH (by simp),GJ];rfl
 rw[hd] at s4;have i0:idx ws 0=some (Ze (Eu r.write)):=by rw[GJ];rfl
 have i1:idx ws 1=some (Fj r.size):=by rw[GJ];rfl
 have i2:idx ws 2=some (Fk r.Az):=by rw[GJ];rfl
 have i3:idx ws 3=some (Z1 r.addr):=by rw[GJ];rfl
 have f1:=(Ysy hg).1;have f2:=(Yna hg).1;unfold Uj;rw[h1,Ag,Ai (by rw[GJ];simp;omega),i0,Ag,i1,Ag,f1,Ag,i2,Ag,f2,Ag,i3,Ag,Ye0 ⟨by omega,by omega⟩,Ag,s4,Ag,Ywg];cases hk:r.lock with
 | true=>
  have e:({Zj.mk r.write r.addr r.size r.Az false [] with lock:=true}:Zj)={r with Aa:=[]}:=by cases r;simp at hk;simp[hk]
  have j0:idx ((if true=true then [Ze [108,111,99,107]] else [])++r.Aa.map Z1) 0=some (Ze [108,111,99,107]):=rfl;have js:Yv ((if true=true then [Ze [108,111,99,107]] else [])++r.Aa.map Z1) 1 (((if true=true then [Ze [108,111,99,107]] else [])++r.Aa.map Z1).length:Int)=some (r.Aa.map Z1):=by
   have:=Qq (xs:=(if true=true then [Ze [108,111,99,107]] else [])++r.Aa.map Z1) (a:=1) (b:=((if true=true then [Ze [108,111,99,107]] else [])++r.Aa.map Z1).length) (by simp) (B2 _);refine this.trans (congrArg some ?_);rw[DH (by simp)];rfl
  rw[Ah (by simp),j0,Ag,show ((Ze [108,111,99,107]).toList == (Ze [108,111,99,107]).toList)=true from beq_self_eq_true _];unfold OC Ui;rw[Ah rfl,js,Ag,e];exact loop _ rfl
 | false=>
  have e:(Zj.mk r.write r.addr r.size r.Az false []:Zj)={r with Aa:=[]}:=by cases r;simp at hk;simp[hk]
  rw[Ai (show ¬false=true by simp),LZ,e];have fin:OC x {r with Aa:=[]} (r.Aa.map Z1) false=some (r,true):=by
   unfold OC Ui;rw[Ai (by simp)];exact loop _ rfl
  by_cases h0:r.Aa=[]
  .rw[Ai (by rw[h0];simp)]
   exact fin
  .obtain⟨a,l,e1,e2⟩:=Ymy h0
   have j0:idx (r.Aa.map Z1) 0=some (Z1 a):=by rw[e1];rfl
   rw[Ah (by have:=Cq.2 h0;simp;omega),j0,Ag,show ((Z1 a).toList == (Ze [108,111,99,107]).toList)=false by rw[Qx,Z7];exact decide_eq_false e2];exact fin
theorem Ymg {x:ByteArray} {r:Zj} (h:gO x r) (hx:x.size<=1048576):Up x=some (r,true):=by
 obtain⟨hg,ht⟩:=h;obtain⟨ws,h1,h2⟩:=KK (x:=x) 32 (by omega);rw[Ysk ht] at h2;have GJ:=Yeh h2;obtain⟨v1,v2,v3,v4⟩:=gN hg;have Vs:=Vn hg;have Y7p:r.B1:=⟨⟨by omega,by omega⟩,λv hv=>by have:=v4 v hv;exact⟨by omega,by omega⟩⟩;have i3:idx ws 3=some (Z1 r.addr):=by rw[GJ];rfl
 have j2:∀r0:Zj,r0.write=r.write->r0.size=r.size->r0.Az=r.Az->r0.lock=r.lock->RY x r0 ws (r.Aa.map Z1)=some (r,true):=λr0 e1 e2 e3 e4=>by
  unfold RY;have e:({r0 with addr:=r.addr,Aa:=r.Aa}:Zj)=r:=by cases r0;cases r;simp at e1 e2 e3 e4;simp[e1,e2,e3,e4]
  rw[i3,Ag,Yno ⟨by omega,by omega⟩ (by omega),Ag,Vq (by omega) (λv hv=>by have:=v4 v hv;omega),Ag,Ai (by simp),Ai (by simp),e];obtain⟨q,q1,_,q3⟩:=Yc1 (x:=x) (r:=r) (eQ hg) Y7p;rw[q1,q3 ⟨hg,ht⟩]
 have s4:Yv ws 4 (ws.length:Int)=some ((ws.drop 4).take (ws.length - 4)):=Qq (a:=4) (by rw[GJ];simp) (B2 _);have hd:(ws.drop 4).take (ws.length - 4)=(if r.lock=true then [Ze [108,111,99,107]] else [])++r.Aa.map Z1:=by
  rw[DH (by simp),GJ];rfl
 rw[hd] at s4;have i0:idx ws 0=some (Ze (Eu r.write)):=by rw[GJ];rfl
 have i1:idx ws 1=some (Fj r.size):=by rw[GJ];rfl
 have i2:idx ws 2=some (Fk r.Az):=by rw[GJ];rfl
 have f1:=(Ysy hg).2;have f2:=(Yna hg).2;have g1:Um=some Ew:=rfl;have g2:Un=some Ka:=rfl;unfold Up;rw[h1,Ag,Ai (by rw[GJ];simp;omega),i0,Ag,g1,Ag,i1,Ag,f1,Ag,g2,Ag,i2,Ag,f2,Ag,s4,Ag,Ywg];cases hk:r.lock with
 | true=>
  have j0:idx ((if true=true then [Ze [108,111,99,107]] else [])++r.Aa.map Z1) 0=some (Ze [108,111,99,107]):=rfl;have js:Yv ((if true=true then [Ze [108,111,99,107]] else [])++r.Aa.map Z1) 1 (((if true=true then [Ze [108,111,99,107]] else [])++r.Aa.map Z1).length:Int)=some (r.Aa.map Z1):=by
   have:=Qq (xs:=(if true=true then [Ze [108,111,99,107]] else [])++r.Aa.map Z1) (a:=1) (b:=((if true=true then [Ze [108,111,99,107]] else [])++r.Aa.map Z1).length) (by simp) (B2 _);refine this.trans (congrArg some ?_);rw[DH (by simp)];rfl
  rw[Ah (by simp),j0,Ag,show ((Ze [108,111,99,107]).toList == (Ze [108,111,99,107]).toList)=true from beq_self_eq_true _];unfold OG;rw[Ah rfl,js,Ag];exact j2 _ rfl rfl rfl hk.symm
 | false=>
  rw[Ai (show ¬false=true by simp),LZ];have fin:OG x (Zj.mk r.write 0 r.size r.Az false []) ws (r.Aa.map Z1) false=some (r,true):=by
   unfold OG;rw[Ai (by simp)];exact j2 _ rfl rfl rfl hk.symm
  by_cases h0:r.Aa=[]
  .rw[Ai (by rw[h0];simp)]
   exact fin
  .obtain⟨a,l,e1,e2⟩:=Ymy h0
   have j0:idx (r.Aa.map Z1) 0=some (Z1 a):=by rw[e1];rfl
   rw[Ah (by have:=Cq.2 h0;simp;omega),j0,Ag,show ((Z1 a).toList == (Ze [108,111,99,107]).toList)=false by rw[Qx,Z7];exact decide_eq_false e2];exact fin
inductive Xi where
 | w (l:List Int)
 | s (l:List Int)
 | p (q:Zm)
 | e
def Xi.words:Xi->List (List UInt8)
 | .w l=>[119,97,105,116,115]::l.map Lib.itoa
 | .s l=>[115,97,121,115]::l.map Lib.itoa
 | .p q=>[112,111,115,116]::Lib.itoa q.at_::Lib.itoa q.Aj::Iu q.Bq
 | .e=>[[]]
def Xi.line (i:Xi):List UInt8:=Lib.join i.words [32]
def Xi.ok:Xi->Prop
 | .w l=>l.length < 1048577/\∀v∈l,C2 v
 | .s l=>l.length < 1048577/\∀v∈l,C2 v
 | .p q=>C2 q.at_/\C2 q.Aj/\Qk q.Bq=true
 | .e=>True
def Xi.app (z:Zb):Xi->Zb
 | .w l=>{z with waits:=l}
 | .s l=>{z with A3:=l}
 | .p q=>{z with Am:=z.Am++[q]}
 | .e=>z
theorem Yr3 (i:Xi):∀w∈i.words,∀y∈w,y≠32/\y≠10:=by
 have hi:∀(v:Int) (y:UInt8),y∈Lib.itoa v->y≠32/\y≠10:=λv y h=>⟨KL h (.inl rfl),KL h (.inr (.inr rfl))⟩;have h1:∀y∈([119,97,105,116,115]:List UInt8),y≠32/\y≠10:=by decide
 have h2:∀y∈([115,97,121,115]:List UInt8),y≠32/\y≠10:=by decide
 have h3:∀y∈([112,111,115,116]:List UInt8),y≠32/\y≠10:=by decide
 intro w hw y hy;cases i with
 | w l=>
  rcases BX.1 hw with rfl|hw
  .exact h1 y hy
  .obtain⟨v,_,rfl⟩:=D7.1 hw;exact hi v y hy
 | s l=>
  rcases BX.1 hw with rfl|hw
  .exact h2 y hy
  .obtain⟨v,_,rfl⟩:=D7.1 hw;exact hi v y hy
 | p q=>
  rcases BX.1 hw with rfl|hw
  .exact h3 y hy
  .rcases BX.1 hw with rfl|hw
   .exact hi _ y hy
   .rcases BX.1 hw with rfl|hw
    .exact hi _ y hy
    .exact Ysa w hw y hy
 | e=>simp[Xi.words] at hw;subst hw;simp at hy
theorem Xco (i:Xi):i.words≠[]:=by cases i<;>simp[Xi.words]
theorem Yog (i:Xi):Ym 32 i.line=i.words:=u0 (Xco i) λw hw y hy=>(Yr3 i w hw y hy).1
theorem Xb1 {c:UInt8}:∀{ws:List (List UInt8)},(∀w∈ws,∀y∈w,y≠c)->c≠32->∀y∈Lib.join ws [32],y≠c:=by
 intro ws
 induction ws with
 | nil=>intro _ _ y hy;simp[Lib.join_nil] at hy
 | cons w r ih=>
  intro h hc y hy;rw[Lib.join_cons] at hy;rcases BP.1 hy with hy|hy
  .exact h w BI y hy
  .unfold Lib.joinTail at hy
   obtain⟨u,hu,hy⟩:=iI.1 hy;obtain⟨v,hv,rfl⟩:=D7.1 hu;rcases BP.1 hy with hy|hy
   .rw[List.mem_singleton.1 hy];exactλe=>hc e.symm
   .exact h v (Cg _ hv) y hy
theorem Xay (i:Xi):∀y∈i.line,y≠10:=Xb1 (λw hw y hy=>(Yr3 i w hw y hy).2) (by decide)
theorem Ysc (w:List UInt8) (l:List Int):Lib.join (w::l.map Lib.itoa) [32]=w++Wt l:=by
 rw[Lib.join_cons];unfold Lib.joinTail Wt;rw[Hu,V7];rfl
theorem Ti (l:List Int):(Xi.w l).line=[119,97,105,116,115]++Wt l:=Ysc _ l
theorem Tj (l:List Int):(Xi.s l).line=[115,97,121,115]++Wt l:=Ysc _ l
theorem Y78 (q:Zm):(Xi.p q).line=[112,111,115,116,32]++Lib.itoa q.at_++[32]++Lib.itoa q.Aj++[32]++Kw q.Bq:=by
 have e:Kw q.Bq=Lib.join (Iu q.Bq) [32]:=Yf5 _;unfold Xi.line Xi.words;rw[e];obtain⟨a,l,h⟩:∃a l,Iu q.Bq=a::l:=⟨_,_,rfl⟩;rw[h,Lib.join_cons,Lib.join_cons];simp[Lib.joinTail,h]
def Ps (z:Zb):List UInt8:=L8 (KJ z)++z.Am.flatMap FV
def LW (z:Zb):List Xi:=(if z.waits=[] then [] else [.w z.waits])++((if z.A3=[] then [] else [.s z.A3])++z.Am.map .p)
theorem Yl4 (z:Zb):Ps z=((LW z).map Xi.line).flatMap (·++[10]):=by
 have h1:∀(w:List UInt8) (l:List Int) (i:Xi),i.line=w++Wt l->Hn w l=(((if l=[] then [] else [i]):List Xi).map Xi.line).flatMap (·++[10]):=λw l i hi=>by
  unfold Hn;split
  .rfl
  .simp[hi]
 have h2:∀ps:List Zm,ps.flatMap FV=((ps.map Xi.p).map Xi.line).flatMap (·++[10]):=λps=>by
  induction ps with
  | nil=>rfl
  | cons p ps ih=>
   rw[FY,ih,CD,CD,FY,Y78];unfold FV;simp
 unfold Ps LW KJ;rw[Wl,Xr (Hn _ z.waits),Xr (Hn _ z.A3),Gt,Gt,vN,vN,<-h1 _ _ _ (Ti z.waits),<-h1 _ _ _ (Tj z.A3),<-h2,List.append_assoc]
theorem Y7a:∀(ps:List Zm) (z:Zb),(ps.map Xi.p).foldl Xi.app z={z with Am:=z.Am++ps}:=by
 intro ps
 induction ps with
 | nil=>intro z;simp
 | cons p ps ih=>
  intro z;rw[CD,HO,ih];show ({z with Am:=(z.Am++[p])++ps}:Zb)=_;rw[List.append_assoc];rfl
theorem Yax (z:Zb):(LW z).foldl Xi.app Zb.z0=z:=by
 unfold LW;rw[Tt,Tt,Y7a];obtain⟨ps,w,s⟩:=z;by_cases hw:w=[]
 .by_cases hs:s=[]
  .simp[hw,hs]
  .simp[hw,hs,Xi.app]
 .by_cases hs:s=[]
  .simp[hw,hs,Xi.app]
  .simp[hw,hs,Xi.app]
structure LX (x:ByteArray) (z:Zb):Prop where
 reqs:∀p∈z.Am,C2 p.at_/\C2 p.Aj/\Qk p.Bq=true
 FW:z.Am.length < 1048600
 w:z.waits.length < 1048577/\∀v∈z.waits,C2 v
 s:z.A3.length < 1048577/\∀v∈z.A3,C2 v
 text:L8 x=Ps z
def Pt (x:ByteArray) (r:Zb×Bool):Prop:=r=(Zb.z0,false)\/(r.2=true/\LX x r.1)
theorem Yyv {x:ByteArray} {z:Zb} (h:LX x z):∀i∈LW z,i.ok:=by
 intro i hi;unfold LW at hi;rcases BP.1 hi with hi|hi
 .split at hi
  .simp at hi
  .rw[List.mem_singleton.1 hi];exact h.w
 .rcases BP.1 hi with hi|hi
  .split at hi
   .simp at hi
   .rw[List.mem_singleton.1 hi];exact h.s
  .obtain⟨p,hp,rfl⟩:=D7.1 hi;exact h.reqs p hp
theorem Yw0 {c:UInt8}:∀{ls:List (List UInt8)},(∀w∈ls,∀y∈w,y≠c)->Ym c (ls.flatMap (·++[c]))=ls++[[]]:=by
 intro ls
 induction ls with
 | nil=>intro _;rfl
 | cons w r ih=>
  intro h;rw[FY,List.append_assoc,List.singleton_append,Vo (h w BI),ih λu hu=>h u (Cg _ hu)];rfl
theorem Y41 {c:UInt8}:∀{ls:List (List UInt8)},ls≠[]->ls.flatMap (·++[c])=Lib.join ls [c]++[c]:=by
 intro ls
 induction ls with
 | nil=>intro h;exact absurd rfl h
 | cons w r ih=>
  intro _;cases r with
  | nil=>simp[Lib.join_one]
  | cons v r=>
   rw[FY,ih (by simp),Lib.join_cons,Lib.join_cons];simp[Lib.joinTail]
theorem Xch (a:List UInt8) (c:UInt8):Lib.trimSuffix (a++[c]) [c]=a:=by
 unfold Lib.trimSuffix;rw[Ah (by simp[Lib.hasSuffix,List.isSuffixOf,List.isPrefixOf])];simp
theorem Fo (a:ByteArray) (l:List UInt8) (w:List UInt8) (h:L8 a=l):(a.toList == (Ze w).toList)=decide (l=w):=by rw[Qx,Z7,h]
def Ww:Xi->List ByteArray
 | .w l=>Ze [119,97,105,116,115]::l.map Z1
 | .s l=>Ze [115,97,121,115]::l.map Z1
 | .p q=>Ze [112,111,115,116]::Z1 q.at_::Z1 q.Aj::([Ze (Eu q.Bq.write),Fj q.Bq.size,Fk q.Bq.Az,Z1 q.Bq.addr]++((if q.Bq.lock=true then [Ze [108,111,99,107]] else [])++q.Bq.Aa.map Z1))
 | .e=>[ByteArray.empty]
theorem Yym:∀{a b:List ByteArray},a.map L8=b.map L8->a=b:=by
 intro a
 induction a with
 | nil=>intro b h;cases b with
  | nil=>rfl
  | cons y b=>simp at h
 | cons x a ih=>intro b h;cases b with
  | nil=>simp at h
  | cons y b=>
   simp only[CD,V8] at h ⊢;exact⟨Jg h.1,ih h.2⟩
theorem Yvf (l:List Int):(l.map Z1).map L8=l.map Lib.itoa:=by rw[Hu];rfl
theorem Ynn {ws:List ByteArray} {i:Xi} (h:ws.map L8=i.words):ws=Ww i:=by
 cases i with
 | w l=>exact Yym (h.trans (by unfold Ww Xi.words;rw[CD,Yvf,Z7]))
 | s l=>exact Yym (h.trans (by unfold Ww Xi.words;rw[CD,Yvf,Z7]))
 | p q=>
  unfold Xi.words at h;cases ws with
  | nil=>simp at h
  | cons a ws=>cases ws with
   | nil=>simp at h
   | cons b ws=>cases ws with
    | nil=>simp at h
    | cons c ws=>
     simp only[CD,V8] at h;obtain⟨h1,h2,h3,h4⟩:=h;unfold Ww;rw[Yeh h4,Jg (a:=a) (b:=Ze [112,111,115,116]) h1,Jg (a:=b) (b:=Z1 q.at_) h2,Jg (a:=c) (b:=Z1 q.Aj) h3]
 | e=>exact Yym (h.trans rfl)
theorem Xb3 (r:Zj):Lib.join (([Ze (Eu r.write),Fj r.size,Fk r.Az,Z1 r.addr]++((if r.lock=true then [Ze [108,111,99,107]] else [])++r.Aa.map Z1)).map L8) [32]=Kw r:=by
 rw[Yf5]
 congr 1
 unfold Iu;cases r.lock<;>simp[Z7,Y0,Hu,P4]
theorem u5 {α:Type} (a:α) (l:List α):Yv (a::l) 1 ((a::l).length:Int)=some l:=by
 have:=Qq (xs:=a::l) (a:=1) (b:=(a::l).length) (by simp) (B2 _);refine this.trans (congrArg some ?_);simp
theorem Ydx {q:Zm} (h:C2 q.at_/\C2 q.Aj/\Qk q.Bq=true):q.B1/\q.Bq.sm:=by
 obtain⟨_,_,v3,v4⟩:=gN h.2.2;exact⟨⟨h.1.r,h.2.1.r,⟨⟨by omega,by omega⟩,λv hv=>by have:=v4 v hv;exact⟨by omega,by omega⟩⟩⟩,eQ h.2.2⟩
theorem Tk {x:ByteArray} {κ:Zb->List ByteArray->Int->Int->Option (Zb×Bool)} {z:Zb} {vs:List ByteArray} {n:Nat} {j:Nat} (hj:j < vs.length) (hn:n=vs.length) {i:Xi} (hi:L8 vs[j]=i.line) (hz:vs[j].size<=1048576) (ok:i.ok) (hp:z.Am.length<=1048600):
  Sa x κ z vs (n:Int) (j:Int)=κ (Xi.app z i) vs (n:Int) (Zl (j:Int) 1):=by
 subst hn;obtain⟨ws,h1,h2⟩:=KK (x:=vs[j]) 32 (by omega);rw[hi,Yog] at h2;have hb:=Ynn h2;unfold Sa;rw[Ah (by simpa using hj),Zx hj,Ag,h1,Ag,hb];cases i with
 | w l=>
  have e0:idx (Ww (.w l)) 0=some (Ze [119,97,105,116,115]):=rfl;rw[e0,Ag,Fo _ _ _ (Z7 _),Ai (by decide)];unfold Kh;rw[Ai (by simp),e0,Ag,Fo _ _ _ (Z7 _),Ah (by decide)];unfold RZ Ww;rw[Ah rfl,u5,Ag,Vq (by have:=ok.1;omega) ok.2,Ag,Ai (by simp)];show (idx (Ww (.w l)) 0).bind _=_;rw[e0,Ag,Fo _ _ _ (Z7 _),Ah (by decide)];rfl
 | s l=>
  have e0:idx (Ww (.s l)) 0=some (Ze [115,97,121,115]):=rfl;rw[e0,Ag,Fo _ _ _ (Z7 _),Ai (by decide)];unfold Kh;rw[Ai (by simp),e0,Ag,Fo _ _ _ (Z7 _),Ai (by decide),Fo _ _ _ (Z7 _),show decide (([115,97,121,115]:List UInt8)=[115,97,121,115])=true by decide];unfold RZ Ww;rw[Ah rfl,u5,Ag,Vq (by have:=ok.1;omega) ok.2,Ag,Ai (by simp)];show (idx (Ww (.s l)) 0).bind _=_;rw[e0,Ag,Fo _ _ _ (Z7 _),Ai (by decide)];rfl
 | p q=>
  obtain⟨o1,o2,o3⟩:=ok;have e0:idx (Ww (.p q)) 0=some (Ze [112,111,115,116]):=rfl;rw[e0,Ag,Fo _ _ _ (Z7 _),Ah (by decide)];have Yp:7<=(Ww (.p q)).length:=by unfold Ww;simp
  rw[show decide (((Ww (.p q)).length:Int) > 3)=true from decide_eq_true (by omega)];have Tl:Yv (Ww (.p q)) 1 3=some ([q.at_,q.Aj].map Z1):=by
   have:=Qq (xs:=Ww (.p q)) (a:=1) (b:=3) (by omega) (by omega);exact this
  have s3:Yv (Ww (.p q)) 3 ((Ww (.p q)).length:Int)=some ((Ww (.p q)).drop 3):=by
   have:=Qq (xs:=Ww (.p q)) (a:=3) (b:=(Ww (.p q)).length) (by omega) (B2 _);refine this.trans (congrArg some ?_);rw[DH (by simp)]
  have Vs:=Vn o3;have hT:=gF o3 (Ydx ⟨o1,o2,o3⟩).1.2.2;have G3:Lib.join (((Ww (.p q)).drop 3).map L8) (L8 (Ze [32]))=Kw q.Bq:=by
   rw[Z7];exact Xb3 q.Bq
  have KX:((Ww (.p q)).drop 3).length<=1000000000:=by
   show (([Ze (Eu q.Bq.write),Fj q.Bq.size,Fk q.Bq.Az,Z1 q.Bq.addr]++((if q.Bq.lock=true then [Ze [108,111,99,107]] else [])++q.Bq.Aa.map Z1))).length<=_;cases q.Bq.lock<;>simp<;>omega
  unfold Kh;rw[Ah rfl,Tl,Ag,Vq (by simp) (by
   intro v hv;simp only[BX,Gs,or_false] at hv;rcases hv with rfl|rfl
   .exact o1
   .exact o2),Ag,s3,Ag,Nk KX (by rw[G3];omega),Ag,G3,Ymg (x:=⟨(Kw q.Bq).toArray⟩) ⟨o3,rfl⟩ (by rw[Z6,Xr (Kw q.Bq)];omega),Ag,Ai (by simp)]
  unfold bV;have j0:idx [q.at_,q.Aj] 0=some q.at_:=rfl;have j1:idx [q.at_,q.Aj] 1=some q.Aj:=rfl;simp only[D6,Bp,if_false,j0,j1,Ag];rw[Yr (by simp;omega) (by simp;omega),Ag];rfl
 | e=>
  have e0:idx (Ww .e) 0=some ByteArray.empty:=rfl;rw[e0,Ag,Fo _ [] _ Gh,Ai (by decide)];unfold Kh;rw[Ai (by simp),e0,Ag,Fo _ [] _ Gh,Ai (by decide),Fo _ [] _ Gh,show decide (([]:List UInt8)=[115,97,121,115])=false by decide];rfl
theorem gP {a b c:Nat} (h:a+b+c < 1000000000000000000):Zl (Zl (Zl (a:Int) (b:Int)) (c:Int)) 3=((a+b+c+3:Nat):Int):=by
 have e1:Zl (a:Int) (b:Int)=((a+b:Nat):Int):=by rw[Ye (by omega) (by omega)];omega
 have e2:Zl ((a+b:Nat):Int) (c:Int)=((a+b+c:Nat):Int):=by rw[Ye (by omega) (by omega)];omega
 rw[e1,e2,Ye (by omega) (by omega)];omega
theorem Tm {x:ByteArray} {κ:Zb->List ByteArray->Int->Option (Zb×Bool)} {z:Zb} {vs:List ByteArray} {j:Nat} (hj:j < vs.length) {i:Xi} (hi:L8 vs[j]=i.line) (hz:vs[j].size<=1048576) (ok:i.ok) (hp:z.Am.length<=1048600):
  RL x κ z vs (j:Int)=κ (Xi.app z i) vs (Zl (j:Int) 1):=by
 obtain⟨ws,h1,h2⟩:=HJ (x:=vs[j]) 32 (by omega);have h1:W0 vs[j] 32=some ws:=h1;rw[hi,Yog] at h2;have hb:=Ynn h2;unfold RL;rw[Ah (by simpa using hj),Zx hj,Ag,h1,Ag,hb];cases i with
 | w l=>
  have e0:idx (Ww (.w l)) 0=some (Ze [119,97,105,116,115]):=rfl;rw[e0,Ag,Fo _ _ _ (Z7 _),Ah (by decide)];unfold Ww;rw[u5,Ag,Z72 (by have:=ok.1;omega) ok.2,Ag];rfl
 | s l=>
  have e0:idx (Ww (.s l)) 0=some (Ze [115,97,121,115]):=rfl;rw[e0,Ag,Fo _ _ _ (Z7 _),Ai (by decide),Fo _ _ _ (Z7 _),Ah (by decide)];unfold Ww;rw[u5,Ag,Z72 (by have:=ok.1;omega) ok.2,Ag];rfl
 | p q=>
  obtain⟨o1,o2,o3⟩:=ok;have e0:idx (Ww (.p q)) 0=some (Ze [112,111,115,116]):=rfl;have e1:idx (Ww (.p q)) 1=some (Z1 q.at_):=rfl;have e2:idx (Ww (.p q)) 2=some (Z1 q.Aj):=rfl;have Yp:7<=(Ww (.p q)).length:=by unfold Ww;simp
  have Tl:Yv (Ww (.p q)) 1 3=some ([q.at_,q.Aj].map Z1):=by
   have:=Qq (xs:=Ww (.p q)) (a:=1) (b:=3) (by omega) (by omega);exact this
  have hT:=gF o3 (Ydx ⟨o1,o2,o3⟩).1.2.2;have z1:=Xk o1.r;have z2:=Xk o2.r;rw[e0,Ag,Fo _ _ _ (Z7 _),Ai (by decide),Fo _ _ _ (Z7 _),Ai (by decide),Ah (decide_eq_true (by omega)),Tl,Ag,Z72 (by simp) (by
   intro v hv;simp only[BX,Gs,or_false] at hv;rcases hv with rfl|rfl
   .exact o1
   .exact o2),Ag,e1,Ag,e2,Ag]
  have z0:(Ze [112,111,115,116]).size=4:=Zw _;have Xdf:Zl (Zl (Zl ((Ze [112,111,115,116]).size:Int) ((Z1 q.at_).size:Int)) ((Z1 q.Aj).size:Int)) 3=((7+(Z1 q.at_).size+(Z1 q.Aj).size:Nat):Int):=by
   rw[gP (by omega)];omega
  have y5:L8 vs[j]=([112,111,115,116,32]++Lib.itoa q.at_++[32]++Lib.itoa q.Aj++[32])++Kw q.Bq:=by rw[hi,Y78]
  have HY:([112,111,115,116,32]++Lib.itoa q.at_++[32]++Lib.itoa q.Aj++[32]:List UInt8).length=7+(Z1 q.at_).size+(Z1 q.Aj).size:=by
   rw[Z6,Z6,Y0,Y0];simp only[BW,AP,Bf];omega
  have W3:vs[j].size=7+(Z1 q.at_).size+(Z1 q.Aj).size+(Kw q.Bq).length:=by rw[Z6,y5,BW,HY]
  have hmin:Dp ((vs[j].size:Nat):Int) (Zl (Zl (Zl ((Ze [112,111,115,116]).size:Int) ((Z1 q.at_).size:Int)) ((Z1 q.Aj).size:Int)) 3)=((7+(Z1 q.at_).size+(Z1 q.Aj).size:Nat):Int):=by
   rw[Xdf];unfold Dp;split<;>omega
  obtain⟨y,y1,y2⟩:=N1 (x:=vs[j]) (a:=7+(Z1 q.at_).size+(Z1 q.Aj).size) (b:=vs[j].size) (by omega) (by rw[Z6];exact B2 _);have hy:L8 y=Kw q.Bq:=by
   rw[y2,y5,<-HY,List.drop_left,W3,HY,DH (by omega)]
  have j0:idx [q.at_,q.Aj] 0=some q.at_:=rfl;have j1:idx [q.at_,q.Aj] 1=some q.Aj:=rfl;rw[hmin,y1,Ag,Yn9 (x:=y) ⟨o3,hy⟩ (by rw[Z6,hy];omega),Ag,j0,Ag,j1,Ag,Yr (by simp;omega) (by simp;omega),Ag];rfl
 | e=>
  have e0:idx (Ww .e) 0=some ByteArray.empty:=rfl;rw[e0,Ag,Fo _ [] _ Gh,Ai (by decide),Fo _ [] _ Gh,Ai (by decide),Ai (by decide)];rfl
structure Fp (x:ByteArray) (z:Zb) (j:Nat):Prop where
 FW:z.Am.length<=j
 Am:∀p∈z.Am,C2 p.at_/\C2 p.Aj/\(Qk p.Bq=true\/p.Bq=Zj.z0)
 w:z.waits.length < 1048577/\∀v∈z.waits,C2 v
 s:z.A3.length < 1048577/\∀v∈z.A3,C2 v
 ne:z.Am≠[]->L8 x≠[]
theorem Fp.n {x:ByteArray} {z:Zb} {j:Nat} (h:Fp x z j) (hj:j<=1048577):N0 z:=by
 refine⟨by have:=h.FW;omega,h.w.1,h.s.1,λp hp=>?_,λv hv=>(h.w.2 v hv).r,λv hv=>(h.s.2 v hv).r⟩;obtain⟨a,b,c⟩:=h.Am p hp;rcases c with c|c
 .exact Ydx ⟨a,b,c⟩
 .refine⟨⟨a.r,b.r,?_⟩,?_⟩
  .rw[c];exact⟨⟨by decide,by decide⟩,λv hv=>by simp at hv⟩
  .rw[c];show ([]:List Int).length < _;simp
theorem u6 {x:ByteArray} {z:Zb} {j:Nat} (h:Fp x z j) (hj:j<=1048577):∃r,(if (!((HI (KJ z) z.Am).toList == x.toList))=true then some (Zb.z0,false) else some (z,true))=some r/\Pt x r/\(LX x z->r=(z,true)):=by
 rw[Qx];unfold HI;by_cases Je:z.Am.all (λp=>Qk p.Bq)=true
 .rw[Ah Je,Xr (L8 (KJ z)++z.Am.flatMap FV),show L8 (KJ z)++z.Am.flatMap FV=Ps z from rfl]
  have gQ:∀p∈z.Am,Qk p.Bq=true:=by simpa using Je
  by_cases he:Ps z=L8 x
  .rw[decide_eq_true he,Ai (by simp)]
   exact⟨_,rfl,.inr ⟨rfl,⟨λp hp=>⟨(h.Am p hp).1,(h.Am p hp).2.1,gQ p hp⟩,by have:=h.FW;show z.Am.length < _;omega,h.w,h.s,he.symm⟩⟩,λ_=>rfl⟩
  .rw[decide_eq_false he,Ah (by simp)]
   exact⟨_,rfl,.inl rfl,λhh=>absurd hh.text.symm he⟩
 .have Yj:z.Am≠[]:=λe=>Je (by rw[e];rfl)
  have hx:=h.ne Yj;rw[Ai Je,Gh,decide_eq_false (λe=>hx e.symm),Ah (by simp)];exact⟨_,rfl,.inl rfl,λhh=>absurd (by rw[Cf];exactλp hp=>(hh.reqs p hp).2.2) Je⟩
theorem Y3s {x:ByteArray} {z:Zb} (h:LX x z):Fp x z z.Am.length:=by
 refine⟨B2 _,λp hp=>⟨(h.reqs p hp).1,(h.reqs p hp).2.1,.inl (h.reqs p hp).2.2⟩,h.w,h.s,λYj he=>?_⟩;have:=h.text;rw[he] at this;unfold Ps at this;cases hp:z.Am with
 | nil=>exact Yj hp
 | cons p ps=>
  rw[hp,FY] at this;have:=congrArg List.length this;unfold FV at this;simp at this
theorem Ysl (z:Zb) (i:Xi):(Xi.app z i).Am.length<=z.Am.length+1:=by cases i<;>simp[Xi.app]
theorem Yfn {vs:List ByteArray} {its:List Xi} (h:vs.map L8=its.map Xi.line) {j:Nat} (hj:j < vs.length):∃hi:j < its.length,L8 vs[j]=its[j].line:=by
 have hl:vs.length=its.length:=by simpa using congrArg List.length h
 refine⟨by omega,?_⟩;have h1:(vs.map L8)[j]?=(its.map Xi.line)[j]?:=by rw[h]
 rw[D5,D5,C6 hj,C6 (by omega)] at h1;simpa using h1
theorem Z1m {x:ByteArray} {z:Zb} (hz:LX x z) (IM:z.Am.length<=1048577) {vs:List ByteArray} {its:List Xi} (h:vs.map L8=its.map Xi.line) (hs:∀v∈vs,v.size<=1048576) (ok:∀i∈its,i.ok) (hl:vs.length<=1048577):∀(m j:Nat) (y:Zb),j<=vs.length->vs.length - j < m->y.Am.length<=j->(its.drop j).foldl Xi.app y=z->
  Ki x m y vs (vs.length:Int) (j:Int)=some (z,true):=by
 have hil:vs.length=its.length:=by simpa using congrArg List.length h
 intro m
 induction m with
 | zero=>intro j y _ h;omega
 | succ m ih=>
  intro j y hj hm hy hf;show Sa x (Ki x m) y vs (vs.length:Int) (j:Int)=some (z,true);by_cases hc:j < vs.length
  .obtain⟨hi,hv⟩:=Yfn h hc
   rw[Tk hc rfl hv (hs _ (B6 hc)) (ok _ (B6 hi)) (by omega),Z8 (by omega)];refine ih (j+1) _ (by omega) (by omega) (by have:=Ysl y its[j];omega) ?_;rw[DG hi,HO] at hf;exact hf
  .rw[Fu (by omega)] at hf
   have hf:y=z:=hf;subst hf;unfold Sa;have gR:=Y3s hz;rw[Ai (by simpa using hc),Z7a (gR.n IM),Ag];obtain⟨r,e1,_,e3⟩:=u6 gR IM;rw[e1,e3 hz]
theorem Yhx {x:ByteArray} {z:Zb} (hz:LX x z) (IM:z.Am.length<=1048577) {vs:List ByteArray} {its:List Xi} (h:vs.map L8=its.map Xi.line) (hs:∀v∈vs,v.size<=1048576) (ok:∀i∈its,i.ok) (hl:vs.length<=1048577):∀(m j:Nat) (y:Zb),j<=vs.length->vs.length - j < m->y.Am.length<=j->(its.drop j).foldl Xi.app y=z->
  RM x m y vs (j:Int)=some (z,true):=by
 have hil:vs.length=its.length:=by simpa using congrArg List.length h
 intro m
 induction m with
 | zero=>intro j y _ h;omega
 | succ m ih=>
  intro j y hj hm hy hf;show RL x (RM x m) y vs (j:Int)=some (z,true);by_cases hc:j < vs.length
  .obtain⟨hi,hv⟩:=Yfn h hc
   rw[Tm hc hv (hs _ (B6 hc)) (ok _ (B6 hi)) (by omega),Z8 (by omega)];refine ih (j+1) _ (by omega) (by omega) (by have:=Ysl y its[j];omega) ?_;rw[DG hi,HO] at hf;exact hf
  .rw[Fu (by omega)] at hf
   have hf:y=z:=hf;subst hf;unfold RL;have gR:=Y3s hz;rw[Ai (by simpa using hc),Z5j (gR.n IM),Ag];obtain⟨r,e1,_,e3⟩:=u6 gR IM;rw[e1,e3 hz]
theorem Y3j {x:ByteArray} {z:Zb} (h:LX x z) (hx:x.size<=1048576):z.Am.length<=1048576:=by
 have hf:∀ps:List Zm,ps.length<=(ps.flatMap FV).length:=λps=>by
  induction ps with
  | nil=>simp
  | cons p ps ih=>
   rw[FY,BW,AP];have:1<=(FV p).length:=by unfold FV;simp
   omega
 have h1:=congrArg List.length h.text;rw[<-Z6] at h1;unfold Ps at h1;rw[BW] at h1;have:=hf z.Am;omega
theorem Ysi {z:Zb}:∀w∈(LW z).map Xi.line,∀y∈w,y≠10:=by
 intro w hw y hy;obtain⟨i,_,rfl⟩:=D7.1 hw;exact Xay i y hy
theorem Yf0 {x:ByteArray} {z:Zb} (h:LX x z) (hx:x.size<=1048576):RN x=some (z,true):=by
 have Vs:=Y3j h hx;obtain⟨vs,h1,h2⟩:=HJ (x:=x) 10 (by omega);have h1:W0 x 10=some vs:=h1;have Yp:=Is h2;have hz:∀v∈vs,v.size<=1048576:=λv hv=>by have:=Jl h2 hv;omega
 have hm:vs.map L8=(LW z++[Xi.e]).map Xi.line:=by
  rw[h2,h.text,Yl4,Yw0 Ysi,Gt];rfl
 unfold RN;rw[h1,Ag];refine Yhx h (by omega) hm hz (λi hi=>?_) (by omega) FU 0 Zb.z0 (BM _) (by have:=Yx;omega) (by simp) ?_
 .rcases BP.1 hi with hi|hi
  .exact Yyv h i hi
  .rw[List.mem_singleton.1 hi];trivial
 .rw[I0,Tt,Yax];rfl
theorem Yew {x:ByteArray} {z:Zb} (h:LX x z) (hx:x.size<=1048576):MV x=some (z,true):=by
 have Vs:=Y3j h hx;have ht:∃y,Jt x (Ze [10])=some y/\L8 y=Lib.trimSuffix (L8 x) [10]:=by
  unfold Jt;rw[Ah (by omega)];exact⟨_,rfl,rfl⟩
 obtain⟨y,t1,t2⟩:=ht;have hy:y.size<=x.size:=by rw[Z6,t2,Z6];exact Lib.trimSuffix_le _ _
 obtain⟨vs,h1,h2⟩:=KK (x:=y) 10 (by omega);have Yp:=Is h2;have hz:∀v∈vs,v.size<=1048576:=λv hv=>by have:=Jl h2 hv;omega
 unfold MV;rw[t1,Ag,h1,Ag];rw[h.text,Yl4] at t2;by_cases he:LW z=[]
 .have hm:vs.map L8=[Xi.e].map Xi.line:=by
   rw[h2,t2,he];rfl
  refine Z1m h (by omega) hm hz (λi hi=>by rw[List.mem_singleton.1 hi];trivial) (by omega) FU 0 Zb.z0 (BM _) (by have:=Yx;omega) (by simp) ?_;have:=Yax z;rw[he] at this;exact this
 .have hm:vs.map L8=(LW z).map Xi.line:=by
   rw[h2,t2,Y41 (by simpa using he),Xch,u0 (by simpa using he) Ysi]
  refine Z1m h (by omega) hm hz (Yyv h) (by omega) FU 0 Zb.z0 (BM _) (by have:=Yx;omega) (by simp) ?_;rw[I0,Yax]
theorem u7 (a:List UInt8) (l:List (List UInt8)):Lib.lens (a::l)=a.length+Lib.lens l:=by simp[Lib.lens]
theorem Y20 (c:UInt8):∀l:List UInt8,Lib.lens (Ym c l)+(Ym c l).length=l.length+1:=by
 intro l
 induction l with
 | nil=>rfl
 | cons x l ih=>
  unfold Ym;split
  .rw[u7,AP,AP];simp;omega
  .split
   .rename_i h;exact absurd h (Td c l)
   .rename_i w r h
    rw[h,u7,AP] at ih;rw[u7,AP,AP,AP];omega
theorem Xak:∀(k:Nat) (l:List (List UInt8)),Lib.lens (l.drop k)<=Lib.lens l:=by
 intro k
 induction k with
 | zero=>intro l;simp
 | succ k ih=>
  intro l;cases l with
  | nil=>simp
  | cons a l=>rw[vL,u7];have:=ih l;omega
theorem Y9o {c:UInt8} {l:List UInt8} {k:Nat} (h:k < (Ym c l).length):(Lib.join ((Ym c l).drop k) [32]).length<=l.length:=by
 have h1:=Y20 c l;have h2:=Xak k (Ym c l);cases hd:(Ym c l).drop k with
 | nil=>
  have:=congrArg List.length hd;simp at this;omega
 | cons a r=>
  have hr:r.length+1=(Ym c l).length - k:=by
   have:=congrArg List.length hd;simp at this;omega
  rw[Lib.join_length];rw[hd] at h2;simp;omega
theorem Ywq {x:ByteArray} {z:Zb} {j:Nat} (h:Fp x z j) {p:Zm} (hp:C2 p.at_/\C2 p.Aj/\(Qk p.Bq=true\/p.Bq=Zj.z0)) (hx:L8 x≠[]):Fp x {z with Am:=z.Am++[p]} (j+1):=by
 refine⟨by have:=h.FW;simp;omega,λq hq=>?_,h.w,h.s,λ_=>hx⟩;rcases BP.1 hq with hq|hq
 .exact h.Am q hq
 .rw[List.mem_singleton.1 hq];exact hp
theorem Fp.next {x:ByteArray} {z:Zb} {j:Nat} (h:Fp x z j):Fp x z (j+1):={h with FW:=by have:=h.FW;omega}
theorem Fp.waits {x:ByteArray} {z:Zb} {j:Nat} (h:Fp x z j) {l:List Int} (hl:l.length < 1048577/\∀v∈l,C2 v):Fp x {z with waits:=l} (j+1):={h with FW:=by have:=h.FW;show z.Am.length<=_;omega,w:=hl}
theorem Fp.A3 {x:ByteArray} {z:Zb} {j:Nat} (h:Fp x z j) {l:List Int} (hl:l.length < 1048577/\∀v∈l,C2 v):Fp x {z with A3:=l} (j+1):={h with FW:=by have:=h.FW;show z.Am.length<=_;omega,s:=hl}
theorem Yx9 (x:ByteArray):Fp x Zb.z0 0:=⟨by simp,λp hp=>by simp at hp,⟨by simp,λv hv=>by simp at hv⟩,⟨by simp,λv hv=>by simp at hv⟩,λh=>absurd rfl h⟩
theorem Ysf {x a:ByteArray} {c:UInt8} {vs ws:List ByteArray} (h:vs.map L8=Ym c (L8 x)) (ha:a∈vs) (h2:ws.map L8=Ym 32 (L8 a)) (hw:2<=ws.length):L8 x≠[]:=λe=>by
 have h1:=Jl h ha;have h3:x.size=0:=by rw[Z6,e];rfl
 have h4:L8 a=[]:=by
  have:(L8 a).length=0:=by rw[<-Z6];omega
  exact GK this
 exact Z9j h2 hw h4
theorem Ydr {x:ByteArray} (hx:x.size<=1048576):∃r,RN x=some r/\Pt x r:=by
 obtain⟨vs,h1,h2⟩:=HJ (x:=x) 10 (by omega);have h1:W0 x 10=some vs:=h1;have Yp:=Is h2;have key:∀(m j:Nat) (z:Zb),j<=vs.length->vs.length - j < m->Fp x z j->∃r,RM x m z vs (j:Int)=some r/\Pt x r:=by
  intro m
  induction m with
  | zero=>intro j z _ h;omega
  | succ m ih=>
   intro j z hj hm hz;show ∃r,RL x (RM x m) z vs (j:Int)=some r/\_;unfold RL;by_cases hc:j < vs.length
   .have Mt:=B6 hc
    have W3:=Jl h2 Mt;obtain⟨ws,w1,w2⟩:=HJ (x:=vs[j]) 32 (by omega);have w1:W0 vs[j] 32=some ws:=w1;have hw:=Is w2;have i0:idx ws 0=some ws[0]:=Zx (k:=0) (by omega);have s1:Yv ws 1 (ws.length:Int)=some ((ws.drop 1).take (ws.length - 1)):=Qq (a:=1) (by omega) (B2 _);rw[Ah (by simpa using hc),Zx hc,Ag,w1,Ag,i0,Ag,Z8 (by omega)];obtain⟨l,l1,l2,l3⟩:=Ycm (ws:=(ws.drop 1).take (ws.length - 1)) (by simp;omega);have hl:l.length < 1048577:=by rw[l2];simp;omega
    split
    .rw[s1,Ag,l1,Ag]
     exact ih (j+1) _ (by omega) (by omega) (hz.waits ⟨hl,l3⟩)
    .split
     .rw[s1,Ag,l1,Ag]
      exact ih (j+1) _ (by omega) (by omega) (hz.A3 ⟨hl,l3⟩)
     .split
      .rename_i h3
       have h3:ws.length > 3:=by have:=of_decide_eq_true h3;omega
       have Tl:Yv ws 1 3=some ((ws.drop 1).take (3 - 1)):=Qq (a:=1) (b:=3) (by omega) (by omega);obtain⟨d,d1,d2,d3⟩:=Ycm (ws:=(ws.drop 1).take (3 - 1)) (by simp;omega);have hd:d.length=2:=by rw[d2];simp;omega
       have i1:idx ws 1=some ws[1]:=Zx (k:=1) (by omega);have i2:idx ws 2=some ws[2]:=Zx (k:=2) (by omega);have z0:=Jl w2 (B6 (l:=ws) (n:=0) (by omega));have z1:=Jl w2 (B6 (l:=ws) (n:=1) (by omega));have z2:=Jl w2 (B6 (l:=ws) (n:=2) (by omega));have hmn:∃k:Nat,k<=vs[j].size/\Dp ((vs[j].size:Nat):Int) (Zl (Zl (Zl ((ws[0]'(by omega)).size:Int) ((ws[1]'(by omega)).size:Int)) ((ws[2]'(by omega)).size:Int)) 3)=(k:Int):=by
        rw[gP (by omega)];unfold Dp;split
        .exact⟨(ws[0]'(by omega)).size+(ws[1]'(by omega)).size+(ws[2]'(by omega)).size+3,by omega,by omega⟩
        .exact⟨vs[j].size,B2 _,rfl⟩
       obtain⟨k,k1,k2⟩:=hmn;obtain⟨y,y1,y2⟩:=N1 (x:=vs[j]) (a:=k) (b:=vs[j].size) k1 (by rw[Z6];exact B2 _);have hy:y.size<=1048576:=by
        rw[Z6,y2,Ey,KO,<-Z6];omega
       obtain⟨q,q1,q2⟩:=Ynl hy;have j0:idx d 0=some d[0]:=Zx (k:=0) (by omega);have j1:idx d 1=some d[1]:=Zx (k:=1) (by omega);have Vs:=hz.FW;rw[Tl,Ag,d1,Ag,i1,Ag,i2,Ag,k2,y1,Ag,q1,Ag,j0,Ag,j1,Ag,Yr (by simp;omega) (by simp;omega),Ag];refine ih (j+1) _ (by omega) (by omega) (Ywq hz (p:=⟨d[0],d[1],q.1⟩) ⟨d3 _ (B6 _),d3 _ (B6 _),?_⟩ (Ysf h2 Mt w2 (by omega)));rcases q2 with rfl|⟨_,q3⟩
       .exact .inr rfl
       .exact .inl q3.1
      .exact ih (j+1) _ (by omega) (by omega) hz.next
   .rw[Ai (by simpa using hc),Z5j (hz.n (by omega)),Ag]
    obtain⟨r,e1,e2,_⟩:=u6 hz (by omega);exact⟨r,e1,e2⟩
 unfold RN;rw[h1,Ag];exact key FU 0 _ (BM _) (by have:=Yx;omega) (Yx9 x)
theorem Ygg {x:ByteArray} (hx:x.size<=1048576):∃r,MV x=some r/\Pt x r:=by
 have ht:∃y,Jt x (Ze [10])=some y/\L8 y=Lib.trimSuffix (L8 x) [10]:=by
  unfold Jt;rw[Ah (by omega)];exact⟨_,rfl,rfl⟩
 obtain⟨y,t1,t2⟩:=ht;have hy:y.size<=x.size:=by rw[Z6,t2,Z6];exact Lib.trimSuffix_le _ _
 obtain⟨vs,h1,h2⟩:=KK (x:=y) 10 (by omega);have Yp:=Is h2;have wG:L8 y≠[]->L8 x≠[]:=λh e=>by
  have:x.size=0:=by rw[Z6,e];rfl
  have:(L8 y).length=0:=by rw[<-Z6];omega
  exact h (GK this)
 have key:∀(m j:Nat) (z:Zb),j<=vs.length->vs.length - j < m->Fp x z j->∃r,Ki x m z vs (vs.length:Int) (j:Int)=some r/\Pt x r:=by
  intro m
  induction m with
  | zero=>intro j z _ h;omega
  | succ m ih=>
   intro j z hj hm hz;show ∃r,Sa x (Ki x m) z vs (vs.length:Int) (j:Int)=some r/\_;unfold Sa;by_cases hc:j < vs.length
   .have Mt:=B6 hc
    have W3:=Jl h2 Mt;obtain⟨ws,w1,w2⟩:=KK (x:=vs[j]) 32 (by omega);have hw:=Is w2;have hwz:∀w∈ws,w.size<=281474976710656:=λw G1=>by have:=Jl w2 G1;omega
    have i0:idx ws 0=some ws[0]:=Zx (k:=0) (by omega);have s1:Yv ws 1 (ws.length:Int)=some ((ws.drop 1).take (ws.length - 1)):=Qq (a:=1) (by omega) (B2 _);rw[Ah (by simpa using hc),Zx hc,Ag,w1,Ag,i0,Ag];have j4:∀b:Bool,∃r,RZ x (Ki x m) z ws vs (vs.length:Int) (j:Int) b=some r/\Pt x r:=λb=>by
     unfold RZ;rw[Z8 (by omega)];split
     .obtain⟨l,l1,l2,l3,_⟩:=Zxu (ws:=(ws.drop 1).take (ws.length - 1)) (by simp;omega) λw G1=>hwz w (Gp (Gq G1))
      have hl:l.1.length < 1048577:=by simp at l3;omega
      rw[s1,Ag,l1,Ag];split
      .exact⟨_,rfl,.inl rfl⟩
      .rw[i0,Ag]
       split
       .exact ih (j+1) _ (by omega) (by omega) (hz.waits ⟨hl,l2⟩)
       .exact ih (j+1) _ (by omega) (by omega) (hz.A3 ⟨hl,l2⟩)
     .exact ih (j+1) _ (by omega) (by omega) hz.next
    have j2:∀b:Bool,(b=true->3 < ws.length)->∃r,Kh x (Ki x m) z ws vs (vs.length:Int) (j:Int) b=some r/\Pt x r:=λb hb=>by
     unfold Kh;split
     .rename_i Jy
      have h3:=hb Jy;have Tl:Yv ws 1 3=some ((ws.drop 1).take (3 - 1)):=Qq (a:=1) (b:=3) (by omega) (by omega);have s3:Yv ws 3 (ws.length:Int)=some ((ws.drop 3).take (ws.length - 3)):=Qq (a:=3) (by omega) (B2 _);have ht3:(ws.drop 3).take (ws.length - 3)=ws.drop 3:=DH (by simp);obtain⟨d,d1,d2,_,d4⟩:=Zxu (ws:=(ws.drop 1).take (3 - 1)) (by simp;omega) λw G1=>hwz w (Gp (Gq G1));have G3:(Lib.join ((ws.drop 3).map L8) (L8 (Ze [32]))).length<=1048576:=by
       rw[Z7,List.map_drop,w2];have:=Y9o (c:=32) (l:=L8 vs[j]) (k:=3) (by rw[<-w2];simpa using h3);rw[<-Z6] at this;omega
      obtain⟨q,q1,q2⟩:=Ym7 (x:=⟨(Lib.join ((ws.drop 3).map L8) (L8 (Ze [32]))).toArray⟩) (by rw[Z6,Xr (Lib.join _ _)];exact G3);rw[Tl,Ag,d1,Ag,s3,Ag,ht3,Nk (by simp;omega) (by omega),Ag,q1,Ag];unfold bV;rw[Z8 (by omega)];by_cases hd:d.2=true
      .rw[Ai (by simp[hd])]
       by_cases hq:q.2=true
       .have IK:d.1.length=2:=by rw[d4 hd];simp;omega
        have j0:idx d.1 0=some d.1[0]:=Zx (k:=0) (by omega);have j1:idx d.1 1=some d.1[1]:=Zx (k:=1) (by omega);have Vs:=hz.FW;rw[Ai (by simp[hq]),j0,Ag,j1,Ag,Yr (by simp;omega) (by simp;omega),Ag];refine ih (j+1) _ (by omega) (by omega) (Ywq hz (p:=⟨d.1[0],d.1[1],q.1⟩) ⟨d2 _ (B6 _),d2 _ (B6 _),?_⟩ (wG (Ysf h2 Mt w2 (by omega))));rcases q2 with rfl|⟨_,q3⟩
        .exact .inr rfl
        .exact .inl q3.1
       .rw[Ah (by simp[hq])]
        exact⟨_,rfl,.inl rfl⟩
      .rw[Ah (by simp[hd]),Ah rfl]
       exact⟨_,rfl,.inl rfl⟩
     .rw[i0,Ag]
      split
      .exact j4 true
      .exact j4 _
    split
    .exact j2 _ λh=>by have:=of_decide_eq_true h;omega
    .exact j2 false λh=>by cases h
   .rw[Ai (by simpa using hc),Z7a (hz.n (by omega)),Ag]
    obtain⟨r,e1,e2,_⟩:=u6 hz (by omega);exact⟨r,e1,e2⟩
 unfold MV;rw[t1,Ag,h1,Ag];exact key FU 0 _ (BM _) (by have:=Yx;omega) (Yx9 x)
theorem Ylw {x:ByteArray} (hx:x.size<=1048576):∃r,RN x=some r/\MV x=some r/\Pt x r:=by
 obtain⟨r,h1,h2⟩:=Ydr hx;obtain⟨q,h3,h4⟩:=Ygg hx;refine⟨r,h1,?_,h2⟩;rcases h2 with rfl|⟨hr,hc⟩
 .rcases h4 with rfl|⟨hq,hd⟩
  .exact h3
  .rw[Yf0 hd hx] at h1
   injection h1 with h1;injection h1 with _ h1;cases h1
 .rw[Yew hc hx]
  obtain⟨r1,r2⟩:=r;simp only at hr;rw[hr]
def HK:List Zt->Zf->Nat->Zf×Int
 | [],m,_=>(m,-1)
 | d::r,m,k=>if d.Ar=1 then HK r m (k+1) else if (Q9 m d.write d.addr d.size d.value).2.2=d.Ar/\(Q9 m d.write d.addr d.size d.value).2.1=d.value then HK r (Q9 m d.write d.addr d.size d.value).1 (k+1) else (m,(k:Int))
theorem Y5g {m:Zf} {d:Zt} (h:Ep m) (h1:¬d.Ar=1) (h2:(Q9 m d.write d.addr d.size d.value).2.2=d.Ar):Ep (Q9 m d.write d.addr d.size d.value).1:=by
 by_cases ha:Wb d.addr d.size=true
 .exact (Yam h ha).1
 .exfalso
  have:(Q9 m d.write d.addr d.size d.value).2.2=1:=by
   unfold Q9;rw[Ai (by simp[ha])]
  exact h1 (h2.symm.trans this)
theorem Yfl:∀(l:List Zt) (m:Zf) (k:Nat),Ep m->(HK l m k).2=-1\/(0<=(HK l m k).2/\(HK l m k).2 < (k+l.length:Nat)):=by
 intro l
 induction l with
 | nil=>intro m k _;exact .inl rfl
 | cons d l ih=>
  intro m k h;unfold HK;split
  .have:=ih m (k+1) h;simp only[AP];omega
  .split
   .rename_i h1 h2
    have:=ih _ (k+1) (Y5g h h1 h2.1);simp only[AP];omega
   .right;simp only[AP];omega
theorem Y1m (l:List Zt) (hl:l.length < 1048577):rX l=some (HK l (Zf.mk (List.replicate 192 0) (Zn.mk (List.replicate 4 0) 0 [])) 0):=by
 unfold rX;rw[Yc4,Ag];have key:∀(k f:Nat) (m:Zf),k<=l.length->l.length - k < f->Ep m->dD l f m (k:Int)=some (HK (l.drop k) m k):=by
  intro k f
  induction f generalizing k with
  | zero=>intro _ _ h;omega
  | succ f ih=>
   intro m hk hf hm;show Zwn l (dD l f) m k=_;unfold Zwn;by_cases hc:k < l.length
   .rw[DG hc,Ah (by simpa using hc),Zx hc,Ag,Z8 (by omega)]
    unfold HK;by_cases h1:l[k].Ar=1
    .rw[Ah h1,Ah (by simpa using h1)]
     exact ih (k+1) m (by omega) (by omega) hm
    .rw[Ai h1,Ai (by simpa using h1),Ydu _ _ _ _ hm,Ag]
     by_cases h2:(Q9 m l[k].write l[k].addr l[k].size l[k].value).2.2=l[k].Ar
     .rw[Ai (by simpa using h2)]
      by_cases h3:(Q9 m l[k].write l[k].addr l[k].size l[k].value).2.1=l[k].value
      .rw[Ai (by simpa using h3),Ah ⟨h2,h3⟩]
       exact ih (k+1) _ (by omega) (by omega) (Y5g hm h1 h2)
      .rw[Ah (by simpa using h3),Ai (λh=>h3 h.2)]
     .rw[Ah (by simpa using h2),Ai (λh=>h2 h.1)]
   .rw[Vz (by omega),Ai (by simpa using hc)]
    rfl
 exact key 0 FU _ (BM _) (by have:=Yx;omega) Vk
theorem Y0u (l:List Zt) (hl:l.length < 1048577):oK l=some (HK l (Zf.mk (List.replicate 192 0) (Zn.mk (List.replicate 4 0) 0 [])) 0):=by
 unfold oK;rw[Ydc,Ag];have key:∀(k f:Nat) (m:Zf),k<=l.length->l.length - k < f->Ep m->bD l f m (k:Int)=some (HK (l.drop k) m k):=by
  intro k f
  induction f generalizing k with
  | zero=>intro _ _ h;omega
  | succ f ih=>
   intro m hk hf hm;show Zwc l (bD l f) m k=_;unfold Zwc oJ;by_cases hc:k < l.length
   .rw[DG hc,Ah (by simpa using hc),Zx hc,Ag,Z8 (by omega)]
    unfold HK;by_cases h1:l[k].Ar=1
    .rw[Ah h1,Ah (by simpa using h1)]
     exact ih (k+1) m (by omega) (by omega) hm
    .rw[Ai h1,Ai (by simpa using h1),Z4w _ _ _ _ hm,Ag]
     by_cases h2:(Q9 m l[k].write l[k].addr l[k].size l[k].value).2.2=l[k].Ar
     .rw[Ai (by simpa using h2)]
      by_cases h3:(Q9 m l[k].write l[k].addr l[k].size l[k].value).2.1=l[k].value
      .rw[Ai (by simpa using h3),Ah ⟨h2,h3⟩]
       exact ih (k+1) _ (by omega) (by omega) (Y5g hm h1 h2)
      .rw[Ah (by simpa using h3),Ai (λh=>h3 h.2)]
     .rw[Ah (by simpa using h2),Ah rfl,Ai (λh=>h2 h.1)]
   .rw[Vz (by omega),Ai (by simpa using hc)]
    rfl
 exact key 0 FU _ (BM _) (by have:=Yx;omega) Vk
theorem Y8s {x0:Z0} (h:Ky x0):So (sG x0) λr=>Ky r.2/\r.1.Aa.length<=8/\r.1.B1:=by
 unfold sG;refine (gB 2 h).bind λr1 h1=>?_;refine (uW _ (by simp) h1).bind λr2 ⟨h2,m2⟩=>?_;refine (uW _ (by simp) h2).bind λr3 ⟨h3,m3⟩=>?_;refine (gB 6 h3).bind λr4 h4=>?_;rw[LI,Ag];refine (Kl 128 h4).bind λr5 ⟨h5,_⟩=>?_;refine (Kl 128 h5).bind λr6 ⟨h6,_⟩=>?_;refine (Kl 64 h6).bind λr7 ⟨h7,_⟩=>?_;refine (Kl 40 h7).bind λr8 ⟨h8,_⟩=>?_;refine (Kl 512 h8).bind λr9 ⟨h9,_⟩=>?_;refine (uW _ (by simp) h9).bind λEK ⟨Eo,_⟩=>?_;have hb:0 < Y3 r2.1:=by
  rw[S9];simp only[BX,Gs,or_false] at m2;omega
 rw[JU (by omega),Ag,Ygh,Ag];have key:∀(g:Zj) (c:Z0),Ky c->g.Aa=[]->B0 g.addr->So (dF x0 c g) λr=>Ky r.2/\r.1.Aa.length<=8/\r.1.B1:=by
  intro g c hc hg ha;unfold dF;have key2:∀(m k:Nat) (c:Z0) (g:Zj),Ky c->k<=8->8 - k < m->g.Aa.length=k->g.B1->So (UC x0 m c g (k:Int)) λr=>Ky r.2/\r.1.Aa.length<=8/\r.1.B1:=by
   intro m
   induction m with
   | zero=>intro k _ _ _ _ h;omega
   | succ m ih=>
    intro k c g hc hk hm hg hn;have eL:UC x0 (m+1) c g (k:Int)=Zya x0 (UC x0 m) c g (k:Int):=rfl;rw[eL];unfold Zya sF;rw[S6,Ag];have Lb:=Np g.Az;by_cases Ya:(k:Int) < X1 g.Az
    .rw[Ah (by simpa using Ya)]
     refine So.ite (λ_=>?_) λ_=>So.ret ⟨hc,by dsimp only;omega,hn⟩;rw[LJ,Ag,Ag];have Gz:=S5 g.size;refine (uW _ (by simp) hc).bind λr1 ⟨h1,m1⟩=>?_;have UW:r1.1<=4294967296:=by
      simp only[BX,Gs,or_false] at m1;unfold Dp at m1;rcases m1 with m1|m1
      .split at m1<;>omega
      .omega
     refine (Kl _ h1).bind λr2 ⟨h2,a2,b2,c2⟩=>?_;have Cw:B0 r2.1:=by
      constructor
      .omega
      .by_cases h0:0 < r1.1
       .have:=b2 h0;omega
       .have:=c2 (by omega);omega
     refine (Y8w 8 (by decide) _ _ (by simp only[AP,Bf];omega)).bind λz hz=>?_;rw[Z8 (by omega)];subst hz;refine ih (k+1) _ _ h2 (by omega) (by omega) (by simp[hg]) ⟨hn.1,λv hv=>?_⟩;rcases BP.1 hv with hv|hv
     .exact hn.2 v hv
     .rw[List.mem_singleton.1 hv];exact Cw
    .rw[Ai (by simpa using Ya),Ai (by simp)]
     exact So.ret ⟨hc,by dsimp only;omega,hn⟩
  have:=key2 FU 0 c g hc (by omega) (by have:=Yx;omega) (by simp[hg]) ⟨ha,λv hv=>by rw[hg] at hv;simp at hv⟩;simpa using this
 exact So.ite (λ_=>key _ _ Eo rfl (Yk2 _)) λ_=>key _ _ Eo rfl (Yk2 _)
theorem Y5i {c:Z0} (xs:List ByteArray) (hx:xs≠[]) (h:Ky c):So (UD c xs) λr=>Ky r.2/\r.1∈xs:=by
 unfold UD;have hl:0 < xs.length:=Cq.2 hx;refine (Kl _ h).bind λr ⟨h1,a1,b1,_⟩=>?_;have b1:=b1 (by omega);exact (SZ a1 b1).bind λa ha=>So.ret ⟨h1,ha⟩
theorem Yrz (m:Zh) (k:Int):-1<=Xt m k/\Xt m k < 512:=by
 have hm:∀x∈Ku (Ak m.queue 0).addr (Ak m.queue 0).size (Ak m.queue 0).Az,0<=x/\x < 512:=λx hx=>(eP hx).2;unfold Xt;generalize Ku (Ak m.queue 0).addr (Ak m.queue 0).size (Ak m.queue 0).Az=l at hm ⊢;split
 .unfold Ak
  rw[Py];cases h:l[k.toNat]? with
  | none=>exact⟨by show (-1:Int)<=0;decide,by show (0:Int) < 512;decide⟩
  | some a=>
   have:=hm a (E8 h);rw[Gr];omega
 .omega
theorem Xs {x:Int} (h:-1<=x/\x < 100000):B0 x:=⟨by omega,by omega⟩
theorem Yfa {b:Za} (h:De b) (s:Zb) (hn:b.now < 4000):(D2 b s).2.B1:=by
 have fS:=h.now;have h1:=uM h s;have e1:=fR b s;have hI:Y6 (Wj b s).now (Wj b s):=by rw[e1.1];exact h1
 have h2:=uG s (by rw[e1.1];exact h.now.1) hI;have hr:(if LR b.Aa=true then (Xy (Z2 (Wj b s) s).1 s).1 else -1)=-1\/Zo (Z2 (Wj b s) s).1.Ae (Xy (Z2 (Wj b s) s).1 s).1=true/\(if LR b.Aa=true then (Xy (Z2 (Wj b s) s).1 s).1 else -1)=(Xy (Z2 (Wj b s) s).1 s).1:=by
  split
  .rename_i hr
   have e3:=Yol (Wj b s) s;have e4:(Wj b s).Aa=b.Aa:=e1.2.2.2.2.2.2.1;have:=Y6x h2.1 s (h2.2 (by rw[e3.1,e4];exact hr));rcases this.C5 with hg|hg
   .exact .inl hg
   .exact .inr ⟨hg.1,rfl⟩
  .exact .inl rfl
 have Qf:=Km h2.1.Ae;have ha:=Yrz (Ak b.m b.addr.Aj) b.addr.Ao;have hd:=Yrz (Ak b.m b.Aa.Aj) b.Aa.Ao;have FT:b.addr.live=true->0<=b.addr.Aj/\b.addr.Aj < 4:=λhl=>by
  have:=X7 (h.alive hl).1;have:=Km h.Ae;omega
 have HG:b.Aa.live=true->0<=b.Aa.Aj/\b.Aa.Aj < 4:=λhl=>by
  have:=X7 (h.B9 hl).1;have:=Km h.Ae;omega
 rw[Y9k];refine⟨Xs ?_,Xs ?_,Xs ?_,Xs ?_,Xs ?_,Xs ?_⟩
 .show -1<=b.now/\b.now < 100000;omega
 .show -1<=(if b.addr.live=true then b.addr.Aj else -1)/\(if b.addr.live=true then b.addr.Aj else -1) < 100000
  split
  .rename_i hl;have:=FT hl;omega
  .omega
 .show -1<=(if b.addr.live=true then Xt (Ak b.m b.addr.Aj) b.addr.Ao else -1)/\(if b.addr.live=true then Xt (Ak b.m b.addr.Aj) b.addr.Ao else -1) < 100000
  split<;>omega
 .show -1<=(if b.Aa.live=true then b.Aa.Aj else -1)/\(if b.Aa.live=true then b.Aa.Aj else -1) < 100000
  split
  .rename_i hl;have:=HG hl;omega
  .omega
 .show -1<=(if b.Aa.live=true then Xt (Ak b.m b.Aa.Aj) b.Aa.Ao else -1)/\(if b.Aa.live=true then Xt (Ak b.m b.Aa.Aj) b.Aa.Ao else -1) < 100000
  split<;>omega
 .show -1<=(if LR b.Aa=true then (Xy (Z2 (Wj b s) s).1 s).1 else -1)/\(if LR b.Aa=true then (Xy (Z2 (Wj b s) s).1 s).1 else -1) < 100000
  rcases hr with hr|⟨hr,e⟩
  .rw[hr];omega
  .rw[e];have:=X7 hr;omega
theorem Yk3 {b:Za} (h:De b) {d:Zt} (hd:d∈b.log):d.B1:=by
 obtain⟨h1,h2,h3,h4,h5,h6⟩:=h.log.1 d hd;have hn:=h.now;have hc:=Km h.Ae;have hw:=X7 h2;refine⟨Xs ?_,Xs ?_,Xs ?_,?_⟩
 .omega
 .omega
 .have:=Jz h3;omega
 .simp only[X3,Bh,Bl] at h5
  have:=S5 d.size;exact⟨by omega,by omega⟩
theorem u9 (x:ByteArray) (l:List UInt8):((x.toList == (Ze l).toList)=true)=(L8 x=l):=by rw[Qx,Bl,Z7]
theorem Tn (x:ByteArray):((x.toList == ByteArray.empty.toList)=true)=(L8 x=[]):=by rw[Qx,Bl,Gh]
theorem Yvv (x:ByteArray):((!(x.toList == ByteArray.empty.toList))=true)=¬(L8 x=[]):=by rw[Qx,Gh];simp
theorem Y2p (xs:List ByteArray) (y:ByteArray) (hl:xs.length < 1000):∃n,Ly xs y=some n/\(n < 0↔∀x∈xs,L8 x≠L8 y):=by
 have key:∀(m k:Nat),k<=xs.length->xs.length - k < m->(∀x∈xs.take k,L8 x≠L8 y)->∃n,O1 xs y m (k:Int)=some n/\(n < 0↔∀x∈xs,L8 x≠L8 y):=by
  intro m
  induction m with
  | zero=>intro k _ h;omega
  | succ m ih=>
   intro k hk hm Cz;show ∃n,O0 xs y (O1 xs y m) (k:Int)=some n/\_;unfold O0;by_cases hc:k < xs.length
   .rw[Ah (by simpa using hc),Zx hc,Ag,Z8 (by omega),Qx]
    by_cases he:L8 xs[k]=L8 y
    .rw[Ah (by simpa using he)]
     exact⟨_,rfl,λh=>by omega,λh=>absurd he (h _ (B6 hc))⟩
    .rw[Ai (by simpa using he)]
     refine ih (k+1) (by omega) (by omega) λx hx=>?_;rw[List.take_succ_eq_append_getElem hc] at hx;rcases BP.1 hx with hx|hx
     .exact Cz x hx
     .rw[List.mem_singleton.1 hx];exact he
   .rw[Ai (by simpa using hc)]
    rw[DH (by omega)] at Cz;exact⟨_,rfl,λ_=>Cz,λ_=>by omega⟩
 exact key FU 0 (BM _) (by have:=Yx;omega) (by simp)
def Hp (t:ByteArray):Prop:=t.size<=100000/\∀c∈L8 t,c≠10
theorem Hp.str {l:List UInt8} (h:l.length<=100000/\∀c∈l,c≠10):Hp (Ze l):=⟨by rw[Zw];exact h.1,h.2⟩
theorem Hp.mk {l:List UInt8} (h:l.length<=100000/\∀c∈l,c≠10):Hp ⟨l.toArray⟩:=⟨by rw[Z6];exact h.1,h.2⟩
theorem FX (v:Int):∀c∈Lib.itoa v,c≠10:=λc h=>KL h (.inr (.inr rfl))
theorem Hp.dec {v:Int} (h:B0 v):Hp (Z1 v):=⟨by have:=Xk h;omega,FX v⟩
theorem Hp.dash {v:Int} (h:B0 v):Hp (Ec v):=by
 unfold Ec;split
 .exact .str (by decide)
 .exact .dec h
theorem Ywm (x:Int):∀c∈L8 (Gn x),c≠10:=by
 unfold Gn
 repeat' split
 all_goals decide
theorem Xa3 (x:Int):∀c∈L8 (KI x),c≠10:=by
 unfold KI
 repeat' split
 all_goals decide
theorem gS {x:Int}:∀c∈L8 (Ec x),c≠10:=by
 unfold Ec;split
 .decide
 .exact FX x
theorem X0 {a b:List UInt8} (ha:∀c∈a,c≠10) (hb:∀c∈b,c≠10):∀c∈a++b,c≠10:=λc h=>(BP.1 h).elim (ha c) (hb c)
theorem Xa9 (d:Zt):∀c∈GI d,c≠10:=by
 unfold GI;refine X0 (X0 (X0 (X0 (X0 (X0 (X0 (X0 (X0 (X0 (FX _) ?_) (FX _)) ?_) ?_) ?_) (FX _)) ?_) (FX _)) ?_) (Ywm _)
 .decide
 .decide
 .split<;>decide
 .decide
 .decide
 .decide
theorem Xc5 (w:Zr):∀c∈HH w,c≠10:=by
 unfold HH Tb;refine X0 (X0 (X0 (X0 (X0 (X0 (X0 (X0 (X0 (X0 (X0 (X0 (X0 (X0 (X0 (X0 (FX _) ?_) (Xa3 _)) ?_) gS) ?_) gS) ?_) gS) ?_) gS) ?_) ?_) ?_) (Ywm _)) ?_) gS
 all_goals first|decide|(split<;>decide)
theorem Xb4 {w:Zr} (h:w.B1):(HH w).length<=300:=by
 have h1:=Ji h.A5;have h2:=Jq h.Aj;have h3:=Jq h.addr;have h4:=Jq h.from_;have h5:=Jq h.Aa;have h6:=Jq h.C5;have h7:=gE w.Ar;have h8:=Ybs w.kind;rw[Z6] at h2 h3 h4 h5 h6 h7 h8;unfold HH Tb;simp only[BW,AP,Bf];split<;>simp<;>omega
def Vt:Zf:=Zf.mk (List.replicate 192 0) (Zn.mk (List.replicate 4 0) 0 [])
def gT (b:Za):ByteArray:=if b.log=[] then Ze [45] else (⟨(GI (Ak b.log ((b.log.length:Int) - 1))).toArray⟩++Ze [32,111,102,32])++Z1 (b.log.length:Int)
def N5 (s:Zb) (b:Za) (x:ByteArray):ByteArray×Za:=
 if L8 x=[115,116,101,112] then (if b.now=4000 then (Ze [101,110,100],b) else (⟨(HH (D2 b s).2).toArray⟩,(D2 b s).1))
 else if L8 x=[111,117,116] then (Z1 (Nz b s).2,(Nz b s).1)
 else if L8 x=[105,100,108,101] then (if Gm b=true then Ze [121,101,115] else Ze [110,111],b)
 else if L8 x=[111,107] then (Ec (HK b.log Vt 0).2,b)
 else (gT b,b)
theorem vA {b:Za} (h:De b) (s:Zb):De (Nz b s).1/\B0 (Nz b s).2:=by
 unfold Nz;split
 .have:=Xez s _ h rfl
  have hn:=this.1.now;have hb:=h.now;exact⟨this.1,Xs ⟨by show -1<=(Et s (4000 - b.now).toNat b).now - b.now;omega,by show (Et s (4000 - b.now).toNat b).now - b.now < _;omega⟩⟩
 .exact⟨h,Xs ⟨by show (-1:Int)<=0;decide,by show (0:Int) < 100000;decide⟩⟩
theorem vB {b:Za} (h:De b):b.log.length < 5000:=by
 have:=uS (by have:=h.now;omega) h.log;have:=h.now;omega
theorem Xcf {b:Za} (h:De b):Hp (gT b):=by
 have hl:=vB h;unfold gT;split
 .exact .str (by decide)
 .rename_i Yj
  have hp:0 < b.log.length:=Cq.2 Yj;have hd:=Yk3 h (G9 (xs:=b.log) (i:=(b.log.length:Int) - 1) (by omega) (by omega));have h1:=uX hd;have h2:=Xk (Xs (x:=(b.log.length:Int)) (by omega));refine⟨?_,?_⟩
  .rw[Yf,Yf,Zw,Z6,Xr]
   simp only[AP,Bf];omega
  .rw[Wl,Wl,Xr,Z7,Y0]
   exact X0 (X0 (Xa9 _) (by decide)) (FX _)
theorem Xa8 {s:Zb} {b:Za} (h:De b) (x:ByteArray):Hp (N5 s b x).1/\De (N5 s b x).2:=by
 have hn:=h.now;have hl:=vB h;unfold N5
 repeat' split
 .exact⟨.str (by decide),h⟩
 .have hs:=Yfa h s (by omega)
  exact⟨.mk ⟨by have:=Xb4 hs;omega,Xc5 _⟩,(uO h s (by omega)).1⟩
 .exact⟨.dec (vA h s).2,(vA h s).1⟩
 .exact⟨.str (by decide),h⟩
 .exact⟨.str (by decide),h⟩
 .have:=Yfl b.log Vt 0 Vk
  exact⟨.dash (Xs (by omega)),h⟩
 .exact⟨Xcf h,h⟩
theorem Xaa (c:Zg) {s:Zb} {b:Za} (h:De b) (hs:s.sm) (x:ByteArray):rZ c s b x=some ((N5 s b x).1,⟨c,s,some (N5 s b x).2⟩):=by
 have hn:=h.now;have DB:=h.sm;have hl:=vB h;unfold rZ N5;simp only[u9,Bl];by_cases h1:L8 x=[115,116,101,112]
 .rw[Ah h1,Ah h1]
  by_cases h2:b.now=4000
  .rw[Ah h2,Ah h2]
  .rw[Ai h2,Ai h2,Ydy h hs (by omega),Ag,Yte (Yfa h s (by omega))]
   rfl
 .rw[Ai h1,Ai h1]
  by_cases h2:L8 x=[111,117,116]
  .rw[Ah h2,Ah h2,Y1e DB hs,Ag,HB (vA h s).2]
   rfl
  .rw[Ai h2,Ai h2]
   by_cases h3:L8 x=[105,100,108,101]
   .rw[Ah h3,Ah h3,Yia DB.ml,Ag]
    cases Gm b<;>rfl
   .rw[Ai h3,Ai h3]
    by_cases h4:L8 x=[111,107]
    .have ha:=Yfl b.log Vt 0 Vk
     rw[Ah h4,Ah h4,Y1m b.log (by omega),Ag,show (Zf.mk (List.replicate 192 0) (Zn.mk (List.replicate 4 0) 0 []))=Vt from rfl,Vm (Xs (by omega))];rfl
    .rw[Ai h4,Ai h4]
     unfold gT;by_cases h5:b.log=[]
     .rw[Ah h5,Ah (by rw[h5];rfl)]
     .have hp:0 < b.log.length:=Cq.2 h5
      have hd:=Yk3 h (G9 (xs:=b.log) (i:=(b.log.length:Int) - 1) (by omega) (by omega));have h1:=uX hd;have h2:=Xk (Xs (x:=(b.log.length:Int)) (by omega));have h6:(⟨(GI (Ak b.log ((b.log.length:Int) - 1))).toArray⟩:ByteArray).size<=100:=by rw[Z6,Xr];exact h1
      rw[Ai h5,Ai (by omega),Xd (by omega) (by omega),Xu (by omega) (by omega),Ag,Yue hd,Ag,Xg (by rw[Zw];simp only[AP,Bf];omega),Ag,HB (Xs (by omega)),Ag,Xg (by rw[Yf,Zw];simp only[AP,Bf];omega)];rfl
def HL (d:Z3):Zz:=Zz.mk d.Ae d.script (d.DW.getD Za.z0) d.DW.isSome
def Pu (x:ByteArray):Prop:=L8 x=[115,116,101,112]\/L8 x=[111,117,116]\/L8 x=[105,100,108,101]\/L8 x=[111,107]\/L8 x=[108,111,103]
instance (x:ByteArray):Decidable (Pu x):=by unfold Pu;infer_instance
def gU (c:Zg):ByteArray:=if Yq c=true then ⟨(Ed c).toArray⟩ else Ze [110,111,110,101]
def N6 (d:Z3) (x:ByteArray):ByteArray×Z3:=
 if L8 x=[110,101,119] then (if Yq d.Ae=true then (Ze [111,107],{d with DW:=some (Dq d.Ae)}) else (Ze [110,111],d))
 else if L8 x=[99,111,110,102] then (gU d.Ae,d)
 else if Pu x then (match d.DW with
  | none=>(Ze [110,111,110,101],d)
  | some b=>((N5 d.script b x).1,{d with DW:=some (N5 d.script b x).2}))
 else (Ze [119,104,97,116],d)
structure EV (n:Nat) (d:Z3):Prop where
 Ae:d.Ae.Ab.length < 1048577
 Am:d.script.Am.length<=4000*n
 reqs:∀p∈d.script.Am,p.Bq.sm
 waits:d.script.waits.length < 1048577
 A3:d.script.A3.length < 1048577
 KF:∀w∈d.script.waits,-9223372036854775808<=w/\w < 9223372036854775808
 DW:∀b,d.DW=some b->De b
theorem EV.sm {n:Nat} {d:Z3} (h:EV n d) (hn:n<=100):d.script.sm:=⟨by have:=h.Am;omega,h.reqs,h.waits,h.A3,h.KF⟩
theorem EV.mono {n m:Nat} {d:Z3} (h:EV n d) (hn:n<=m):EV m d:={h with Am:=by have:=h.Am;omega}
theorem gV (m:Zd):∀c∈mW m,c≠10:=by
 unfold mW;split
 .exact X0 (X0 (X0 (X0 (FX _) (by decide)) (FX _)) (by decide)) (FX _)
 .exact FX _
theorem Yse {c:Zg} (h:Yq c=true):Hp ⟨(Ed c).toArray⟩:=by
 obtain⟨hq,hw,hr,hs,hk,hn,hm⟩:=gI h;have i1:=Ji (Xs (x:=c.Av) (by omega));have i2:=Ji (Xs (x:=c.As) (by omega));have i3:=Ji (Xs (x:=c.An) (by omega));have i4:=Ji (Xs (x:=c.Ap) (by omega));have i5:=Ji (Xs (x:=c.Al) (by omega));have key:∀l:List Zd,(∀m∈l,m∈c.Ab)->(l.flatMap λm=>[32]++mW m).length<=63*l.length/\∀y∈l.flatMap λm=>[32]++mW m,y≠10:=by
  intro l
  induction l with
  | nil=>intro _;exact⟨by simp,λy hy=>by simp at hy⟩
  | cons m l ih=>
   intro hl;have h1:=ih λy hy=>hl y (Cg _ hy);have h2:=hm m (hl m BI);have h3:=Y4w (Xs (x:=m.weight) (by omega)) (Xs (x:=m.every) (by omega)) (Xs (x:=m.cap) (by omega));rw[FY];exact⟨by simp only[BW,AP,Bf];omega,X0 (X0 (by decide) (gV m)) h1.2⟩
 have h1:=key c.Ab λm hm=>hm;unfold Ed Vr;refine .mk ⟨?_,X0 (X0 (X0 (X0 (X0 (X0 (X0 (X0 (X0 (FX _) (by decide)) (FX _)) (by decide)) (FX _)) (by decide)) (FX _)) (by decide)) (FX _)) h1.2⟩;simp only[BW,AP,Bf] at h1 ⊢;omega
theorem Ysw (c:Zg):L8 ⟨(Ed c).toArray⟩≠[]:=Ywr c
theorem Xaf {n:Nat} {d:Z3} (h:EV n d) (x:ByteArray):Hp (N6 d x).1/\EV n (N6 d x).2:=by
 unfold N6;split
 .split
  .rename_i hc
   exact⟨.str (by decide),{h with DW:=λb hb=>by cases hb;exact SY hc}⟩
  .exact⟨.str (by decide),h⟩
 .split
  .refine⟨?_,h⟩
   unfold gU;split
   .rename_i hc;exact Yse hc
   .exact .str (by decide)
  .split
   .split
    .exact⟨.str (by decide),h⟩
    .rename_i b hb
     have:=Xa8 (s:=d.script) (h.DW b hb) x;exact⟨this.1,{h with DW:=λb' Y1=>by cases Y1;exact this.2}⟩
   .exact⟨.str (by decide),h⟩
def Vu (d:Z3) (x:ByteArray):Option (ByteArray×Z3):=match d.DW with
 | none=>bZ d.Ae d.script x
 | some b=>dE d.Ae d.script b x
def Vv (d:Z3) (x:ByteArray):Option (ByteArray×Z3):=match d.DW with
 | none=>pG d.Ae d.script x
 | some b=>pM d.Ae d.script b x
theorem Y4e {n:Nat} {d:Z3} (h:EV n d) (hn:n<=100) (x:ByteArray):Vu d x=some (N6 d x):=by
 obtain⟨c,s,o⟩:=d;have hc:=h.Ae;have hs:=h.sm hn;have hq:∀{β:Type} (a b:Option β),(if ¬L8 (if Yq c=true then (⟨(Ed c).toArray⟩:ByteArray) else ByteArray.empty)=[] then a else b)=if Yq c=true then a else b:=λa b=>by
  by_cases hg:Yq c=true
  .rw[Ah hg,Ah hg,Ah (Ysw c)]
  .rw[Ai hg,Ai hg,Ai (by simp[Gh])]
 cases o with
 | none=>
  unfold Vu N6 bZ Sb;simp only[u9,Yvv];by_cases h1:L8 x=[110,101,119]
  .rw[Ah h1,Ah h1,Yjc c hc,Ag]
   unfold SW;by_cases hg:Yq c=true
   .rw[Ah hg,Ah hg];rfl
   .rw[Ai hg,Ai hg];rfl
  .rw[Ai h1,Ai h1]
   by_cases h2:L8 x=[99,111,110,102]
   .rw[Ah h2,Ah h2,Z04 hc,Ag,hq]
    unfold gU;by_cases hg:Yq c=true
    .rw[Ah hg,Ah hg,Ah hg]
    .rw[Ai hg,Ai hg]
   .rw[Ai h2,Ai h2]
    unfold Pu;by_cases a1:L8 x=[115,116,101,112]
    .simp[a1]
    .by_cases a2:L8 x=[111,117,116]
     .simp[a2]
     .by_cases a3:L8 x=[105,100,108,101]
      .simp[a3]
      .by_cases a4:L8 x=[111,107]
       .simp[a4]
       .by_cases a5:L8 x=[108,111,103]
        .simp[a5]
        .simp[a1,a2,a3,a4,a5]
 | some b=>
  have hb:=h.DW b rfl;unfold Vu N6 dE Sm;simp only[u9,Yvv];by_cases h1:L8 x=[110,101,119]
  .rw[Ah h1,Ah h1,Yjc c hc,Ag]
   unfold SW;by_cases hg:Yq c=true
   .rw[Ah hg,Ah hg];rfl
   .rw[Ai hg,Ai hg];rfl
  .rw[Ai h1,Ai h1]
   by_cases h2:L8 x=[99,111,110,102]
   .rw[Ah h2,Ah h2,Z04 hc,Ag,hq]
    unfold gU;by_cases hg:Yq c=true
    .rw[Ah hg,Ah hg,Ah hg]
    .rw[Ai hg,Ai hg]
   .rw[Ai h2,Ai h2,Xaa c hb hs x]
    unfold Pu;by_cases a1:L8 x=[115,116,101,112]
    .simp[a1]
    .by_cases a2:L8 x=[111,117,116]
     .simp[a2]
     .by_cases a3:L8 x=[105,100,108,101]
      .simp[a3]
      .by_cases a4:L8 x=[111,107]
       .simp[a4]
       .by_cases a5:L8 x=[108,111,103]
        .simp[a5]
        .simp[a1,a2,a3,a4,a5]
theorem Xa4 {n:Nat} {d:Z3} (h:EV n d) (hn:n<=100) (x:ByteArray):oM (HL d) x=some (HL (N6 d x).2,(N6 d x).1):=by
 obtain⟨c,s,o⟩:=d;have hc:=h.Ae;have hs:=h.sm hn;obtain⟨k,f1,f2⟩:=Y2p [(Ze [115,116,101,112]),(Ze [111,117,116]),(Ze [108,111,103]),(Ze [105,100,108,101]),(Ze [111,107])] x (by simp);simp only[BX,Gs,or_false,forall_eq_or_imp,forall_eq,Z7] at f2;have hq:∀{β:Type} (a b:Option β),(if L8 (if Yq c=true then (⟨(Ed c).toArray⟩:ByteArray) else ByteArray.empty)=[] then a else b)=if Yq c=true then b else a:=λa b=>by
  by_cases hg:Yq c=true
  .rw[Ah hg,Ah hg,Ai (Ysw c)]
  .rw[Ai hg,Ai hg,Ah (by simp[Gh])]
 rw[show HL ⟨c,s,o⟩=Zz.mk c s (o.getD Za.z0) o.isSome from rfl];unfold oM N6;dsimp only;rw[f1];simp only[u9,Tn,Bl,Ag];by_cases h1:L8 x=[110,101,119]
 .rw[Ah h1,Ah h1,Y0e c hc,Ag]
  unfold SW;by_cases hg:Yq c=true
  .rw[Ah hg,Ah hg];rfl
  .rw[Ai hg,Ai hg];rfl
 .rw[Ai h1,Ai h1]
  by_cases h2:L8 x=[99,111,110,102]
  .rw[Ah h2,Ah h2,Z1b hc,Ag,hq]
   unfold gU;by_cases hg:Yq c=true
   .rw[Ah hg,Ah hg,Ah hg];rfl
   .rw[Ai hg,Ai hg];rfl
  .rw[Ai h2,Ai h2]
   by_cases h3:Pu x
   .have hk:¬k < 0:=λhk=>by
     have:=f2.1 hk;unfold Pu at h3;rcases h3 with h3|h3|h3|h3|h3
     .exact this.1 h3.symm
     .exact this.2.1 h3.symm
     .exact this.2.2.2.1 h3.symm
     .exact this.2.2.2.2 h3.symm
     .exact this.2.2.1 h3.symm
    rw[Ai hk,Ah h3];cases o with
    | none=>rfl
    | some b=>
     have hb:=h.DW b rfl;have fS:=hb.now;have DB:=hb.sm;have hl:=vB hb;have Yl:okB b=true:=(uU DB).2 hb;simp only[P3,D6,Bp,if_false,Gr];unfold N5;by_cases a1:L8 x=[115,116,101,112]
     .rw[Ah a1,Ah a1,Yyz DB hs,Ag]
      by_cases a2:b.now=4000
      .rw[Ah a2,Ah a2];rfl
      .rw[Ai a2,Ai a2]
       unfold Yvu;rw[Ah ⟨Yl,a2⟩,Yui (Yfa hb s (by omega))];rfl
     .rw[Ai a1,Ai a1]
      by_cases a2:L8 x=[111,117,116]
      .rw[Ah a2,Ah a2,Y1l DB hs,Ag,Qc (vA hb s).2]
       rfl
      .rw[Ai a2,Ai a2]
       by_cases a3:L8 x=[105,100,108,101]
       .rw[Ah a3,Ah a3,Yws DB,Ag]
        unfold Y4a;rw[Yl];cases Gm b<;>rfl
       .rw[Ai a3,Ai a3]
        by_cases a4:L8 x=[111,107]
        .have ha:=Yfl b.log Vt 0 Vk
         rw[Ah a4,Ah a4,Y0u b.log (by omega),Ag,show (Zf.mk (List.replicate 192 0) (Zn.mk (List.replicate 4 0) 0 []))=Vt from rfl,Vl (Xs (by omega))];rfl
        .rw[Ai a4,Ai a4]
         unfold gT;by_cases a5:b.log=[]
         .rw[Ah a5,Ah (by rw[a5];rfl)];rfl
         .have hp:0 < b.log.length:=Cq.2 a5
          have hd:=Yk3 hb (G9 (xs:=b.log) (i:=(b.log.length:Int) - 1) (by omega) (by omega));have h1:=uX hd;have h2:=Xk (Xs (x:=(b.log.length:Int)) (by omega));have h6:(⟨(GI (Ak b.log ((b.log.length:Int) - 1))).toArray⟩:ByteArray).size<=100:=by rw[Z6,Xr];exact h1
          rw[Ai a5,Ai (by omega),Xd (by omega) (by omega),Xu (by omega) (by omega),Ag,Ytj hd,Ag,Xg (by rw[Zw];simp only[AP,Bf];omega),Ag,Qc (Xs (by omega)),Ag,Xg (by rw[Yf,Zw];simp only[AP,Bf];omega)];rfl
   .have hk:k < 0:=f2.2 (by
     unfold Pu at h3;simp only[not_or] at h3;exact⟨λe=>h3.1 e.symm,λe=>h3.2.1 e.symm,λe=>h3.2.2.2.2 e.symm,λe=>h3.2.2.1 e.symm,λe=>h3.2.2.2.1 e.symm⟩)
    rw[Ah hk,Ai h3];rfl
theorem Y9w (c:UInt8) (l:List UInt8):(Lib.contains l [c]=false/\∀x∈l,x≠c)\/∃w r,l=w++c::r/\(∀x∈w,x≠c)/\Lib.contains l [c]=true/\Lib.cut l [c]=(w,r,true):=by
 have h1:=Lib.index_one l c;have NV:=Lib.indexByte_ge l c;by_cases h0:Lib.indexByte l c=-1
 .have:=Lib.indexByte_none h0
  refine .inl ⟨by unfold Lib.contains;rw[h1,h0];rfl,λx hx e=>?_⟩;subst e;obtain⟨k,hk⟩:=HN hx;exact this k hk
 .obtain⟨o,ho⟩:∃o:Nat,Lib.indexByte l c=o:=⟨(Lib.indexByte l c).toNat,by omega⟩
  obtain⟨g1,g2⟩:=Lib.indexByte_some ho;obtain⟨g3,g4⟩:=Dg.1 g1;refine .inr ⟨l.take o,l.drop (o+1),?_,λx hx e=>?_,by unfold Lib.contains;rw[h1,ho];simp,by unfold Lib.cut;rw[h1,ho,Ah (by omega)];rfl⟩
  .rw[<-g4,List.getElem_cons_drop,List.take_append_drop]
  .subst e
   obtain⟨k,hk⟩:=HN hx;rw[Dr] at hk;split at hk
   .rename_i XO;exact g2 k XO hk
   .cases hk
def gW (c:Zg) (s:Zb) (o:Option Za) (x w:ByteArray) (v:Bool):Option (ByteArray×Z3):=
 if v=true then
  (Z9 x (Ze [10])).bind λn0=>(MV (x++Ze [10])).bind λr0=>
  if (!r0.2)=true then some (Ze [110,111],Z3.mk c s o)
  else if (w.toList == (Ze [119,97,105,116,115]).toList)=true then some (Ze [111,107],Z3.mk c {s with waits:=r0.1.waits} o)
  else if (w.toList == (Ze [115,97,121,115]).toList)=true then some (Ze [111,107],Z3.mk c {s with A3:=r0.1.A3} o)
  else (Y4 80 s.Am r0.1.Am).bind λz0=>some (Ze [111,107],Z3.mk c {s with Am:=z0} o)
 else some (Ze [119,104,97,116],Z3.mk c s o)
def Pv (c:Zg) (s:Zb) (o:Option Za) (x:ByteArray):Option (ByteArray×Z3):=
 (RR x (Ze [32])).bind λr1=>
 if (r1.1.toList == (Ze [99,111,110,102]).toList)=true then
  (L5 r1.2.1).bind λr2=>if (!r2.2)=true then some (Ze [110,111],Z3.mk c s o) else some (Ze [111,107],Z3.mk r2.1 Zb.z0 none)
 else if (r1.1.toList == (Ze [119,97,105,116,115]).toList)=true then gW c s o x r1.1 (r1.1.toList == (Ze [119,97,105,116,115]).toList)
 else if (r1.1.toList == (Ze [115,97,121,115]).toList)=true then gW c s o x r1.1 (r1.1.toList == (Ze [115,97,121,115]).toList)
 else gW c s o x r1.1 (r1.1.toList == (Ze [112,111,115,116]).toList)
theorem To (d:Z3) (x:ByteArray):Vv d x=Pv d.Ae d.script d.DW x:=by
 obtain⟨c,s,o⟩:=d;cases o<;>rfl
theorem C2.i64 {v:Int} (h:C2 v):-9223372036854775808<=v/\v < 9223372036854775808:=by
 have:=h.r;unfold C2 at h;omega
theorem Y8g {x:ByteArray} {z:Zb} (h:LX x z):z.Am.length<=x.size:=by
 have hf:∀ps:List Zm,ps.length<=(ps.flatMap FV).length:=λps=>by
  induction ps with
  | nil=>simp
  | cons p ps ih=>
   rw[FY,BW,AP];have:1<=(FV p).length:=by unfold FV;simp
   omega
 have h1:=congrArg List.length h.text;rw[<-Z6] at h1;unfold Ps at h1;rw[BW] at h1;have:=hf z.Am;omega
theorem Y99 {n:Nat} {d:Z3} (h:EV n d) (hn:n<=99) {x:ByteArray} (hx:x.size<=3500) {w r:List UInt8} (hw:L8 x=w++32::r) (Cz:∀c∈w,c≠32) (Xdf:Lib.cut (L8 x) [32]=(w,r,true)):
  ∃q:ByteArray×Z3,Vv d x=some q/\RO (HL d) x=some (HL q.2,q.1)/\Hp q.1/\EV (n+1) q.2:=by
 obtain⟨c,s,o⟩:=d;have hm:EV (n+1) (Z3.mk c s o):=h.mono (by omega);have hs:=h.sm (by omega);obtain⟨ws,e1,e2⟩:=HJ (x:=x) 32 (by omega);have e1:W0 x 32=some ws:=e1;rw[hw,Vo Cz] at e2;obtain⟨a,ar,rfl⟩:∃a ar,ws=a::ar:=by
  cases ws with
  | nil=>cases e2
  | cons a ar=>exact⟨a,ar,rfl⟩
 rw[CD] at e2;injection e2 with e2 e3;have Yp:0 < ar.length:=by
  have h1:=congrArg List.length e3;rw[GL] at h1;have:=Td 32 r;have:=Cq.2 this;omega
 have W3:x.size=w.length+1+r.length:=by rw[Z6,hw];simp;omega
 have gX:RR x (Ze [32])=some (⟨w.toArray⟩,⟨r.toArray⟩,true):=by
  unfold RR;rw[Ah (by omega),show (Lib.cut x.data.toList (Ze [32]).data.toList)=(w,r,true) from Xdf]
 have a0:idx (a::ar) 0=some a:=rfl;have DS:w=[99,111,110,102]->EI x 5 (x.size:Int)=some ⟨r.toArray⟩:=λhwc=>by
  have:=N1 (x:=x) (a:=5) (b:=x.size) (by rw[W3,hwc];simp) (by rw[Z6];exact B2 _);obtain⟨y,y1,y2⟩:=this;have:y=⟨r.toArray⟩:=Jg (by
   rw[y2,hw,hwc,Xr,W3,hwc];simp)
  rw[<-this];exact y1
 have hb:∀l,(a.toList == (Ze l).toList)=decide (w=l):=λl=>by rw[Qx,Z7,e2]
 have DT:∀l,((⟨w.toArray⟩:ByteArray).toList == (Ze l).toList)=decide (w=l):=λl=>by rw[Qx,Z7,Xr]
 have kG:∀{β:Type} (J:Bool->β),(if decide (w=[119,97,105,116,115])=true then J (decide (w=[119,97,105,116,115])) else if decide (w=[115,97,121,115])=true then J (decide (w=[115,97,121,115])) else J (decide (w=[112,111,115,116])))=J (decide (w=[119,97,105,116,115]\/w=[115,97,121,115]\/w=[112,111,115,116])):=λJ=>by
  by_cases g2:w=[119,97,105,116,115]
  .simp[g2]
  .by_cases g3:w=[115,97,121,115]
   .simp[g3]
   .simp[g2,g3]
 have w1:RO (HL ⟨c,s,o⟩) x=if decide (w=[99,111,110,102])=true then ((EI x 5 (x.size:Int)).bind λs0=>(O8 s0).bind λr3=>if (!r3.2)=true then some (HL ⟨c,s,o⟩,Ze [110,111]) else some (Zz.mk r3.1 Zb.z0 Za.z0 false,Ze [111,107]))
   else Uk (HL ⟨c,s,o⟩) x (a::ar) (decide (w=[119,97,105,116,115]\/w=[115,97,121,115]\/w=[112,111,115,116])):=by
  unfold RO;rw[e1,Ag,Ai (by simp only[AP,Bl];omega),a0,Ag,hb,hb,hb,hb,kG]
 have w2:Vv ⟨c,s,o⟩ x=if decide (w=[99,111,110,102])=true then (L5 ⟨r.toArray⟩).bind λr2=>if (!r2.2)=true then some (Ze [110,111],Z3.mk c s o) else some (Ze [111,107],Z3.mk r2.1 Zb.z0 none)
   else gW c s o x ⟨w.toArray⟩ (decide (w=[119,97,105,116,115]\/w=[115,97,121,115]\/w=[112,111,115,116])):=by
  rw[To];unfold Pv;rw[gX,Ag,DT,DT,DT,DT,kG]
 rw[w1,w2];by_cases g1:w=[99,111,110,102]
 .rw[Ah (by simpa using g1),Ah (by simpa using g1),DS g1,Ag]
  obtain⟨q,q1,q2,q3⟩:=Ytk (x:=⟨r.toArray⟩) (by rw[Z6,Xr];omega);rw[q1,q2,Ag,Ag];rcases q3 with rfl|⟨hq,hg⟩
  .exact⟨_,rfl,rfl,.str (by decide),hm⟩
  .rw[hq]
   refine⟨_,rfl,rfl,.str (by decide),⟨?_,by show ([]:List Zm).length<=_;simp,λp hp=>by simp[Zb.z0] at hp,by simp[Zb.z0],by simp[Zb.z0],λv hv=>by simp[Zb.z0] at hv,λb hb=>by cases hb⟩⟩;have:=Km hg.1;show q.1.Ab.length < _;omega
 .rw[Ai (by simpa using g1),Ai (by simpa using g1)]
  unfold Uk gW;rw[DT,DT];by_cases g2:w=[119,97,105,116,115]\/w=[115,97,121,115]\/w=[112,111,115,116]
  .rw[decide_eq_true g2,Ah rfl,Ah rfl,Xg (by rw[Zw];simp only[AP,Bf];omega),Ag,Ag]
   have hx1:(x++Ze [10]).size<=3600:=by rw[Yf,Zw];simp only[AP,Bf];omega
   obtain⟨q,q1,q2,q3⟩:=Ylw (x:=x++Ze [10]) (by omega);rw[q1,q2,Ag,Ag];rcases q3 with rfl|⟨hq,hg⟩
   .exact⟨_,rfl,rfl,.str (by decide),hm⟩
   .have NZ:=Y8g hg
    rw[hq,a0,Ag,hb,hb];simp only[D6,Bp,if_false,Bl];by_cases g3:w=[119,97,105,116,115]
    .rw[Ah g3,Ah g3]
     exact⟨_,rfl,rfl,.str (by decide),{hm with waits:=hg.w.1,KF:=λv hv=>(hg.w.2 v hv).i64}⟩
    .rw[Ai g3,Ai g3]
     by_cases g4:w=[115,97,121,115]
     .rw[Ah g4,Ah g4]
      exact⟨_,rfl,rfl,.str (by decide),{hm with A3:=hg.s.1}⟩
     .have hp:=h.Am
      rw[Ai g4,Ai g4,show (HL ⟨c,s,o⟩).s=s from rfl,Yr (xs:=([]:List Zm)) (by simp only[Bf];have hp:s.Am.length<=4000*n:=hp;omega) (by simp only[Bf];have hp:s.Am.length<=4000*n:=hp;omega),Ag,LZ,Yr (by have hp:s.Am.length<=4000*n:=hp;omega) (by have hp:s.Am.length<=4000*n:=hp;omega),Ag,Ag];refine⟨_,rfl,rfl,.str (by decide),{hm with Am:=?_,reqs:=λp hp=>?_}⟩
      .show (s.Am++q.1.Am).length<=_
       have hp:s.Am.length<=4000*n:=hp;rw[BW];omega
      .rcases BP.1 hp with hp|hp
       .exact h.reqs p hp
       .exact (eQ (hg.reqs p hp).2.2)
  .rw[decide_eq_false g2,Ai (by simp),Ai (by simp)]
   exact⟨_,rfl,rfl,.str (by decide),hm⟩
def Iv (d:Z3) (x:ByteArray):ByteArray×Z3:=((if Lib.contains (L8 x) [32]=true then Vv d x else Vu d x).getD (ByteArray.empty,d))
theorem vC {n:Nat} {d:Z3} (h:EV n d) (hn:n<=99) {x:ByteArray} (hx:x.size<=3500):
  (if Lib.contains (L8 x) [32]=true then Vv d x else Vu d x)=some (Iv d x)/\RO (HL d) x=some (HL (Iv d x).2,(Iv d x).1)/\Hp (Iv d x).1/\EV (n+1) (Iv d x).2:=by
 unfold Iv;rcases Y9w 32 (L8 x) with⟨h1,h2⟩|⟨w,r,h1,h2,h3,h4⟩
 .rw[h1,Ai (by simp),Y4e h (by omega)]
  have ha:=Xaf h x;refine⟨rfl,?_,ha.1,ha.2.mono (by omega)⟩;obtain⟨ws,e1,e2⟩:=HJ (x:=x) 32 (by omega);have e1:W0 x 32=some ws:=e1;rw[Te h2] at e2;have hl:ws.length=1:=by simpa using congrArg List.length e2
  unfold RO;rw[e1,Ag,Ah (by simp[hl]),Xa4 h (by omega)];rfl
 .rw[h3,Ah rfl]
  obtain⟨q,q1,q2,q3,q4⟩:=Y99 h hn hx h1 h2 h4;rw[q1];exact⟨rfl,q2,q3,q4⟩
def Dk:List ByteArray->Z3->List UInt8×Z3
 | [],d=>([],d)
 | x::l,d=>if L8 x=[] then Dk l d else (L8 (Iv d x).1++[10]++(Dk l (Iv d x).2).1,(Dk l (Iv d x).2).2)
theorem Y57 {x:ByteArray} (hx:x.size<=3500):RQ x (Ze [32])=some (Lib.contains (L8 x) [32]):=by
 unfold RQ;rw[Ah (by omega)];rfl
theorem N7 {α:Type} {c:Prop} {_:Decidable c} {a b a' b':α} (h1:a=a') (h2:b=b'):ite c a b=ite c a' b':=by rw[h1,h2]
theorem vD {α β:Type} {x:Option α} {f g:α->Option β} (h:∀a,f a=g a):x.bind f=x.bind g:=by cases x with|none=>rfl|some a=>exact h a
theorem Y11 {x0:ByteArray} {vs:List ByteArray} (hz:∀v∈vs,v.size<=3500) (hl:vs.length<=61):∀(m j:Nat) (d:Z3) (out:ByteArray),j<=vs.length->vs.length - j < m->EV j d->out.size<=200000*j->
  J1 x0 m d out vs (vs.length:Int) (j:Int)=some ⟨(L8 out++(Dk (vs.drop j) d).1).toArray⟩:=by
 intro m
 induction m with
 | zero=>intro j d out _ h;omega
 | succ m ih=>
  intro j d out hj hm hd ho;show sA x0 (J1 x0 m) d out vs (vs.length:Int) (j:Int)=_;have hu:sA x0 (J1 x0 m) d out vs (vs.length:Int) (j:Int)=if decide ((j:Int) < (vs.length:Int))=true then ((idx vs (j:Int)).bind λa0=>if (a0.toList == ByteArray.empty.toList)=true then J1 x0 m d out vs (vs.length:Int) (Zl (j:Int) 1) else
    (RQ a0 (Ze [32])).bind λr0=>(if r0=true then Vv d a0 else Vu d a0).bind λq=>(Z9 q.1 (Ze [10])).bind λ_=>(Z9 out (q.1++Ze [10])).bind λ_=>J1 x0 m q.2 (out++(q.1++Ze [10])) vs (vs.length:Int) (Zl (j:Int) 1)) else some out:=by
   obtain⟨c,s,o⟩:=d;unfold sA;have fin:∀(z:Option (ByteArray×Z3)) (K:Z3->ByteArray->Option ByteArray),(z.bind λr1=>match r1 with
     | (z2,⟨z3,z4,none⟩)=>(Z9 z2 (Ze [10])).bind λn0=>(Z9 out (z2++(Ze [10]))).bind λn1=>K (Z3.mk z3 z4 none) (out++(z2++(Ze [10])))
     | (z2,⟨z3,z4,some z5⟩)=>(Z9 z2 (Ze [10])).bind λn0=>(Z9 out (z2++(Ze [10]))).bind λn1=>K (Z3.mk z3 z4 (some z5)) (out++(z2++(Ze [10]))))=z.bind λq=>(Z9 q.1 (Ze [10])).bind λ_=>(Z9 out (q.1++Ze [10])).bind λ_=>K q.2 (out++(q.1++Ze [10])):=λz K=>by
    cases z with
    | none=>rfl
    | some q=>
     obtain⟨t,c',s',o'⟩:=q;cases o'<;>rfl
   cases o with
   | none=>
    refine N7 (vD λa0=>N7 rfl (vD λr0=>?_)) rfl;cases r0 with
    | true=>exact fin (pG c s a0) λd o=>J1 x0 m d o vs (vs.length:Int) (Zl (j:Int) 1)
    | false=>exact fin (bZ c s a0) λd o=>J1 x0 m d o vs (vs.length:Int) (Zl (j:Int) 1)
   | some b=>
    refine N7 (vD λa0=>N7 rfl (vD λr0=>?_)) rfl;cases r0 with
    | true=>exact fin (pM c s b a0) λd o=>J1 x0 m d o vs (vs.length:Int) (Zl (j:Int) 1)
    | false=>exact fin (dE c s b a0) λd o=>J1 x0 m d o vs (vs.length:Int) (Zl (j:Int) 1)
  rw[hu];by_cases hc:j < vs.length
  .have hv:=hz _ (B6 hc)
   rw[Ah (by simpa using hc),Zx hc,Ag,Z8 (by omega),DG hc,Qx,Gh];unfold Dk;by_cases he:L8 vs[j]=[]
   .rw[Ah (by simpa using he),Ah he]
    exact ih (j+1) d out (by omega) (by omega) (hd.mono (by omega)) (by omega)
   .obtain⟨a1,a2,a3,a4⟩:=vC hd (by omega) hv
    have Ch:=a3.1;rw[Ai (by simpa using he),Ai he,Y57 hv,Ag,a1,Ag,Xg (by rw[Zw];simp only[AP,Bf];omega),Ag,Xg (by rw[Yf,Zw];simp only[AP,Bf];omega),Ag,ih (j+1) _ _ (by omega) (by omega) a4 (by rw[Yf,Yf,Zw];simp only[AP,Bf];omega),Wl,Wl,Z7];simp only[List.append_assoc]
  .have e:j=vs.length:=by omega
   subst e;rw[Ai (by simp),List.drop_length];unfold Dk;rw[FZ];rfl
theorem Y2o {x0:ByteArray} {vs:List ByteArray} (hz:∀v∈vs,v.size<=3500) (hl:vs.length<=61):∀(m j:Nat) (d:Z3) (out:ByteArray),j<=vs.length->vs.length - j < m->EV j d->out.size<=200000*j->
  bM x0 m (HL d) vs out (j:Int)=some ⟨(L8 out++(Dk (vs.drop j) d).1).toArray⟩:=by
 intro m
 induction m with
 | zero=>intro j d out _ h;omega
 | succ m ih=>
  intro j d out hj hm hd ho;show Z1g x0 (bM x0 m) (HL d) vs out (j:Int)=_;unfold Z1g;by_cases hc:j < vs.length
  .have hv:=hz _ (B6 hc)
   rw[Ah (by simpa using hc),Zx hc,Ag,Z8 (by omega),DG hc,Qx,Gh];unfold Dk;by_cases he:L8 vs[j]=[]
   .rw[Ah (by simpa using he),Ah he]
    exact ih (j+1) d out (by omega) (by omega) (hd.mono (by omega)) (by omega)
   .obtain⟨a1,a2,a3,a4⟩:=vC hd (by omega) hv
    have Ch:=a3.1;rw[Ai (by simpa using he),Ai he,a2,Ag];dsimp only;rw[Xg (by omega),Ag,Xg (by rw[Yf,Zw];simp only[AP,Bf];omega),Ag,ih (j+1) _ _ (by omega) (by omega) a4 (by rw[Yf,Yf,Zw];simp only[AP,Bf];omega),Wl,Wl,Z7];simp only[List.append_assoc]
  .have e:j=vs.length:=by omega
   subst e;rw[Ai (by simp),List.drop_length];unfold Dk;rw[FZ];rfl
def Xq (l:List UInt8):List (List UInt8):=if (Ym 10 l).getLast?=some [] then (Ym 10 l).dropLast else Ym 10 l
def J7 (x:ByteArray):List UInt8:=if 3000 < x.size\/60 < (Xq (L8 x)).length then [] else (Dk ((Xq (L8 x)).map λl=>⟨l.toArray⟩) Z3.z0).1
theorem vE:EV 0 Z3.z0:=⟨by decide,by decide,λp hp=>(by cases hp),by decide,by decide,λw hw=>(by cases hw),λb hb=>(by cases hb)⟩
theorem Yvl {ws:List ByteArray} {ls:List (List UInt8)} (h:ws.map L8=ls):ws=ls.map λl=>⟨l.toArray⟩:=by
 subst h;rw[Hu]
 conv=>lhs;rw[<-List.map_id ws]
 refine P1 λa _=>?_;exact Jg rfl
theorem Yz4 {α:Type} (xs:List α) (h:0 < xs.length) (hl:xs.length < 4611686018427387904):Yv xs 0 (Y8 (xs.length:Int) 1)=some xs.dropLast:=by
 rw[Xd (by omega) (by omega)];unfold Yv;rw[Ah (by omega),List.dropLast_eq_take]
 congr 2
 omega
theorem Yss {x:ByteArray} (hx:x.size<=1048576):oT x=some ⟨(J7 x).toArray⟩/\U9 x=some ⟨(J7 x).toArray⟩:=by
 obtain⟨ws,a1,a2⟩:=KK (x:=x) 10 (by omega);obtain⟨vs,b1,b2⟩:=HJ (x:=x) 10 (by omega);have b1:W0 x 10=some vs:=b1;have e:vs=ws:=(Yvl b2).trans (Yvl a2).symm;subst e;have Yj:=Td 10 (L8 x);have hle:=Ygl 10 (L8 x);rw[<-Z6] at hle;have Yp:vs.length=(Ym 10 (L8 x)).length:=by simpa using congrArg List.length a2
 have HZ:=Cq.2 Yj;have key:∀us:List ByteArray,us.map L8=Xq (L8 x)->Sp x us=some ⟨(J7 x).toArray⟩/\RP x us=some ⟨(J7 x).toArray⟩:=λus hu=>by
  have PE:us.length=(Xq (L8 x)).length:=by simpa using congrArg List.length hu
  have hum:=Yvl hu;by_cases h1:3000 < x.size
  .have e1:decide ((x.size:Int) > 3000)=true:=by simp;omega
   have e2:J7 x=[]:=Ah (.inl h1);unfold Sp RP;rw[e1,e2];exact⟨rfl,rfl⟩
  .have e1:decide ((x.size:Int) > 3000)=false:=by simp;omega
   by_cases h2:60 < (Xq (L8 x)).length
   .have e2:J7 x=[]:=Ah (.inr h2)
    have e3:decide ((us.length:Int) > 60)=true:=by simp;omega
    unfold Sp RP;rw[e1,e2,e3];exact⟨rfl,rfl⟩
   .have e2:J7 x=(Dk us Z3.z0).1:=by
     unfold J7;rw[Ai (by omega),<-hum]
    have e3:decide ((us.length:Int) > 60)=false:=by simp;omega
    have hz:∀v∈us,v.size<=3500:=λv hv=>by
     have h3:L8 v∈Xq (L8 x):=by rw[<-hu];exact List.mem_map_of_mem hv
     have h4:L8 v∈Ym 10 (L8 x):=by
      unfold Xq at h3;split at h3
      .exact (Ven _).subset h3
      .exact h3
     have:=Yb0 h4;rw[<-Z6,<-Z6] at this;omega
    have g1:=Y11 (x0:=x) hz (by omega) FU 0 Z3.z0 ByteArray.empty (BM _) (by have:=Yx;omega) vE (by decide);have g2:=Y2o (x0:=x) hz (by omega) FU 0 Z3.z0 ByteArray.empty (BM _) (by have:=Yx;omega) vE (by decide);unfold Sp RP;rw[e1,e2,e3];exact⟨g1,g2⟩
 have uF:idx vs (Y8 (vs.length:Int) 1)=some (vs[vs.length - 1]'(by omega)):=by
  rw[Xd (by omega) (by omega),show ((vs.length:Int) - 1)=((vs.length - 1:Nat):Int) by omega];exact Zx _
 have CK:(Ym 10 (L8 x)).getLast?=some (L8 (vs[vs.length - 1]'(by omega))):=by
  rw[<-a2,List.getLast?_eq_getElem?,D5,GL,C6 (by omega)];rfl
 unfold oT U9;rw[a1,b1,Ag,Ag,uF,Ag,Ag,Qx,Gh];by_cases h:L8 (vs[vs.length - 1]'(by omega))=[]
 .rw[Ah (by simpa using h),Ah (by simpa using h),Yz4 vs (by omega) (by omega),Ag,Ag]
  have:=key vs.dropLast (by
   unfold Xq;rw[Ah (by rw[CK,h]),List.map_dropLast,a2])
  exact⟨this.2,this.1⟩
 .rw[Ai (by simpa using h),Ai (by simpa using h)]
  have:=key vs (by
   unfold Xq;rw[Ai (by rw[CK];simpa using h),a2])
  exact⟨this.2,this.1⟩
theorem Y12 (x:List Int) (hl:x.length < 1048577):So (sH x) λr=>r.size<=1048576:=by
 unfold sH;refine So.bind (Xc3 x hl) λr0 h0=>?_;refine (Y94 h0).bind λr1 ⟨h1,hc⟩=>?_;have Qf:=Km hc;rw[Z1b (by omega),Ag,Ah hc];have ht:=(Yse hc).1;rw[Xg (by rw[Zw];simp only[AP,Bf];omega),Ag,Xg (by rw[Yf,Zw,Zw];simp only[AP,Bf];omega),Ag];refine (gB 8 h1).bind λr2 h2=>?_;have key:∀(m n:Nat) (c:Z0) (v:ByteArray),Ky c->n < m->v.size+2000*n<=200000->So (Jk x m c r1.1 v (n:Int)) λr=>r.size<=1048576:=by
  intro m
  induction m with
  | zero=>intro n c v _ h;omega
  | succ m ih=>
   intro n c v PB hn hv;show So (Zs4 x (Jk x m) c r1.1 v (n:Int)) _;have go:∀(c2:Z0) (w:ByteArray),0 < n->Ky c2->w.size<=v.size+1500->So (Jk x m c2 r1.1 w (Y8 (n:Int) 1)) λr=>r.size<=1048576:=λc2 w h0 FA hw=>by
    obtain⟨k,rfl⟩:∃k,n=k+1:=⟨n - 1,by omega⟩;rw[show Y8 ((k+1:Nat):Int) 1=(k:Int) by rw[Xd (by omega) (by omega)];omega];exact ih k c2 w FA (by omega) (by omega)
   have pick:∀(xs:List ByteArray) (c2:Z0),0 < n->Ky c2->xs≠[]->(∀y∈xs,y.size<=100)->So ((UD c2 xs).bind λr=>(Z9 v r.1).bind λ_=>(Z9 (v++r.1) (Ze [10])).bind λ_=>Jk x m r.2 r1.1 ((v++r.1)++(Ze [10])) (Y8 (n:Int) 1)) λr=>r.size<=1048576:=λxs c2 h0 FA Yj hxs=>by
    refine (Y5i xs Yj FA).bind λq ⟨hq,hm⟩=>?_;have:=hxs _ hm;rw[Xg (by omega),Ag,Xg (by rw[Yf,Zw];simp only[AP,Bf];omega),Ag];exact go _ _ h0 hq (by rw[Yf,Yf,Zw];simp only[AP,Bf];omega)
   unfold Zs4;by_cases h0:0 < n
   .rw[Ah (by simp;omega)]
    refine (Kl 9 PB).bind λq ⟨hq,q0,q9,_⟩=>?_;have J3:∀b:Bool,So (dI x (Jk x m) q.2 r1.1 v (n:Int) q.1 b) λr=>r.size<=1048576:=λb=>by
     unfold dI;refine So.ite (λ_=>?_) λ_=>So.ite (λ_=>?_) λ_=>?_
     .rw[Xg (by rw[Zw];simp only[AP,Bf];omega),Ag]
      refine (Kl 9 hq).bind λa ⟨ha,a0,a9,_⟩=>?_;have a9:=a9 (by omega);have i1:B0 a.1:=Xs (by omega);have z1:=Xk i1;rw[Qc i1,Ag,Xg (by rw[Yf,Zw];simp only[AP,Bf];omega),Ag,Xg (by rw[Yf,Yf,Zw,Zw];simp only[AP,Bf];omega),Ag];rw[Ye (by omega) (by omega)];refine (Kl _ ha).bind λb ⟨hb,b0,b9,_⟩=>?_;have b9:=b9 (by omega);have i2:B0 b.1:=Xs (by omega);have z2:=Xk i2;rw[Qc i2,Ag];simp (disch:=(simp only[Yf,Zw,AP,Bf];omega)) only[Xg,Ag];refine (Y8s hb).bind λd ⟨hd,d8,dn⟩=>?_;rw[Z4s (by unfold Zj.sm;omega) dn,Ag];have z3:(if Qk d.1=true then (⟨(Kw d.1).toArray⟩:ByteArray) else ByteArray.empty).size<=300:=by
       split
       .rename_i hg;rw[Z6,Xr];exact gF hg dn
       .show 0<=_;omega
      generalize (if Qk d.1=true then (⟨(Kw d.1).toArray⟩:ByteArray) else ByteArray.empty)=t at z3 ⊢;simp (disch:=(simp only[Yf,Zw,AP,Bf];omega)) only[Xg,Ag];exact go _ _ h0 hd (by simp only[Yf,Zw,AP,Bf];omega)
     .exact pick _ _ h0 hq (by simp) (by
       intro y hy;simp only[BX,Gs,or_false] at hy;rcases hy with h|h|h|h|h|h|h|h|h|h|h<;>(rw[h,Zw];decide))
     .have J4:∀b:Bool,So (dH x (Jk x m) q.2 r1.1 v (n:Int) b) λr=>r.size<=1048576:=λb=>by
       unfold dH;refine So.ite (λ_=>?_) λ_=>?_
       .rw[Xg (by rw[Zw];simp only[AP,Bf];omega),Ag,Xg (by rw[Yf,Zw,Zw];simp only[AP,Bf];omega),Ag]
        exact go _ _ h0 hq (by rw[Yf,Yf,Zw,Zw];simp only[AP,Bf];omega)
       .exact pick _ _ h0 hq (by simp) (by
         intro y hy;simp only[BX,Gs,or_false] at hy;rcases hy with h|h|h|h|h|h|h|h|h<;>(rw[h,Zw];decide))
      exact So.ite (λ_=>J4 _) λ_=>J4 _
    exact So.ite (λ_=>J3 _) λ_=>J3 _
   .rw[Ai (by simp;omega)]
    refine (gB 12 PB).bind λq hq=>?_;refine So.ite (λ_=>?_) λ_=>So.ret (by omega);rw[Xg (by rw[Zw];simp only[AP,Bf];omega),Ag];exact So.ret (by rw[Yf,Zw];simp only[AP,Bf];omega)
 have J2:∀v:ByteArray,v.size<=100100->So (dJ x r2.2 r1.1 v) λr=>r.size<=1048576:=λv hv=>by
  unfold dJ;refine (Kl 12 h2).bind λq ⟨hq,q0,q12,_⟩=>?_;have q12:=q12 (by omega);obtain⟨n,hn⟩:∃n:Nat,q.1=n:=⟨q.1.toNat,by omega⟩;rw[hn];exact key FU n q.2 v hq (by have:=Yx;omega) (by omega)
 refine So.ite (λ_=>J2 _ (by decide)) λ_=>J2 _ ?_;rw[Yf,Yf,Zw,Zw];simp only[AP,Bf];omega
theorem Yja (c x:UInt8) (l:List UInt8):Ym c (x::l)=if x=c then []::Ym c l else match Ym c l with
  | []=>[[x]]
  | w::r=>(x::w)::r:=rfl
theorem Y5n (c:UInt8):∀(p r:List UInt8),Ym c (p++c::r)=Ym c p++Ym c r:=by
 intro p
 induction p with
 | nil=>intro r;simp[Ym]
 | cons x p ih=>
  intro r;rw[Hr,Yja,Yja,ih];by_cases h:x=c
  .rw[Ah h,Ah h];rfl
  .rw[Ai h,Ai h]
   cases hp:Ym c p with
   | nil=>exact absurd hp (Td c p)
   | cons w q=>rfl
theorem Yr2 (p r:List UInt8):Xq (p++10::r)=Ym 10 p++Xq r:=by
 have Yj:=Td 10 r;have hl:(Ym 10 p++Ym 10 r).getLast?=(Ym 10 r).getLast?:=by
  rw[List.getLast?_append];cases h:(Ym 10 r).getLast? with
  | none=>exact absurd (List.getLast?_eq_none_iff.1 h) Yj
  | some a=>rfl
 unfold Xq;rw[Y5n,hl];split
 .rw[List.dropLast_append_of_ne_nil Yj]
 .rfl
theorem Yru (p:List UInt8):Xq (p++[10])=Ym 10 p:=by
 rw[Yr2];show Ym 10 p++Xq []=_;rw[show Xq []=[] from rfl,FZ]
def Iw (l:List UInt8) (n:Nat):Prop:=n<=l.length/\(n=0\/∃p,l.take n=p++[10])
theorem Iw.lines {l:List UInt8} {n:Nat} (h:Iw l n):Xq l=Xq (l.take n)++Xq (l.drop n):=by
 rcases h.2 with rfl|⟨p,hp⟩
 .rfl
 .conv=>lhs;rw[<-List.take_append_drop n l,hp,List.append_assoc]
  rw[hp,Yru];exact Yr2 p _
def E6 (ls:List (List UInt8)):Nat:=(ls.filter λw=>!w.isEmpty).length
theorem Ysb (a b:List (List UInt8)):E6 (a++b)=E6 a+E6 b:=by unfold E6;rw[V3,BW]
section
variable {x0:List Int} {s out:ByteArray} {k:Int}
theorem Yrt {m f i:Nat} {cut lines full:Int} {w r:List UInt8} (hl:(L8 s).length < 1048577) (hf:(L8 s).drop f=w++r) (hw:∀c∈w,c≠10):∀j,j<=w.length->Wh x0 (m+j) s out cut lines full k (f:Int) ((f+(w.length - j):Nat):Int)=Wh x0 m s out cut lines full k (f:Int) ((f+w.length:Nat):Int):=by
 have Yp:=congrArg List.length hf;rw[KO,BW] at Yp;intro j
 induction j with
 | zero=>intro _;rfl
 | succ j ih=>
  intro hj;rw[<-ih (by omega)];have hi:f+(w.length - (j+1)) < (L8 s).length:=by omega
  have hg:(L8 s)[f+(w.length - (j+1))]≠10:=by
   have e:(L8 s)[f+(w.length - (j+1))]?=(w++r)[w.length - (j+1)]?:=by rw[<-hf,D4]
   rw[C6 hi,EW (by omega),C6 (by omega)] at e;injection e with e;rw[e];exact hw _ (B6 _)
  show W5 x0 (Wh x0 (m+j)) s out cut lines full k (f:Int) ((f+(w.length - (j+1)):Nat):Int)=_;unfold W5;have hs:=Z6 s;have Yj:((L8 s)[f+(w.length - (j+1))].toNat:Int)≠10:=λh=>hg (by
   have:(L8 s)[f+(w.length - (j+1))].toNat=10:=by omega
   exact vX.1 (by rw[this];rfl))
  rw[Ah (by simp;omega),Ai (by simp;omega),Ah (by simp;omega),Ho hi,Ag,decide_eq_true Yj];unfold L7;rw[Ah rfl,Z8 (by omega),show f+(w.length - (j+1))+1=f+(w.length - j) by omega]
def gY (x0:List Int) (s out:ByteArray) (cut lines full:Int):Option Bool:=if decide (lines > 60)=true then OQ x0 s out cut full true else OQ x0 s out cut full (decide ((s.size:Int) > 3000))
theorem Xbm (l:List UInt8):(∀c∈l,c≠10)\/∃w r,l=w++10::r/\∀c∈w,c≠10:=by
 rcases Y9w 10 l with⟨_,h⟩|⟨w,r,h1,h2,_⟩
 .exact .inl h
 .exact .inr ⟨w,r,h1,h2⟩
theorem Xcm (hl:(L8 s).length < 1048577):∀(n f m:Nat) (cut lines full:Nat),(L8 s).length - f<=n->Iw (L8 s) f->Iw (L8 s) cut->lines=(Xq ((L8 s).take f)).length->full=E6 (Xq ((L8 s).take f))->(L8 s).length - f+2<=m->
  ∃c:Nat,Iw (L8 s) c/\Wh x0 m s out (cut:Int) (lines:Int) (full:Int) k (f:Int) (f:Int)=gY x0 s out (c:Int) ((Xq (L8 s)).length:Int) (E6 (Xq (L8 s)):Int):=by
 intro n
 induction n with
 | zero=>
  intro f m cut lines full hn hf hc hL hF hm;have e:f=(L8 s).length:=by have:=hf.1;omega
  obtain⟨m,rfl⟩:∃k,m=k+2:=⟨m - 2,by omega⟩;have hs:=Z6 s;rw[e,E9] at hL hF;refine⟨cut,hc,?_⟩;show W5 x0 (Wh x0 (m+1)) s out cut lines full k (f:Int) (f:Int)=_;unfold W5;rw[Ah (by simp;omega),Ah (by simp;omega),Ah (by simp)];unfold L7;rw[Ah rfl,Z8 (by omega)];show W5 x0 (Wh x0 m) s out cut lines full k (f:Int) ((f+1:Nat):Int)=_;unfold W5;rw[Ai (by simp;omega),hL,hF];rfl
 | succ n ih=>
  intro f m cut lines full hn hf hc hL hF hm;have hs:=Z6 s;have BK:=hf.1;by_cases h0:f=(L8 s).length
  .exact ih f m cut lines full (by omega) hf hc hL hF hm
  .have htot:=hf.lines
   have Yp:((L8 s).drop f).length=(L8 s).length - f:=KO;have hlc:lines<=(L8 s).length+1:=by
    rw[hL];have h1:=Ygl 10 ((L8 s).take f);rw[Ey] at h1;unfold Xq;split
    .rw[List.length_dropLast];omega
    .omega
   have hfc:full<=lines:=by rw[hL,hF];exact Pz _ _
   rcases Xbm ((L8 s).drop f) with h1|⟨w,r,h1,h2⟩
   ·
    have HZ:0 < ((L8 s).drop f).length:=by rw[KO];omega
    obtain⟨m',Dm⟩:∃k,m=k+2+((L8 s).drop f).length:=⟨m - 2 - ((L8 s).drop f).length,by rw[KO];omega⟩;have e:=Yrt (x0:=x0) (s:=s) (out:=out) (k:=k) (m:=m'+2) (f:=f) (i:=f) (cut:=cut) (lines:=lines) (full:=full) (w:=(L8 s).drop f) (r:=[]) hl (by rw[FZ]) h1 ((L8 s).drop f).length (B2 _);simp only[VC,Fv] at e;rw[<-Dm] at e;have Xfs:Xq ((L8 s).drop f)=[(L8 s).drop f]:=by
     unfold Xq;rw[Te h1,Ai (by simp;omega)]
    rw[e];refine⟨cut,hc,?_⟩;have hd:f+((L8 s).drop f).length=(L8 s).length:=by rw[KO];omega
    rw[hd,htot,Xfs,BW,Ysb];show W5 x0 (Wh x0 (m'+1)) s out cut lines full k (f:Int) (((L8 s).length:Nat):Int)=_;unfold W5;rw[Ah (by simp;omega),Ah (by simp;omega),Ai (by simp;omega),Ai (by simp;omega)];unfold L7;rw[Ai (by simp),Ah (by simp;omega)];unfold UE;have fin:Wh x0 (m'+1) s out (cut:Int) (Zl (lines:Int) 1) (Zl (full:Int) 1) k (Zl (((L8 s).length:Nat):Int) 1) (Zl (((L8 s).length:Nat):Int) 1)=gY x0 s out (cut:Int) (((Xq ((L8 s).take f)).length+[(L8 s).drop f].length:Nat):Int) ((E6 (Xq ((L8 s).take f))+E6 [(L8 s).drop f]:Nat):Int):=by
     rw[Z8 (by omega),Z8 (by omega),Z8 (by omega),<-hL,<-hF,show E6 [(L8 s).drop f]=1 by
      unfold E6;cases hq:(L8 s).drop f with
      | nil=>rw[hq] at HZ;simp at HZ
      | cons a l=>rfl]
     show W5 x0 (Wh x0 m') s out cut _ _ k _ (((L8 s).length+1:Nat):Int)=_;unfold W5;rw[Ai (by simp;omega)];rfl
    split
    .rw[Ai (by simp;omega)];exact fin
    .exact fin
   ·
    have hlw:=congrArg List.length h1;rw[KO,BW,AP] at hlw;obtain⟨m',Dm⟩:∃k,m=k+1+w.length:=⟨m - 1 - w.length,by omega⟩;have e:=Yrt (x0:=x0) (s:=s) (out:=out) (k:=k) (m:=m'+1) (f:=f) (i:=f) (cut:=cut) (lines:=lines) (full:=full) (w:=w) (r:=10::r) hl h1 h2 w.length (B2 _);simp only[VC,Fv] at e;rw[<-Dm] at e;rw[e];have hi:f+w.length < (L8 s).length:=by omega
    have hg:(L8 s)[f+w.length]=10:=by
     have e:(L8 s)[f+w.length]?=(w++10::r)[w.length]?:=by rw[<-h1,D4]
     rw[C6 hi,Fq (B2 _),VC] at e;injection e
    have htk:(L8 s).take (f+w.length+1)=(L8 s).take f++(w++[10]):=by
     have:f+w.length+1=f+(w.length+1):=by omega
     rw[this,List.take_add,h1,show w++10::r=(w++[10])++r by simp,List.take_left' (by simp)]
    have hB:Iw (L8 s) (f+w.length+1):=⟨by omega,.inr ⟨(L8 s).take f++w,by rw[htk,List.append_assoc]⟩⟩;have hln:Xq ((L8 s).take (f+w.length+1))=Xq ((L8 s).take f)++[w]:=by
     have hBf:Iw ((L8 s).take (f+w.length+1)) f:=⟨by rw[Ey];omega,by
      rcases hf.2 with h|⟨p,hp⟩
      .exact .inl h
      .exact .inr ⟨p,by rw[vY,vW (by omega)];exact hp⟩⟩
     rw[hBf.lines,vY,vW (by omega),htk,List.drop_left' (by rw[Ey];omega),Yru,Te h2]
    show ∃c:Nat,Iw (L8 s) c/\W5 x0 (Wh x0 m') s out cut lines full k (f:Int) ((f+w.length:Nat):Int)=_;unfold W5;have Eo:((L8 s)[f+w.length].toNat:Int)=10:=by rw[hg];rfl
    rw[Ah (by simp;omega),Ai (by simp;omega),Ah (by simp;omega),Ho hi,Ag,Eo,decide_eq_false (by simp)];have uL:E6 [w]=if w=[] then 0 else 1:=by
     unfold E6;cases w<;>rfl
    have next:∀(c2:Nat) (CP:Nat),Iw (L8 s) c2->CP=full+E6 [w]->∃c:Nat,Iw (L8 s) c/\Wh x0 m' s out (c2:Int) ((lines+1:Nat):Int) (CP:Int) k ((f+w.length+1:Nat):Int) ((f+w.length+1:Nat):Int)=gY x0 s out (c:Int) ((Xq (L8 s)).length:Int) (E6 (Xq (L8 s)):Int):=λc2 CP FA NT=>
     ih (f+w.length+1) m' c2 (lines+1) CP (by omega) hB FA (by rw[hln,BW,<-hL];rfl) (by rw[NT,hln,Ysb,<-hF]) (by omega)
    have J5:∀CP:Nat,CP=full+E6 [w]->∃c:Nat,Iw (L8 s) c/\UE x0 (Wh x0 m') s out (cut:Int) (Zl (lines:Int) 1) (CP:Int) k ((f+w.length:Nat):Int)=gY x0 s out (c:Int) ((Xq (L8 s)).length:Int) (E6 (Xq (L8 s)):Int):=λCP NT=>by
     unfold UE;rw[Z8 (by omega),Z8 (by omega)];split
     .rw[Ah (by simp;omega)]
      exact next (f+w.length+1) CP hB NT
     .exact next cut CP hc NT
    unfold L7;rw[Ai (by simp)];by_cases hw0:w=[]
    .subst hw0
     rw[Ai (by simp)];exact J5 full (by rw[uL,Ah rfl,Fv])
    .have:0 < w.length:=Cq.2 hw0
     rw[Ah (by simp;omega),show Zl (full:Int) 1=((full+1:Nat):Int) from Z8 (by omega)];exact J5 (full+1) (by rw[uL,Ai hw0])
end
theorem Yfx (x:ByteArray) (l:List ByteArray) (d:Z3):Dk (x::l) d=if L8 x=[] then Dk l d else (L8 (Iv d x).1++[10]++(Dk l (Iv d x).2).1,(Dk l (Iv d x).2).2):=rfl
theorem Xc1:∀(a b:List ByteArray) (d:Z3),Dk (a++b) d=((Dk a d).1++(Dk b (Dk a d).2).1,(Dk b (Dk a d).2).2):=by
 intro a
 induction a with
 | nil=>intro b d;rfl
 | cons x a ih=>
  intro b d;rw[Hr,Yfx,Yfx];split
  .exact ih b d
  .rw[ih];simp only[List.append_assoc]
theorem Y61:∀(vs:List ByteArray) (d:Z3) (n:Nat),EV n d->n+vs.length<=99->(∀v∈vs,v.size<=3500)->(Dk vs d).1.count 10=(vs.filter λv=>!(L8 v).isEmpty).length:=by
 intro vs
 induction vs with
 | nil=>intro d n _ _ _;rfl
 | cons v vs ih=>
  intro d n hd hn hz;have hv:=hz v BI;have hn:n+(vs.length+1)<=99:=hn;unfold Dk;by_cases h:L8 v=[]
  .rw[Ah h,List.filter_cons_of_neg (by simp[h])]
   exact ih d n hd (by omega) λu hu=>hz u (Cg _ hu)
  .obtain⟨_,_,a3,a4⟩:=vC hd (by omega) hv
   rw[Ai h,List.filter_cons_of_pos (by simp[h]),vT,vT,List.count_eq_zero.2 (λhh=>a3.2 10 hh rfl),ih _ _ a4 (by omega) λu hu=>hz u (Cg _ hu),AP];simp;omega
theorem Xcs:∀(vs:List ByteArray) (d:Z3) (n:Nat),EV n d->n+vs.length<=99->(∀v∈vs,v.size<=3500)->(Dk vs d).1.length<=100001*vs.length:=by
 intro vs
 induction vs with
 | nil=>intro d n _ _ _;exact BM _
 | cons v vs ih=>
  intro d n hd hn hz;have hv:=hz v BI;have hn:n+(vs.length+1)<=99:=hn;rw[Yfx,AP];split
  .have:=ih d n hd (by omega) λu hu=>hz u (Cg _ hu)
   omega
  .obtain⟨_,_,a3,a4⟩:=vC hd (by omega) hv
   have h1:=ih _ _ a4 (by omega) λu hu=>hz u (Cg _ hu);have h2:=a3.1;rw[Z6] at h2;simp only[BW,AP,Bf];omega
theorem Y85 (ls:List (List UInt8)):((ls.map λl=>(⟨l.toArray⟩:ByteArray)).filter λv=>!(L8 v).isEmpty).length=E6 ls:=by
 unfold E6;rw[List.filter_map,GL];rfl
theorem Y68 {x0:List Int} {s out:ByteArray} {cut full:Int} (hl:(L8 out).length < 4611686018427387904) {F:Int->Option Bool} (hF:F=λv9=>(EI s 0 cut).bind λs0=>(U9 s0).bind λr0=>(dK r0 out).bind λr1=>if r1=true then some (decide (v9=full)) else some false):
  UF x0 FU s out cut full 0 0=F ((L8 out).count 10:Nat):=by
 have key:∀(m j:Nat),j<=(L8 out).length->(L8 out).length - j < m->UF x0 m s out cut full (((L8 out).take j).count 10:Nat) (j:Int)=F ((L8 out).count 10:Nat):=by
  intro m
  induction m with
  | zero=>intro j _ h;omega
  | succ m ih=>
   intro j hj hm;have hs:=Z6 out;have hct:((L8 out).take j).count 10<=(L8 out).length:=I1 List.count_le_length (by rw[Ey];omega);show Zxf x0 (UF x0 m) s out cut full _ (j:Int)=_;unfold Zxf;by_cases hc:j < (L8 out).length
   .rw[Ah (by simp;omega),Ho hc,Ag]
    have gZ:=ih (j+1) (by omega) (by omega);rw[List.take_succ_eq_append_getElem hc,vT] at gZ;by_cases Eo:(L8 out)[j]=10
    .rw[Ah (by rw[Eo];rfl),Z8 (by omega),Z8 (by omega)]
     rw[Eo] at gZ;simpa using gZ
    .have Yj:¬decide (((L8 out)[j].toNat:Int)=10)=true:=by
      rw[Bl];intro h;have h3:(L8 out)[j].toNat=10:=by omega
      exact Eo (vX.1 (by rw[h3];rfl))
     rw[Ai Yj,Z8 (by omega)];rw[show List.count 10 [(L8 out)[j]]=0 from List.count_eq_zero.2 (by simpa using λh=>Eo h.symm),Fv] at gZ;exact gZ
   .have e:j=(L8 out).length:=by omega
    subst e;rw[Ai (by simp;omega),E9,hF]
 have:=key FU 0 (BM _) (by have:=Yx;omega);simpa using this
theorem Yvw (x:List Int) (h:x.length<=maxLen/\∀v∈x,(Lit.int .u8 v).wf=true):Ybm x=some true:=by
 unfold Ybm;rw[show Yp5 x=some (decide ((x.length:Int) > 1048576)) from rfl,Ag];by_cases hb:(x.length:Int) > 1048576
 .rw[Ah (by simpa using hb)]
 .have hl:x.length < 1048577:=by omega
  rw[Ai (by simpa using hb)];obtain⟨s,e1,hs⟩:=Y12 x hl;obtain⟨d1,d2⟩:=Yss hs;have CJ:∃a,sB x 0=some a:=by
   unfold sB;split
   .cases x with
    | nil=>rename_i hc;simp at hc
    | cons a l=>exact⟨_,rfl⟩
   .exact⟨_,rfl⟩
  obtain⟨a,ha⟩:=CJ;rw[e1,Ag,d1,d2,Ag,Ag,Ai (by simp),ha,Ag];have Gv:(L8 s).length < 1048577:=by rw[<-Z6];omega
  have b0:Iw (L8 s) 0:=⟨BM _,.inl rfl⟩;obtain⟨c,hc,e⟩:=Xcm (x0:=x) (s:=s) (out:=⟨(J7 s).toArray⟩) (k:=Zl 1 (C4 a 9)) Gv (L8 s).length 0 FU 0 0 0 (B2 _) b0 b0 rfl rfl (by have:=Yx;omega);have e:Wh x FU s ⟨(J7 s).toArray⟩ 0 0 0 (Zl 1 (C4 a 9)) 0 0=_:=e;rw[e];unfold gY;by_cases hg:3000 < s.size\/60 < (Xq (L8 s)).length
  .have hd:J7 s=[]:=Ah hg
   have hj:OQ x s ⟨(J7 s).toArray⟩ (c:Int) (E6 (Xq (L8 s)):Int) true=some true:=by
    unfold OQ;rw[Ah rfl,hd,Qx];rfl
   split
   .exact hj
   .rename_i h2
    have h3:3000 < s.size:=by
     rcases hg with hg|hg
     .exact hg
     .exact absurd (show decide (((Xq (L8 s)).length:Int) > 60)=true by simp;omega) h2
    rw[show decide ((s.size:Int) > 3000)=true by simp;omega];exact hj
  .have hd:J7 s=(Dk ((Xq (L8 s)).map λl=>⟨l.toArray⟩) Z3.z0).1:=Ai hg
   rw[Ai (by simp;omega),show decide ((s.size:Int) > 3000)=false by simp;omega];unfold OQ;rw[Ai (by simp)];have hz:∀v∈(Xq (L8 s)).map λl=>(⟨l.toArray⟩:ByteArray),v.size<=3500:=λv hv=>by
    obtain⟨w,hw,rfl⟩:=D7.1 hv;have uC:w∈Ym 10 (L8 s):=by
     unfold Xq at hw;split at hw
     .exact (Ven _).subset hw
     .exact hw
    have:=Yb0 uC;rw[<-Z6] at this;rw[Z6,Xr];omega
   have Xft:(J7 s).count 10=E6 (Xq (L8 s)):=by
    rw[hd,Y61 _ _ 0 vE (by rw[GL];omega) hz,Y85]
   have hbig:(J7 s).length < 4611686018427387904:=by
    have:=Xcs _ _ 0 vE (by rw[GL];omega) hz;rw[<-hd,GL] at this;omega
   rw[Y68 (by rw[Xr];exact hbig) rfl,Xr,Xft];obtain⟨y,y1,y2⟩:=N1 (x:=s) (a:=0) (b:=c) (BM _) hc.1;have y1:EI s 0 (c:Int)=some y:=y1;rw[I0,iQ] at y2;have Oq:y.size<=s.size:=by rw[Z6,y2,Ey,Z6];omega
   have HY:∃b,Xq (L8 s)=Xq (L8 y)++b:=⟨_,by rw[y2];exact hc.lines⟩;obtain⟨b,DT⟩:=HY;have gM:J7 y=(Dk ((Xq (L8 y)).map λl=>⟨l.toArray⟩) Z3.z0).1:=Ai (by
    have:=congrArg List.length DT;rw[BW] at this;omega)
   have hap:J7 s=J7 y++(Dk (b.map λl=>⟨l.toArray⟩) (Dk ((Xq (L8 y)).map λl=>⟨l.toArray⟩) Z3.z0).2).1:=by
    rw[hd,DT,Gt,Xc1,gM]
   rw[y1,Ag,(Yss (x:=y) (by omega)).2,Ag];have hbeg:dK ⟨(J7 y).toArray⟩ ⟨(J7 s).toArray⟩=some true:=by
    have DX:(⟨(J7 y).toArray⟩:ByteArray).size=(J7 y).length:=by rw[Z6,Xr]
    have OS:(⟨(J7 s).toArray⟩:ByteArray).size=(J7 s).length:=by rw[Z6,Xr]
    have hle:(J7 y).length<=(J7 s).length:=by rw[hap,BW];omega
    unfold dK;rw[DX,OS,Ah (by simp;omega)];obtain⟨z,z1,z2⟩:=N1 (x:=⟨(J7 s).toArray⟩) (a:=0) (b:=(J7 y).length) (BM _) hle;have z1:EI ⟨(J7 s).toArray⟩ 0 ((J7 y).length:Int)=some z:=z1;rw[z1,Ag,Qx,z2,Xr,Xr,I0,iQ,hap,List.take_left,decide_eq_true rfl]
   rw[hbeg,Ag,Ah rfl];simp
end Go.Proofs.YthdljdelfgofdaaGreatDoor.Ev
