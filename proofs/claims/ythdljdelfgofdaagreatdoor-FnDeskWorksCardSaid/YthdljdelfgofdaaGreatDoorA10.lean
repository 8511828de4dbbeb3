/- A part of the proof of FnDeskWorks: see the text YthdljdelfgofdaaGreatDoorLawFnDeskWorks for what is proved and its conditions. Conditions here: those in each line. -/
import Derived.Test.YthdljdelfgofdaaGreatDoorA9
import Derived.Lib.AtoiAllCases
import Derived.Lib.IndexBytes
import Derived.Lib.IndexLaws
import Derived.Lib.SplitLaws
set_option linter.unusedSimpArgs false
set_option linter.unusedVariables false
set_option linter.unusedSectionVars false
namespace Go.Proofs.YthdljdelfgofdaaGreatDoor.Ev
open Go Go.Proofs
theorem Yic {x:ByteArray} {c:Zi} (h:fF x c) (hx:x.size<=1048576):L3 x=some (c,true):=by
 obtain⟨hg,ht⟩:=h;have hS:=fE hg;obtain⟨hq,hw,hr,hs,hk,hn,hm⟩:=hS;obtain⟨ws,h1,h2⟩:=KA (x:=x) 32 (by omega);have hc:ws.map L8=ET c:=by rw[h2,Ykq ht]
 have Yo:ws.length=5+c.Ab.length:=by
  have:=congrArg List.length hc;simp[ET,Kx] at this;omega
 have s0:Yt ws 0 5=some ((ws.drop 0).take 5):=Qi (a:=0) (b:=5) (by omega) (by omega);have s1:Yt ws 5 (ws.length:Int)=some ((ws.drop 5).take (ws.length - 5)):=Qi (a:=5) (by omega) (B2 _);have hh:((ws.drop 0).take 5)=(Kx c).map Zy:=by
  refine Yol ?_;rw[LV,List.map_take,hc];unfold ET;rw[Vdv (by simp[Kx]),D6 (by simp[Kx])]
 have ht5:(ws.drop 5).take (ws.length - 5)=ws.drop 5:=D6 (by simp);unfold L3;rw[h1,Ag,Ak (by simp;omega),show decide ((ws.length:Int) > 9)=false by simp;omega];unfold TX;rw[Ak (by simp),s0,Ag,hh,UX (by simp[Kx]) (by
  intro v hv;unfold Kx at hv;simp only[Ce,Ip,or_false] at hv;rcases hv with rfl|rfl|rfl|rfl|rfl<;>omega),Ag,Ak (by simp),s1]
 have i0:idx (Kx c) 0=some c.Aw:=rfl;have i1:idx (Kx c) 1=some c.Au:=rfl;have i2:idx (Kx c) 2=some c.Ao:=rfl;have i3:idx (Kx c) 3=some c.Ar:=rfl;have i4:idx (Kx c) 4=some c.Am:=rfl;simp only[i0,i1,i2,i3,i4,Ag,ht5];have hd:(ws.drop 5).length=c.Ab.length:=by simp;omega
 rw[hd];have:=K8 (σ:=Zi) (n:=c.Ab.length) (by omega) (λk=>({c with Ab:=c.Ab.take k}:Zi)) (B:=λκ st j=>Kp x (λa b d e=>κ a e) st (ws.drop 5) (c.Ab.length:Int) j) (L:=λm st j=>Qt x m st (ws.drop 5) (c.Ab.length:Int) j) (r:=some (c,true)) (λm s i=>?_) (λk W9 κ=>?_) λκ=>?_
 .exact this
 .show Kp x (Qt x m) s (ws.drop 5) (c.Ab.length:Int) i=Kp x (λa b d e=>Qt x m a (ws.drop 5) (c.Ab.length:Int) e) s (ws.drop 5) (c.Ab.length:Int) i
  unfold Kp RC RB;rfl
 .obtain⟨tO,hww⟩:=Y0j hc W9
  have GP:k < (ws.drop 5).length:=by omega
  have Yc:(ws.drop 5)[k]=ws[5+k]:=by rw[List.getElem_drop]
  obtain⟨ps,p1,p2⟩:=KA (x:=ws[5+k]) 58 (by have:ws[5+k].size<=x.size:=Je h2 (B5 tO);omega);rw[hww,Yr3] at p2;have p3:=Yol p2;obtain⟨⟨m1,m2⟩,⟨m3,m4⟩,⟨m5,m6⟩,m7⟩:=hm _ (B5 W9);have hbn:∀v∈Ig c.Ab[k],-1000000000000000000 < v/\v < 1000000000000000000:=by
   intro v hv;unfold Ig at hv;split at hv
   .simp only[Ce,Ip,or_false] at hv
    rcases hv with rfl|rfl|rfl<;>omega
   .simp only[Ce,Ip,or_false] at hv
    subst hv;omega
  have Mk:(Ig c.Ab[k]).length<=3:=by unfold Ig;split<;>simp
  unfold Kp;rw[Aj (by simpa using W9),Zx GP,Ag,Yc,p1,Ag,p3,UX (by omega) hbn,Ag,Aj rfl];have ha:Yz 32 (c.Ab.take k) [c.Ab[k]]=some (c.Ab.take (k+1)):=by
   rw[Yp (by simp;omega) (by simp;omega),List.take_succ_eq_append_getElem W9]
  unfold RC RB;by_cases hp:c.Ab[k].prio=true
  .have e:Ig c.Ab[k]=[c.Ab[k].weight,c.Ab[k].every,c.Ab[k].cap]:=by unfold Ig;rw[Aj hp]
   have j0:idx [c.Ab[k].weight,c.Ab[k].every,c.Ab[k].cap] 0=some c.Ab[k].weight:=rfl;have j1:idx [c.Ab[k].weight,c.Ab[k].every,c.Ab[k].cap] 1=some c.Ab[k].every:=rfl;have j2:idx [c.Ab[k].weight,c.Ab[k].every,c.Ab[k].cap] 2=some c.Ab[k].cap:=rfl;simp only[e,j0,j1,j2,Ag,AU,Bo,OX hp,ha];rfl
  .have fH:c.Ab[k].prio=false:=by simpa using hp
   have e:Ig c.Ab[k]=[c.Ab[k].weight]:=by unfold Ig;rw[Ak hp]
   have j0:idx [c.Ab[k].weight] 0=some c.Ab[k].weight:=rfl;simp only[e,j0,Ag,AU,Bo,Y6p fH (m7 fH),ha];rfl
 .unfold Kp
  rw[Ak (by simp),Yp1 (D6 (B2 _))];obtain⟨r,e1,_,e3⟩:=Z7f (x:=x) (c:=c) (by omega);rw[e1,e3 ⟨hg,ht⟩]
theorem Yqh {x:ByteArray} (hx:x.size<=1048576):∃r,Ly x=some r/\L3 x=some r/\Ie x r:=by
 obtain⟨r,h1,h2⟩:=Yis hx;obtain⟨q,h3,h4⟩:=Yig hx;refine⟨r,h1,?_,h2⟩;rcases h2 with rfl|⟨hr,hc⟩
 .rcases h4 with rfl|⟨hq,hd⟩
  .exact h3
  .rw[Yi3 hd hx] at h1
   injection h1 with h1;injection h1 with _ h1;cases h1
 .rw[Yic hc hx]
  obtain⟨r1,r2⟩:=r;simp only at hr;rw[hr]
def Qf (v:Int):Prop:=-1000000000000000000 < v/\v < 1000000000000000000
theorem Qf.r {v:Int} (h:Qf v):Bz v:=⟨by have:=h.1;omega,by have:=h.2;omega⟩
theorem Z2a {l:List UInt8} (hl:l.length<=18):l.foldl Et 0 < 1000000000000000000:=by
 have:=Yuy l 0 0 (by simp);have h2:10^(0+l.length)<=10^18:=Vn (by omega) (by omega);omega
def OZ (l:List UInt8):Bool:=l.all λc=>decide (Qx c)
theorem Ytj {l:List UInt8} (h:∀c∈l,Qx c):OZ l=true:=by
 unfold OZ;rw[Cd];exactλc hc=>decide_eq_true (h c hc)
theorem dgW2 {c:UInt8} (h:Qx c) {n:Int} (h0:0<=n) (h1:n < 100000000000000000):Xf (Zn (Qo n 10) (MF (c.toNat:Int))) 48=n*10+((c.toNat - 48:Nat):Int):=by
 unfold Qx at h;have e:MF (c.toNat:Int)=(c.toNat:Int):=zC (by omega) (by omega);have h:48<=(c.toNat:Int)/\(c.toNat:Int)<=57:=by omega
 rw[e,Jt (by omega) (by omega),Yj (by omega) (by omega),Xc (by omega) (by omega)];omega
theorem Z9d (x0 w:ByteArray) (sg:Int) (hw:(L8 w).length<=18):∀(m i n:Nat),i<=(L8 w).length->(L8 w).length - i < m->n < 10^i->
  R6 x0 m w sg (n:Int) (i:Int)=some (if OZ ((L8 w).drop i)=true then Qo sg (((L8 w).drop i).foldl Et n:Nat) else 0):=by
 have Ww:=Z5 w;intro m
 induction m with
 | zero=>intro i n _ h;omega
 | succ m ih=>
  intro i n hi hm hn;show aM x0 (R6 x0 m) w sg (n:Int) (i:Int)=_;unfold aM;by_cases hc:i < (L8 w).length
  .have hb:10^i<=10^17:=Vn (by omega) (by omega)
   rw[Aj (decide_eq_true (by omega)),KB hc,Ag,D5 hc];have bad:∀b:Bool,b=true->¬Qx (L8 w)[i]->R5 x0 (R6 x0 m) w sg (n:Int) (i:Int) b=some (if OZ ((L8 w)[i]::(L8 w).drop (i+1))=true then Qo sg (((L8 w)[i]::(L8 w).drop (i+1)).foldl Et n:Nat) else 0):=λb hb hd=>by
    unfold R5;rw[Aj hb,Ak (by unfold OZ;rw[DW,decide_eq_false hd];simp)]
   by_cases h1:(L8 w)[i].toNat < 48
   .rw[Aj (decide_eq_true (by omega))]
    exact bad true rfl (by unfold Qx;omega)
   .rw[Ak (by rw[Bj];omega)]
    by_cases h2:(L8 w)[i].toNat > 57
    .rw[Aj (decide_eq_true (by omega))]
     exact bad true rfl (by unfold Qx;omega)
    .have hd:Qx (L8 w)[i]:=by unfold Qx;omega
     rw[Ak (by rw[Bj];omega),show decide ((w.size:Int) > 18)=false from decide_eq_false (by omega)];unfold R5;rw[Ak (by simp),KB hc,Ag,dgW2 hd (by omega) (by omega),Ye (by omega)];have e:(n:Int)*10+(((L8 w)[i].toNat - 48:Nat):Int)=((Et n (L8 w)[i]:Nat):Int):=by
      unfold Et;rw[Aj hd];omega
     have Z7:Et n (L8 w)[i] < 10^(i+1):=by
      unfold Et;rw[Aj hd,Tf];unfold Qx at hd;omega
     rw[e,ih (i+1) _ (by omega) (by omega) Z7]
     congr 1
     have e2:OZ ((L8 w)[i]::(L8 w).drop (i+1))=OZ ((L8 w).drop (i+1)):=by unfold OZ;rw[DW,decide_eq_true hd,Hd]
     rw[e2,HG]
  .rw[Ak (by rw[Bj];omega),EZ (by omega)]
   rfl
theorem Yth (x0 w:ByteArray) (sg:Int) (hs:sg=1\/sg=-1):∃n,TQ x0 w sg=some n/\Qf n:=by
 unfold TQ;by_cases hl:(L8 w).length<=18
 .have:=Z9d x0 w sg hl FU 0 0 (Cf _) (by have:=Y5;omega) (by simp)
  refine⟨_,this,?_⟩;have hb:=Z2a (l:=(L8 w).drop 0) (by simpa using hl);split
  .rcases hs with rfl|rfl
   .rw[Jt (by omega) (by omega)];constructor<;>omega
   .rw[Jt (by omega) (by omega)];constructor<;>omega
  .constructor<;>omega
 .refine⟨0,?_,by constructor<;>omega⟩
  have Ww:=Z5 w;show aM x0 (R6 x0 18446744073709551615) w sg 0 0=some 0;unfold aM;rw[Aj (decide_eq_true (by omega)),show (0:Int)=((0:Nat):Int) from rfl,KB (by omega),Ag];have j:R5 x0 (R6 x0 18446744073709551615) w sg ((0:Nat):Int) ((0:Nat):Int) true=some 0:=rfl;split
  .exact j
  .split
   .exact j
   .rw[show decide ((w.size:Int) > 18)=true from decide_eq_true (by omega)]
    exact j
theorem Z58 (x:ByteArray):∃n,R7 x=some n/\Qf n:=by
 have Ww:=Z5 x;unfold R7;have pos:∃n,O3 x false=some n/\Qf n:=by
  unfold O3;rw[Ak (by simp)];exact Yth x x 1 (.inl rfl)
 by_cases h0:0 < (L8 x).length
 .rw[Aj (decide_eq_true (by omega)),show (0:Int)=((0:Nat):Int) from rfl,KB h0,Ag]
  cases hb:decide ((((L8 x)[0].toNat:Nat):Int)=45) with
  | false=>exact pos
  | true=>
   unfold O3;obtain⟨y,e,_⟩:=SB (x:=x) (a:=1) (b:=(L8 x).length) (by omega) (B2 _);rw[Aj rfl,show ((x.size:Nat):Int)=((L8 x).length:Int) by omega,show (1:Int)=((1:Nat):Int) from rfl,e,Ag];exact Yth x y (-1) (.inr rfl)
 .rw[Ak (by rw[Bj];omega)]
  exact pos
theorem Ycq {v:Int} (h:Qf v):R7 (Zy v)=some v:=by
 obtain⟨h1,h2⟩:=h;have Ww:=Z5 (Zy v);rw[Yh] at Ww;have ha:=tL v;have Yg:0 < (Lib.itoa v).length:=Cw.2 (Yn1 v);unfold R7;rw[Aj (decide_eq_true (by omega)),show (0:Int)=((0:Nat):Int) from rfl,KB (by rw[Yh];exact Yg),Ag];by_cases hn:v < 0
 .have e2:Lib.itoa v=45::Lib.decDigits v.natAbs:=by unfold Lib.itoa;rw[Aj hn]
  have h45:(L8 (Zy v))[0]'(by rw[Yh,e2];simp)=45:=by simp[Yh,e2]
  rw[h45];show O3 (Zy v) true=_;unfold O3;obtain⟨y,e,hy⟩:=SB (x:=Zy v) (a:=1) (b:=(Lib.itoa v).length) (by omega) (by rw[Yh];exact B2 _);have hyd:L8 y=Lib.decDigits v.natAbs:=by
   rw[hy,Yh,e2,uD,LV,D6 (by simp)]
  have hl:=UW (k:=17) (u:=v.natAbs) (by omega);have e:Hs (Zy v) 1 ((Lib.itoa v).length:Int)=some y:=e;rw[Aj rfl,show (((Zy v).size:Nat):Int)=((Lib.itoa v).length:Int) by omega,e,Ag];unfold TQ;have:=Z9d (Zy v) y (-1) (by rw[hyd];omega) FU 0 0 (Cf _) (by rw[hyd];have:=Y5;omega) (by simp);rw[show ((0:Nat):Int)=0 from rfl] at this;rw[this,LV,hyd,Aj (Ytj λc hc=>LO hc),fC,Jt (by omega) (by omega)]
  congr 1;omega
 .have e2:Lib.itoa v=Lib.decDigits v.toNat:=by unfold Lib.itoa;rw[Ak hn]
  have hl:=UW (k:=17) (u:=v.toNat) (by omega);have hd:Qx ((L8 (Zy v))[0]'(by rw[Yh];exact Yg)):=by
   refine LO (u:=v.toNat) ?_;rw[<-e2];exact B5 Yg
  rw[show decide ((((L8 (Zy v))[0]'(by rw[Yh];exact Yg)).toNat:Int)=45)=false by unfold Qx at hd;exact decide_eq_false (by omega)];unfold O3;rw[Ak (by simp)];unfold TQ;have:=Z9d (Zy v) (Zy v) 1 (by rw[Yh,e2];omega) FU 0 0 (Cf _) (by rw[Yh,e2];have:=Y5;omega) (by simp);rw[show ((0:Nat):Int)=0 from rfl] at this;rw[this,LV,Yh,Aj (Ytj λc hc=>LO (u:=v.toNat) (by rw[<-e2];exact hc)),tL,Jt (by omega) (by omega)]
  congr 1;omega
theorem Yas {ws:List ByteArray} (hl:ws.length < 1048600):∃r,TS ws=some r/\r.length=ws.length/\∀v∈r,Qf v:=by
 have key:∀(m k:Nat) (out:List Int),k<=ws.length->ws.length - k < m->out.length=k->(∀v∈out,Qf v)->∃r,aN ws m out (k:Int)=some r/\r.length=ws.length/\∀v∈r,Qf v:=by
  intro m
  induction m with
  | zero=>intro k out _ h;omega
  | succ m ih=>
   intro k out hk hm ho hv;show ∃r,TR ws (aN ws m) out (k:Int)=some r/\_;unfold TR;by_cases hc:k < ws.length
   .obtain⟨n,h1,h2⟩:=Z58 ws[k]
    rw[Aj (by simpa using hc),Zx hc,Ag,h1,Ag,Yp (by simp;omega) (by simp;omega),Ag,Ye (by omega)];refine ih (k+1) _ (by omega) (by omega) (by simp;omega) λv CW=>?_;rcases BU.1 CW with CW|CW
    .exact hv v CW
    .rw[List.mem_singleton.1 CW];exact h2
   .rw[Ak (by simpa using hc)]
    exact⟨_,rfl,by omega,hv⟩
 exact key FU 0 [] (Cf _) (by have:=Y5;omega) rfl (by simp)
theorem Z6f {l:List Int} (hl:l.length < 1048600) (h:∀v∈l,Qf v):TS (l.map Zy)=some l:=by
 unfold TS;refine K8 (σ:=List Int) (n:=l.length) (by omega) (λk=>l.take k) (B:=λκ st j=>TR (l.map Zy) κ st j) (L:=λm st j=>aN (l.map Zy) m st j) (λm s i=>rfl) (λk hk κ=>?_) λκ=>?_
 .unfold TR
  rw[Aj (by simpa using hk),Zx (by simpa using hk),Ag,gR,Ycq (h _ (B5 hk)),Ag,Yp (by simp;omega) (by simp;omega),Ag,List.take_succ_eq_append_getElem hk]
 .unfold TR
  rw[Ak (by simp),Fb]
theorem Z71 {x:ByteArray} (h:x.size<=281474976710656):∃r,Lz x 18=some r/\Qf r.1:=by
 obtain⟨r,h1,_⟩:=Yb9 (d:=18) h;refine⟨r,h1,?_⟩;unfold Lz at h1;rw[Aj h] at h1;have z:Qf 0:=by constructor<;>omega
 split at h1
 .rename_i v hv
  split at h1
  .rename_i hc
   injection h1 with h1;rw[<-h1];show Qf v;have hf:=tL v;have hl:=hc.2;rw[<-hc.1] at hl;unfold Lib.trimPrefix at hl;by_cases hn:v < 0
   .have e2:Lib.itoa v=45::Lib.decDigits v.natAbs:=by unfold Lib.itoa;rw[Aj hn]
    rw[e2,Aj (by simp[Lib.hasPrefix,List.isPrefixOf])] at hl;have hb:=Z2a (l:=Lib.decDigits v.natAbs) (by simp at hl;omega);rw[fC] at hb;constructor<;>omega
   .have e2:Lib.itoa v=Lib.decDigits v.toNat:=by unfold Lib.itoa;rw[Ak hn]
    have hnp:Lib.hasPrefix (Lib.itoa v) [45]=false:=by
     rw[e2];cases hd:Lib.decDigits v.toNat with
     | nil=>rfl
     | cons c l=>
      have:=LO (u:=v.toNat) (c:=c) (by rw[hd];exact BJ);unfold Qx at this;have e:(45:UInt8).toNat=45:=rfl;have Yg:¬(45:UInt8)=c:=by rintro rfl;omega
      simp[Lib.hasPrefix,List.isPrefixOf,Yg]
    rw[Ak (by rw[hnp];simp),e2] at hl;have hb:=Z2a (l:=Lib.decDigits v.toNat) (by omega);rw[fC] at hb;constructor<;>omega
  .injection h1 with h1;rw[<-h1];exact z
 .injection h1 with h1;rw[<-h1];exact z
theorem Zvo {ws:List ByteArray} (hl:ws.length < 1048600) (hz:∀w∈ws,w.size<=281474976710656):∃r,L0 ws=some r/\(∀v∈r.1,Qf v)/\r.1.length<=ws.length/\(r.2=true->r.1.length=ws.length):=by
 have key:∀(m k:Nat) (out:List Int),k<=ws.length->ws.length - k < m->out.length=k->(∀v∈out,Qf v)->∃r,O5 ws m out (k:Int)=some r/\(∀v∈r.1,Qf v)/\r.1.length<=ws.length/\(r.2=true->r.1.length=ws.length):=by
  intro m
  induction m with
  | zero=>intro k out _ h;omega
  | succ m ih=>
   intro k out hk hm ho hv;show ∃r,O4 ws (O5 ws m) out (k:Int)=some r/\_;unfold O4;by_cases hc:k < ws.length
   .obtain⟨r,h1,h2⟩:=Z71 (hz _ (B5 hc))
    rw[Aj (by simpa using hc),Zx hc,Ag,h1,Ag];by_cases hr:r.2=true
    .rw[Ak (by simp[hr]),Yp (by simp;omega) (by simp;omega),Ag,Ye (by omega)]
     refine ih (k+1) _ (by omega) (by omega) (by simp;omega) λv CW=>?_;rcases BU.1 CW with CW|CW
     .exact hv v CW
     .rw[List.mem_singleton.1 CW];exact h2
    .rw[Aj (by simp[hr])]
     exact⟨_,rfl,by simp,by simp,λh=>by cases h⟩
   .rw[Ak (by simpa using hc)]
    exact⟨_,rfl,hv,by show out.length<=_;omega,λ_=>by show out.length=_;omega⟩
 exact key FU 0 [] (Cf _) (by have:=Y5;omega) rfl (by simp)
theorem Yd8 (xs:List ByteArray) (y:ByteArray) (hl:xs.length < 1000):∃n,MJ xs y=some n:=by
 have key:∀(m k:Nat),k<=xs.length->xs.length - k < m->∃n,Rq xs y m (k:Int)=some n:=by
  intro m
  induction m with
  | zero=>intro k _ h;omega
  | succ m ih=>
   intro k hk hm;show ∃n,Ou xs y (Rq xs y m) (k:Int)=some n;unfold Ou;by_cases hc:k < xs.length
   .rw[Aj (by simpa using hc),Zx hc,Ag,Ye (by omega)]
    split
    .exact⟨_,rfl⟩
    .exact ih (k+1) (by omega) (by omega)
   .rw[Ak (by simpa using hc)];exact⟨_,rfl⟩
 exact key FU 0 (Cf _) (by have:=Y5;omega)
theorem Yhd (xs:List ByteArray) (y:ByteArray) (hl:xs.length < 1000):∃n,X3 xs y=some n:=by
 have key:∀(m k:Nat),k<=xs.length->xs.length - k < m->∃n,Ws xs y m (k:Int)=some n:=by
  intro m
  induction m with
  | zero=>intro k _ h;omega
  | succ m ih=>
   intro k hk hm;show ∃n,Wk xs y (Ws xs y m) (k:Int)=some n;unfold Wk;by_cases hc:k < xs.length
   .rw[Aj (by simpa using hc),Zx hc,Ag,Ye (by omega)]
    split
    .exact⟨_,rfl⟩
    .exact ih (k+1) (by omega) (by omega)
   .rw[Ak (by simpa using hc)];exact⟨_,rfl⟩
 exact key FU 0 (Cf _) (by have:=Y5;omega)
theorem SD (xs:List ByteArray) (j:Nat) (hj:j < xs.length) (hl:xs.length < 1000) (hn:∀i (hi:i < j),L8 (xs[i]'(by omega))≠L8 xs[j]):MJ xs xs[j]=some (j:Int):=by
 unfold MJ;refine Yst (n:=j) (by omega) (B:=λκ i=>Ou xs xs[j] κ i) (L:=λm i=>Rq xs xs[j] m i) (λm i=>rfl) (λk hk κ=>?_) λκ=>?_
 .unfold Ou
  rw[Aj (by simp;omega),Zx (by omega),Ag,Ak (by rw[Wt];simpa using hn k hk)]
 .unfold Ou
  rw[Aj (by simpa using hj),Zx hj,Ag,Aj (beq_self_eq_true _)]
theorem SE (xs:List ByteArray) (j:Nat) (hj:j < xs.length) (hl:xs.length < 1000) (hn:∀i (hi:i < j),L8 (xs[i]'(by omega))≠L8 xs[j]):X3 xs xs[j]=some (j:Int):=by
 unfold X3;refine Yst (n:=j) (by omega) (B:=λκ i=>Wk xs xs[j] κ i) (L:=λm i=>Ws xs xs[j] m i) (λm i=>rfl) (λk hk κ=>?_) λκ=>?_
 .unfold Wk
  rw[Aj (by simp;omega),Zx (by omega),Ag,Ak (by rw[Wt];simpa using λh=>hn k hk h.symm)]
 .unfold Wk
  rw[Aj (by simpa using hj),Zx hj,Ag,Aj (beq_self_eq_true _)]
abbrev Eg:List ByteArray:=[Zc [98,121,116,101],Zc [104,97,108,102],Zc [119,111,114,100]]
abbrev Q3:List ByteArray:=[Zc [111,110,101],Zc [102,111,117,114],Zc [119,114,97,112],Zc [101,105,103,104,116]]
theorem fI {r:Zj} (h:W6 r=true):(r.size=0\/r.size=1\/r.size=2)/\(r.Ay=0\/r.Ay=1\/r.Ay=2\/r.Ay=3)/\(0<=r.addr/\r.addr < 512)/\∀v∈r.Aa,0<=v/\v < 4294967296:=by
 obtain⟨hb,_,hd⟩:=JQ h;have hl:=ON hb;have h2:r.Ay=0\/r.Ay=1\/r.Ay=2\/r.Ay=3:=by
  have:=hl.2;unfold Xy at this
  repeat' split at this
  all_goals omega
 have ha:r.addr∈Kl r.addr r.size r.Ay:=by
  have Yg:Kl r.addr r.size r.Ay≠[]:=λe=>by rw[e] at hl;simp at hl;omega
  unfold Kl at Yg ⊢;cases hq:EB r.size r.Ay (Xy r.Ay).toNat r.addr with
  | none=>rw[hq] at Yg;simp at Yg
  | some l=>
   have:=(Yb5 hq).2.2 (by omega);simp only[Ga];cases l with
   | nil=>simp at this
   | cons a l=>simp at this;subst this;exact BJ
 obtain⟨h3,h4⟩:=dL ha;have h1:r.size=0\/r.size=1\/r.size=2:=by
  have:=(Jq h3).1;unfold Y2 at this
  repeat' split at this
  all_goals omega
 refine⟨h1,h2,h4,λv hv=>?_⟩;have:=hd v hv;simp only[Y8,Bj] at this;have:=UA r.size;omega
theorem Ypc {r:Zj} (h:W6 r=true):MJ Eg (Ep r.size)=some r.size/\X3 Eg (Ep r.size)=some r.size:=by
 rcases (fI h).1 with e|e|e<;>rw[e]
 .exact⟨SD Eg 0 (by decide) (by decide) (λi hi=>by omega),SE Eg 0 (by decide) (by decide) (λi hi=>by omega)⟩
 .have hn:∀i (hi:i < 1),L8 (Eg[i]'(by show i < 3;omega))≠L8 (Eg[1]'(by decide)):=λi hi=>by
   obtain rfl:i=0:=by omega
   simp[Zz]
  exact⟨SD Eg 1 (by decide) (by decide) hn,SE Eg 1 (by decide) (by decide) hn⟩
 .have hn:∀i (hi:i < 2),L8 (Eg[i]'(by show i < 3;omega))≠L8 (Eg[2]'(by decide)):=λi hi=>by
   obtain rfl|rfl:i=0\/i=1:=by omega
   .simp[Zz]
   .simp[Zz]
  exact⟨SD Eg 2 (by decide) (by decide) hn,SE Eg 2 (by decide) (by decide) hn⟩
theorem Yks {r:Zj} (h:W6 r=true):MJ Q3 (Er r.Ay)=some r.Ay/\X3 Q3 (Er r.Ay)=some r.Ay:=by
 rcases (fI h).2.1 with e|e|e|e<;>rw[e]
 .exact⟨SD Q3 0 (by decide) (by decide) (λi hi=>by omega),SE Q3 0 (by decide) (by decide) (λi hi=>by omega)⟩
 .have hn:∀i (hi:i < 1),L8 (Q3[i]'(by show i < 4;omega))≠L8 (Q3[1]'(by decide)):=λi hi=>by
   obtain rfl:i=0:=by omega
   simp[Zz]
  exact⟨SD Q3 1 (by decide) (by decide) hn,SE Q3 1 (by decide) (by decide) hn⟩
 .have hn:∀i (hi:i < 2),L8 (Q3[i]'(by show i < 4;omega))≠L8 (Q3[2]'(by decide)):=λi hi=>by
   obtain rfl|rfl:i=0\/i=1:=by omega
   .simp[Zz]
   .simp[Zz]
  exact⟨SD Q3 2 (by decide) (by decide) hn,SE Q3 2 (by decide) (by decide) hn⟩
 .have hn:∀i (hi:i < 3),L8 (Q3[i]'(by show i < 4;omega))≠L8 (Q3[3]'(by decide)):=λi hi=>by
   obtain rfl|rfl|rfl:i=0\/i=1\/i=2:=by omega
   .simp[Zz]
   .simp[Zz]
   .simp[Zz]
  exact⟨SD Q3 3 (by decide) (by decide) hn,SE Q3 3 (by decide) (by decide) hn⟩
def Ii (r:Zj):List (List UInt8):=[DJ r.write,L8 (Ep r.size),L8 (Er r.Ay),Lib.itoa r.addr]++((if r.lock=true then [[108,111,99,107]] else [])++r.Aa.map Lib.itoa)
theorem Ycb (r:Zj):Km r=Lib.join (Ii r) [32]:=by
 unfold Km Ii Ic Wi;simp only[Io,KJ];rw[Lib.join_cons];unfold Lib.joinTail;cases r.lock<;>simp[Vs,Hg,Po]
theorem Yr4 (l:ByteArray) (h:l∈Eg\/l∈Q3):∀y∈L8 l,y≠32/\y≠10:=by
 have h:l∈Eg++Q3:=BU.2 h;simp only[Eg,Q3,Io,KJ,Ce,Ip,or_false] at h;rcases h with rfl|rfl|rfl|rfl|rfl|rfl|rfl<;>decide
theorem Y68 (s:Int):Ep s∈Eg:=by
                           unfold Ep;repeat' split
                           all_goals simp[Eg]
theorem Y3i (s:Int):Er s∈Q3:=by
                            unfold Er;repeat' split
                            all_goals simp[Q3]
theorem Y7b (b:Bool):∀y∈DJ b,y≠32/\y≠10:=by cases b<;>decide
theorem Yov {r:Zj}:∀w∈Ii r,∀y∈w,y≠32/\y≠10:=by
 intro w hw y hy;have hi:∀v:Int,y∈Lib.itoa v->y≠32/\y≠10:=λv h=>⟨KC h (.inl rfl),KC h (.inr (.inr rfl))⟩;unfold Ii at hw;rcases BU.1 hw with hw|hw
 .simp only[Ce,Ip,or_false] at hw
  rcases hw with rfl|rfl|rfl|rfl
  .exact Y7b _ y hy
  .exact Yr4 _ (.inl (Y68 _)) y hy
  .exact Yr4 _ (.inr (Y3i _)) y hy
  .exact hi _ hy
 .rcases BU.1 hw with hw|hw
  .split at hw
   .rw[List.mem_singleton.1 hw] at hy
    have:∀y∈([108,111,99,107]:List UInt8),y≠32/\y≠10:=by decide
    exact this y hy
   .simp at hw
  .obtain⟨v,_,rfl⟩:=Dx.1 hw
   exact hi _ hy
theorem Ypx {x:ByteArray} {r:Zj} (h:L8 x=Km r):Y9 32 (L8 x)=Ii r:=by
 rw[h,Ycb,tK (by simp[Ii]) λw hw y hy=>(Yov w hw y hy).1]
def fJ (x:ByteArray) (r:Zj):Prop:=W6 r=true/\L8 x=Km r
def Nv (x:ByteArray) (q:Zj×Bool):Prop:=q=(Zj.z0,false)\/(q.2=true/\fJ x q.1)
theorem Yaw {x:ByteArray} {r:Zj} (hx:L8 x≠[]) (hs:r.sm) (hn:r.B7):∃q,((aP r).bind λr1=>if (!(r1.toList == x.toList))=true then some (Zj.z0,false) else some (r,true))=some q/\Nv x q/\(fJ x r->q=(r,true)):=by
 rw[Yb0 hs hn,Ag];by_cases h:W6 r=true
 .rw[Aj h,Wt,Xp (Km r)]
  by_cases he:Km r=L8 x
  .rw[Ak (by simp[he])]
   exact⟨_,rfl,.inr ⟨rfl,h,he.symm⟩,λ_=>rfl⟩
  .rw[Aj (by simp[he])]
   exact⟨_,rfl,.inl rfl,λhh=>absurd hh.2.symm he⟩
 .rw[Ak h,Wt,FP,decide_eq_false (λe=>hx e.symm),Aj (by simp)]
  exact⟨_,rfl,.inl rfl,λhh=>absurd hh.1 h⟩
theorem Ya2 {x:ByteArray} {r:Zj} (hs:r.sm) (hn:r.B7):∃q,((O6 r).bind λr2=>if (!r2)=true then some (Zj.z0,false) else ((Ua r).bind λr3=>if (!(r3.toList == x.toList))=true then some (Zj.z0,false) else some (r,true)))=some q/\Nv x q/\(fJ x r->q=(r,true)):=by
 rw[sK r hs,Ybh hs hn,Ag,Ag];by_cases h:W6 r=true
 .rw[Ak (by simp[h]),Aj h,Wt,Xp (Km r)]
  by_cases he:Km r=L8 x
  .rw[Ak (by simp[he])]
   exact⟨_,rfl,.inr ⟨rfl,h,he.symm⟩,λ_=>rfl⟩
  .rw[Aj (by simp[he])]
   exact⟨_,rfl,.inl rfl,λhh=>absurd hh.2.symm he⟩
 .rw[Aj (by simp[h])]
  exact⟨_,rfl,.inl rfl,λhh=>absurd hh.1 h⟩
theorem Z7u {x:ByteArray} (hx:L8 x≠[]) {ws:List ByteArray} (hw:ws.length < 1048577) {r:Zj} (hr:Bz r.addr) (hd:r.Aa=[]):∃q,J0 x FU r ws 0=some q/\Nv x q:=by
 have key:∀(m k:Nat) (d:List Int),k<=ws.length->ws.length - k < m->d.length=k->(∀v∈d,Bz v)->∃q,J0 x m {r with Aa:=d} ws (k:Int)=some q/\Nv x q:=by
  intro m
  induction m with
  | zero=>intro k d _ h;omega
  | succ m ih=>
   intro k d hk hm ho hv;show ∃q,Jh x (J0 x m) {r with Aa:=d} ws (k:Int)=some q/\_;unfold Jh;by_cases hc:k < ws.length
   .obtain⟨n,h1,h2⟩:=Z58 ws[k]
    rw[Aj (by simpa using hc),Zx hc,Ag,h1,Ag,Yp (by simp;omega) (by simp;omega),Ag,Ye (by omega)];refine ih (k+1) _ (by omega) (by omega) (by simp;omega) λv CW=>?_;rcases BU.1 CW with CW|CW
    .exact hv v CW
    .rw[List.mem_singleton.1 CW];exact h2.r
   .rw[Ak (by simpa using hc)]
    obtain⟨q,e1,e2,_⟩:=Yaw (x:=x) (r:={r with Aa:=d}) hx (by unfold Zj.sm;show d.length < _;omega) ⟨hr,hv⟩;exact⟨q,e1,e2⟩
 have:=key FU 0 [] (Cf _) (by have:=Y5;omega) rfl (by simp);have e:({r with Aa:=[]}:Zj)=r:=by cases r;simp at hd;simp[hd]
 rw[e] at this;exact this
theorem Z7h {x:ByteArray} {c:UInt8} {ws:List ByteArray} (h:ws.map L8=Y9 c (L8 x)) (h2:2<=ws.length):L8 x≠[]:=λe=>by
 rw[e] at h;have:=congrArg List.length h;simp[Y9] at this;omega
theorem Ymj {x:ByteArray} (hx:x.size<=1048576):∃q,aR x=some q/\Nv x q:=by
 obtain⟨ws,h1,h2⟩:=HA (x:=x) 32 (by omega);have h1:Wy x 32=some ws:=h1;have Yo:=Ih h2;unfold aR;rw[h1,Ag];by_cases hl:ws.length < 4
 .rw[Aj (by simp;omega)]
  exact⟨_,rfl,.inl rfl⟩
 .have Yg:=Z7h h2 (by omega)
  obtain⟨q3,e3⟩:=Yd8 Eg ws[1] (by decide);obtain⟨q4,e4⟩:=Yd8 Q3 ws[2] (by decide);obtain⟨q5,e5,b5⟩:=Z58 ws[3];have i0:idx ws 0=some ws[0]:=Zx (k:=0) (by omega);have i1:idx ws 1=some ws[1]:=Zx (k:=1) (by omega);have i2:idx ws 2=some ws[2]:=Zx (k:=2) (by omega);have i3:idx ws 3=some ws[3]:=Zx (k:=3) (by omega);have s4:Yt ws 4 (ws.length:Int)=some ((ws.drop 4).take (ws.length - 4)):=Qi (a:=4) (by omega) (B2 _);rw[Ak (by simp;omega),i0,Ag,i1,Ag,e3,Ag,i2,Ag,e4,Ag,i3,Ag,e5,Ag,s4,Ag];generalize hv:(ws.drop 4).take (ws.length - 4)=vs;have I6:vs.length < 1048577:=by rw[<-hv];simp;omega
  have j2:∀(b:Bool),(b=true->1<=vs.length)->∃q,R8 x (Zj.mk (ws[0].toList == (Zc [119,114,105,116,101]).toList) q5 q3 q4 false []) vs b=some q/\Nv x q:=λb hb=>by
   unfold R8 aQ;split
   .rename_i Jm
    have s1:Yt vs 1 (vs.length:Int)=some ((vs.drop 1).take (vs.length - 1)):=Qi (a:=1) (hb Jm) (B2 _);rw[s1,Ag];exact Z7u Yg (by simp;omega) (by exact b5.r) rfl
   .exact Z7u Yg I6 (by exact b5.r) rfl
  by_cases h0:0 < vs.length
  .have i0:idx vs 0=some vs[0]:=Zx (k:=0) h0
   rw[Aj (by simpa using h0),i0,Ag];exact j2 _ λ_=>h0
  .rw[Ak (by simpa using h0)]
   exact j2 false λh=>by cases h
theorem Ykm {x:ByteArray} (hx:x.size<=1048576):∃q,Ub x=some q/\Nv x q:=by
 obtain⟨ws,h1,h2⟩:=KA (x:=x) 32 (by omega);have Yo:=Ih h2;have hz:∀w∈ws,w.size<=281474976710656:=λw hw=>by have:=Je h2 hw;omega
 unfold Ub;rw[h1,Ag];by_cases hl:ws.length < 4
 .rw[Aj (by simp;omega)]
  exact⟨_,rfl,.inl rfl⟩
 .obtain⟨q3,e3⟩:=Yhd Eg ws[1] (by decide)
  obtain⟨q4,e4⟩:=Yhd Q3 ws[2] (by decide);have i0:idx ws 0=some ws[0]:=Zx (k:=0) (by omega);have i1:idx ws 1=some ws[1]:=Zx (k:=1) (by omega);have i2:idx ws 2=some ws[2]:=Zx (k:=2) (by omega);have i3:idx ws 3=some ws[3]:=Zx (k:=3) (by omega);have s4:Yt ws 4 (ws.length:Int)=some ((ws.drop 4).take (ws.length - 4)):=Qi (a:=4) (by omega) (B2 _);have f1:TY=some Eg:=rfl;have f2:TZ=some Q3:=rfl;rw[Ak (by simp;omega),i0,Ag,f1,Ag,i1,Ag,e3,Ag,f2,Ag,i2,Ag,e4,Ag,s4,Ag];generalize hv:(ws.drop 4).take (ws.length - 4)=vs;have I6:vs.length < 1048577:=by rw[<-hv];simp;omega
  have hvz:∀w∈vs,w.size<=281474976710656:=λw hw=>hz w (by rw[<-hv] at hw;exact FX (FY hw));have j2:∀(r:Zj) (us:List ByteArray),us.length < 1048577->(∀w∈us,w.size<=281474976710656)->∃q,RH x r ws us=some q/\Nv x q:=λr us hu huz=>by
   unfold RH;obtain⟨n,n1,n2⟩:=Z71 (hz ws[3] (B5 (by omega)));obtain⟨d,d1,d2,d3,d4⟩:=Zvo (ws:=us) (by omega) huz;rw[i3,Ag,n1,Ag,d1,Ag];split
   .exact⟨_,rfl,.inl rfl⟩
   .split
    .exact⟨_,rfl,.inl rfl⟩
    .obtain⟨q,e1,e2,_⟩:=Ya2 (x:=x) (r:={r with addr:=n.1,Aa:=d.1}) (by unfold Zj.sm;show d.1.length < _;omega) ⟨n2.r,λv hv=>(d2 v hv).r⟩
     exact⟨q,e1,e2⟩
  have j1:∀(b:Bool) (r:Zj),(b=true->1<=vs.length)->∃q,O7 x r ws vs b=some q/\Nv x q:=λb r hb=>by
   unfold O7;split
   .rename_i Jm
    have s1:Yt vs 1 (vs.length:Int)=some ((vs.drop 1).take (vs.length - 1)):=Qi (a:=1) (hb Jm) (B2 _);rw[s1,Ag];exact j2 _ _ (by simp;omega) λw hw=>hvz w (FX (FY hw))
   .exact j2 _ _ I6 hvz
  by_cases h0:0 < vs.length
  .have i0:idx vs 0=some vs[0]:=Zx (k:=0) h0
   rw[Aj (by simpa using h0),i0,Ag];exact j1 _ _ λ_=>h0
  .rw[Ak (by simpa using h0)]
   exact j1 false _ λh=>by cases h
theorem Ybx {ws:List ByteArray} {r:Zj} (h:ws.map L8=Ii r):ws=[Zc (DJ r.write),Ep r.size,Er r.Ay,Zy r.addr]++((if r.lock=true then [Zc [108,111,99,107]] else [])++r.Aa.map Zy):=by
 have inj:∀{a b:List ByteArray},a.map L8=b.map L8->a=b:=by
  intro a
  induction a with
  | nil=>intro b h;cases b with
   | nil=>rfl
   | cons y b=>simp at h
  | cons x a ih=>intro b h;cases b with
   | nil=>simp at h
   | cons y b=>
    simp only[C7,Vt] at h ⊢;exact⟨K4 h.1,ih h.2⟩
 refine inj (h.trans ?_);unfold Ii;cases r.lock<;>simp[Zz,Yh,Hg,Po]
theorem Yli {d:List Int} (h:d≠[]):∃a l,d.map Zy=Zy a::l/\L8 (Zy a)≠[108,111,99,107]:=by
 cases d with
 | nil=>exact absurd rfl h
 | cons a l=>
  refine⟨a,l.map Zy,rfl,λe=>?_⟩;rw[Yh] at e;have:=Y0k (v:=a) (c:=108) (by rw[e];exact BJ);rcases this with h|h
  .cases h
  .unfold Qx at h
   have e:(108:UInt8).toNat=108:=rfl;omega
theorem Ysf (b:Bool):((Zc (DJ b)).toList == (Zc [119,114,105,116,101]).toList)=b:=by
 rw[Wt,Zz,Zz];cases b<;>rfl
theorem Yjp {x:ByteArray} {r:Zj} (h:fJ x r) (hx:x.size<=1048576):aR x=some (r,true):=by
 obtain⟨hg,ht⟩:=h;obtain⟨ws,h1,h2⟩:=HA (x:=x) 32 (by omega);have h1:Wy x 32=some ws:=h1;rw[Ypx ht] at h2;have Gy:=Ybx h2;obtain⟨v1,v2,v3,v4⟩:=fI hg;have UZ:=UU hg;have Yg:L8 x≠[]:=by rw[ht];exact Yz6 r
 have Y4c:r.B7:=⟨⟨by omega,by omega⟩,λv hv=>by have:=v4 v hv;exact⟨by omega,by omega⟩⟩;have loop:∀us:List ByteArray,us=r.Aa.map Zy->J0 x FU {r with Aa:=[]} us 0=some (r,true):=λus hu=>by
  subst hu;refine K8 (σ:=Zj) (n:=r.Aa.length) (by omega) (λk=>({r with Aa:=r.Aa.take k}:Zj)) (B:=λκ st j=>Jh x (λa _ c=>κ a c) st (r.Aa.map Zy) j) (L:=λm st j=>J0 x m st (r.Aa.map Zy) j) (λm s i=>?_) (λk hk κ=>?_) λκ=>?_
  .show Jh x (J0 x m) s (r.Aa.map Zy) i=Jh x (λa _ c=>J0 x m a (r.Aa.map Zy) c) s (r.Aa.map Zy) i
   unfold Jh;rfl
  .unfold Jh
   have hb:=v4 _ (B5 hk);rw[Aj (by simpa using hk),Zx (by simpa using hk),Ag,gR,Ycq ⟨by omega,by omega⟩,Ag,Yp (by simp;omega) (by simp;omega),Ag,List.take_succ_eq_append_getElem hk]
  .unfold Jh
   have e:({r with Aa:=r.Aa.take r.Aa.length}:Zj)=r:=by rw[Fb]
   rw[Ak (by simp),e];obtain⟨q,e1,_,e3⟩:=Yaw (x:=x) (r:=r) Yg (dM hg) Y4c;rw[e1,e3 ⟨hg,ht⟩]
 have s4:Yt ws 4 (ws.length:Int)=some ((ws.drop 4).take (ws.length - 4)):=Qi (a:=4) (by rw[Gy];simp) (B2 _);have hd:(ws.drop 4).take (ws.length - 4)=(if r.lock=true then [Zc [108,111,99,107]] else [])++r.Aa.map Zy:=by
  rw[D6 (by simp),Gy];rfl
 rw[hd] at s4;have i0:idx ws 0=some (Zc (DJ r.write)):=by rw[Gy];rfl
 have i1:idx ws 1=some (Ep r.size):=by rw[Gy];rfl
 have i2:idx ws 2=some (Er r.Ay):=by rw[Gy];rfl
 have i3:idx ws 3=some (Zy r.addr):=by rw[Gy];rfl
 have f1:=(Ypc hg).1;have f2:=(Yks hg).1;unfold aR;rw[h1,Ag,Ak (by rw[Gy];simp;omega),i0,Ag,i1,Ag,f1,Ag,i2,Ag,f2,Ag,i3,Ag,Ycq ⟨by omega,by omega⟩,Ag,s4,Ag,Ysf];cases hk:r.lock with
 | true=>
  have e:({Zj.mk r.write r.addr r.size r.Ay false [] with lock:=true}:Zj)={r with Aa:=[]}:=by cases r;simp at hk;simp[hk]
  have j0:idx ((if true=true then [Zc [108,111,99,107]] else [])++r.Aa.map Zy) 0=some (Zc [108,111,99,107]):=rfl;have js:Yt ((if true=true then [Zc [108,111,99,107]] else [])++r.Aa.map Zy) 1 (((if true=true then [Zc [108,111,99,107]] else [])++r.Aa.map Zy).length:Int)=some (r.Aa.map Zy):=by
   have:=Qi (xs:=(if true=true then [Zc [108,111,99,107]] else [])++r.Aa.map Zy) (a:=1) (b:=((if true=true then [Zc [108,111,99,107]] else [])++r.Aa.map Zy).length) (by simp) (B2 _);refine this.trans (congrArg some ?_);rw[D6 (by simp)];rfl
  rw[Aj (by simp),j0,Ag,show ((Zc [108,111,99,107]).toList == (Zc [108,111,99,107]).toList)=true from beq_self_eq_true _];unfold R8 aQ;rw[Aj rfl,js,Ag,e];exact loop _ rfl
 | false=>
  have e:(Zj.mk r.write r.addr r.size r.Ay false []:Zj)={r with Aa:=[]}:=by cases r;simp at hk;simp[hk]
  rw[Ak (show ¬false=true by simp),KJ,e];have fin:R8 x {r with Aa:=[]} (r.Aa.map Zy) false=some (r,true):=by
   unfold R8 aQ;rw[Ak (by simp)];exact loop _ rfl
  by_cases h0:r.Aa=[]
  .rw[Ak (by rw[h0];simp)]
   exact fin
  .obtain⟨a,l,e1,e2⟩:=Yli h0
   have j0:idx (r.Aa.map Zy) 0=some (Zy a):=by rw[e1];rfl
   rw[Aj (by have:=Cw.2 h0;simp;omega),j0,Ag,show ((Zy a).toList == (Zc [108,111,99,107]).toList)=false by rw[Wt,Zz];exact decide_eq_false e2];exact fin
theorem Yki {x:ByteArray} {r:Zj} (h:fJ x r) (hx:x.size<=1048576):Ub x=some (r,true):=by
 obtain⟨hg,ht⟩:=h;obtain⟨ws,h1,h2⟩:=KA (x:=x) 32 (by omega);rw[Ypx ht] at h2;have Gy:=Ybx h2;obtain⟨v1,v2,v3,v4⟩:=fI hg;have UZ:=UU hg;have Y4c:r.B7:=⟨⟨by omega,by omega⟩,λv hv=>by have:=v4 v hv;exact⟨by omega,by omega⟩⟩;have i3:idx ws 3=some (Zy r.addr):=by rw[Gy];rfl
 have j2:∀r0:Zj,r0.write=r.write->r0.size=r.size->r0.Ay=r.Ay->r0.lock=r.lock->RH x r0 ws (r.Aa.map Zy)=some (r,true):=λr0 e1 e2 e3 e4=>by
  unfold RH;have e:({r0 with addr:=r.addr,Aa:=r.Aa}:Zj)=r:=by cases r0;cases r;simp at e1 e2 e3 e4;simp[e1,e2,e3,e4]
  rw[i3,Ag,Ylv ⟨by omega,by omega⟩ (by omega),Ag,UX (by omega) (λv hv=>by have:=v4 v hv;omega),Ag,Ak (by simp),Ak (by simp),e];obtain⟨q,q1,_,q3⟩:=Ya2 (x:=x) (r:=r) (dM hg) Y4c;rw[q1,q3 ⟨hg,ht⟩]
 have s4:Yt ws 4 (ws.length:Int)=some ((ws.drop 4).take (ws.length - 4)):=Qi (a:=4) (by rw[Gy];simp) (B2 _);have hd:(ws.drop 4).take (ws.length - 4)=(if r.lock=true then [Zc [108,111,99,107]] else [])++r.Aa.map Zy:=by
  rw[D6 (by simp),Gy];rfl
 rw[hd] at s4;have i0:idx ws 0=some (Zc (DJ r.write)):=by rw[Gy];rfl
 have i1:idx ws 1=some (Ep r.size):=by rw[Gy];rfl
 have i2:idx ws 2=some (Er r.Ay):=by rw[Gy];rfl
 have f1:=(Ypc hg).2;have f2:=(Yks hg).2;have g1:TY=some Eg:=rfl;have g2:TZ=some Q3:=rfl;unfold Ub;rw[h1,Ag,Ak (by rw[Gy];simp;omega),i0,Ag,g1,Ag,i1,Ag,f1,Ag,g2,Ag,i2,Ag,f2,Ag,s4,Ag,Ysf];cases hk:r.lock with
 | true=>
  have j0:idx ((if true=true then [Zc [108,111,99,107]] else [])++r.Aa.map Zy) 0=some (Zc [108,111,99,107]):=rfl;have js:Yt ((if true=true then [Zc [108,111,99,107]] else [])++r.Aa.map Zy) 1 (((if true=true then [Zc [108,111,99,107]] else [])++r.Aa.map Zy).length:Int)=some (r.Aa.map Zy):=by
   have:=Qi (xs:=(if true=true then [Zc [108,111,99,107]] else [])++r.Aa.map Zy) (a:=1) (b:=((if true=true then [Zc [108,111,99,107]] else [])++r.Aa.map Zy).length) (by simp) (B2 _);refine this.trans (congrArg some ?_);rw[D6 (by simp)];rfl
  rw[Aj (by simp),j0,Ag,show ((Zc [108,111,99,107]).toList == (Zc [108,111,99,107]).toList)=true from beq_self_eq_true _];unfold O7;rw[Aj rfl,js,Ag];exact j2 _ rfl rfl rfl hk.symm
 | false=>
  rw[Ak (show ¬false=true by simp),KJ];have fin:O7 x (Zj.mk r.write 0 r.size r.Ay false []) ws (r.Aa.map Zy) false=some (r,true):=by
   unfold O7;rw[Ak (by simp)];exact j2 _ rfl rfl rfl hk.symm
  by_cases h0:r.Aa=[]
  .rw[Ak (by rw[h0];simp)]
   exact fin
  .obtain⟨a,l,e1,e2⟩:=Yli h0
   have j0:idx (r.Aa.map Zy) 0=some (Zy a):=by rw[e1];rfl
   rw[Aj (by have:=Cw.2 h0;simp;omega),j0,Ag,show ((Zy a).toList == (Zc [108,111,99,107]).toList)=false by rw[Wt,Zz];exact decide_eq_false e2];exact fin
inductive Xe where
 | w (l:List Int)
 | s (l:List Int)
 | p (q:Zo)
 | e
def Xe.words:Xe->List (List UInt8)
 | .w l=>[119,97,105,116,115]::l.map Lib.itoa
 | .s l=>[115,97,121,115]::l.map Lib.itoa
 | .p q=>[112,111,115,116]::Lib.itoa q.at_::Lib.itoa q.Ah::Ii q.Bm
 | .e=>[[]]
def Xe.line (i:Xe):List UInt8:=Lib.join i.words [32]
def Xe.ok:Xe->Prop
 | .w l=>l.length < 1048577/\∀v∈l,Qf v
 | .s l=>l.length < 1048577/\∀v∈l,Qf v
 | .p q=>Qf q.at_/\Qf q.Ah/\W6 q.Bm=true
 | .e=>True
def Xe.app (z:Zb):Xe->Zb
 | .w l=>{z with waits:=l}
 | .s l=>{z with A4:=l}
 | .p q=>{z with Al:=z.Al++[q]}
 | .e=>z
theorem Ypz (i:Xe):∀w∈i.words,∀y∈w,y≠32/\y≠10:=by
 have hi:∀(v:Int) (y:UInt8),y∈Lib.itoa v->y≠32/\y≠10:=λv y h=>⟨KC h (.inl rfl),KC h (.inr (.inr rfl))⟩;have h1:∀y∈([119,97,105,116,115]:List UInt8),y≠32/\y≠10:=by decide
 have h2:∀y∈([115,97,121,115]:List UInt8),y≠32/\y≠10:=by decide
 have h3:∀y∈([112,111,115,116]:List UInt8),y≠32/\y≠10:=by decide
 intro w hw y hy;cases i with
 | w l=>
  rcases Ce.1 hw with rfl|hw
  .exact h1 y hy
  .obtain⟨v,_,rfl⟩:=Dx.1 hw;exact hi v y hy
 | s l=>
  rcases Ce.1 hw with rfl|hw
  .exact h2 y hy
  .obtain⟨v,_,rfl⟩:=Dx.1 hw;exact hi v y hy
 | p q=>
  rcases Ce.1 hw with rfl|hw
  .exact h3 y hy
  .rcases Ce.1 hw with rfl|hw
   .exact hi _ y hy
   .rcases Ce.1 hw with rfl|hw
    .exact hi _ y hy
    .exact Yov w hw y hy
 | e=>simp[Xe.words] at hw;subst hw;simp at hy
theorem Y7u (i:Xe):i.words≠[]:=by cases i<;>simp[Xe.words]
theorem Yls (i:Xe):Y9 32 i.line=i.words:=tK (Y7u i) λw hw y hy=>(Ypz i w hw y hy).1
theorem Y78 {c:UInt8}:∀{ws:List (List UInt8)},(∀w∈ws,∀y∈w,y≠c)->c≠32->∀y∈Lib.join ws [32],y≠c:=by
 intro ws
 induction ws with
 | nil=>intro _ _ y hy;simp[Lib.join_nil] at hy
 | cons w r ih=>
  intro h hc y hy;rw[Lib.join_cons] at hy;rcases BU.1 hy with hy|hy
  .exact h w BJ y hy
  .unfold Lib.joinTail at hy
   obtain⟨u,hu,hy⟩:=gO.1 hy;obtain⟨v,hv,rfl⟩:=Dx.1 hu;rcases BU.1 hy with hy|hy
   .rw[List.mem_singleton.1 hy];exactλe=>hc e.symm
   .exact h v (Cp _ hv) y hy
theorem Y7l (i:Xe):∀y∈i.line,y≠10:=Y78 (λw hw y hy=>(Ypz i w hw y hy).2) (by decide)
theorem Yoz (w:List UInt8) (l:List Int):Lib.join (w::l.map Lib.itoa) [32]=w++Wi l:=by
 rw[Lib.join_cons];unfold Lib.joinTail Wi;rw[Hg,Vs];rfl
theorem SF (l:List Int):(Xe.w l).line=[119,97,105,116,115]++Wi l:=Yoz _ l
theorem SG (l:List Int):(Xe.s l).line=[115,97,121,115]++Wi l:=Yoz _ l
theorem Y63 (q:Zo):(Xe.p q).line=[112,111,115,116,32]++Lib.itoa q.at_++[32]++Lib.itoa q.Ah++[32]++Km q.Bm:=by
 have e:Km q.Bm=Lib.join (Ii q.Bm) [32]:=Ycb _;unfold Xe.line Xe.words;rw[e];obtain⟨a,l,h⟩:∃a l,Ii q.Bm=a::l:=⟨_,_,rfl⟩;rw[h,Lib.join_cons,Lib.join_cons];simp[Lib.joinTail,h]
def Pa (z:Zb):List UInt8:=L8 (H9 z)++z.Al.flatMap D4
def LP (z:Zb):List Xe:=(if z.waits=[] then [] else [.w z.waits])++((if z.A4=[] then [] else [.s z.A4])++z.Al.map .p)
theorem Yji (z:Zb):Pa z=((LP z).map Xe.line).flatMap (·++[10]):=by
 have h1:∀(w:List UInt8) (l:List Int) (i:Xe),i.line=w++Wi l->GX w l=(((if l=[] then [] else [i]):List Xe).map Xe.line).flatMap (·++[10]):=λw l i hi=>by
  unfold GX;split
  .rfl
  .simp[hi]
 have h2:∀ps:List Zo,ps.flatMap D4=((ps.map Xe.p).map Xe.line).flatMap (·++[10]):=λps=>by
  induction ps with
  | nil=>rfl
  | cons p ps ih=>
   rw[Fa,ih,C7,C7,Fa,Y63];unfold D4;simp
 unfold Pa LP H9;rw[Xz,Xp (GX _ z.waits),Xp (GX _ z.A4),G0,G0,uF,uF,<-h1 _ _ _ (SF z.waits),<-h1 _ _ _ (SG z.A4),<-h2,List.append_assoc]
theorem Y2t:∀(ps:List Zo) (z:Zb),(ps.map Xe.p).foldl Xe.app z={z with Al:=z.Al++ps}:=by
 intro ps
 induction ps with
 | nil=>intro z;simp
 | cons p ps ih=>
  intro z;rw[C7,HG,ih];show ({z with Al:=(z.Al++[p])++ps}:Zb)=_;rw[List.append_assoc];rfl
theorem Z8l (z:Zb):(LP z).foldl Xe.app Zb.z0=z:=by
 unfold LP;rw[Tc,Tc,Y2t];obtain⟨ps,w,s⟩:=z;by_cases hw:w=[]
 .by_cases hs:s=[]
  .simp[hw,hs]
  .simp[hw,hs,Xe.app]
 .by_cases hs:s=[]
  .simp[hw,hs,Xe.app]
  .simp[hw,hs,Xe.app]
structure KD (x:ByteArray) (z:Zb):Prop where
 reqs:∀p∈z.Al,Qf p.at_/\Qf p.Ah/\W6 p.Bm=true
 FC:z.Al.length < 1048600
 w:z.waits.length < 1048577/\∀v∈z.waits,Qf v
 s:z.A4.length < 1048577/\∀v∈z.A4,Qf v
 text:L8 x=Pa z
def Pb (x:ByteArray) (r:Zb×Bool):Prop:=r=(Zb.z0,false)\/(r.2=true/\KD x r.1)
theorem Ys7 {x:ByteArray} {z:Zb} (h:KD x z):∀i∈LP z,i.ok:=by
 intro i hi;unfold LP at hi;rcases BU.1 hi with hi|hi
 .split at hi
  .simp at hi
  .rw[List.mem_singleton.1 hi];exact h.w
 .rcases BU.1 hi with hi|hi
  .split at hi
   .simp at hi
   .rw[List.mem_singleton.1 hi];exact h.s
  .obtain⟨p,hp,rfl⟩:=Dx.1 hi;exact h.reqs p hp
theorem Ybz {c:UInt8}:∀{ls:List (List UInt8)},(∀w∈ls,∀y∈w,y≠c)->Y9 c (ls.flatMap (·++[c]))=ls++[[]]:=by
 intro ls
 induction ls with
 | nil=>intro _;rfl
 | cons w r ih=>
  intro h;rw[Fa,List.append_assoc,List.singleton_append,OV (h w BJ),ih λu hu=>h u (Cp _ hu)];rfl
theorem Y3h {c:UInt8}:∀{ls:List (List UInt8)},ls≠[]->ls.flatMap (·++[c])=Lib.join ls [c]++[c]:=by
 intro ls
 induction ls with
 | nil=>intro h;exact absurd rfl h
 | cons w r ih=>
  intro _;cases r with
  | nil=>simp[Lib.join_one]
  | cons v r=>
   rw[Fa,ih (by simp),Lib.join_cons,Lib.join_cons];simp[Lib.joinTail]
theorem Y9g (a:List UInt8) (c:UInt8):Lib.trimSuffix (a++[c]) [c]=a:=by
 unfold Lib.trimSuffix;rw[Aj (by simp[Lib.hasSuffix,List.isSuffixOf,List.isPrefixOf])];simp
theorem EU (a:ByteArray) (l:List UInt8) (w:List UInt8) (h:L8 a=l):(a.toList == (Zc w).toList)=decide (l=w):=by rw[Wt,Zz,h]
def Wu:Xe->List ByteArray
 | .w l=>Zc [119,97,105,116,115]::l.map Zy
 | .s l=>Zc [115,97,121,115]::l.map Zy
 | .p q=>Zc [112,111,115,116]::Zy q.at_::Zy q.Ah::([Zc (DJ q.Bm.write),Ep q.Bm.size,Er q.Bm.Ay,Zy q.Bm.addr]++((if q.Bm.lock=true then [Zc [108,111,99,107]] else [])++q.Bm.Aa.map Zy))
 | .e=>[ByteArray.empty]
theorem Yvy:∀{a b:List ByteArray},a.map L8=b.map L8->a=b:=by
 intro a
 induction a with
 | nil=>intro b h;cases b with
  | nil=>rfl
  | cons y b=>simp at h
 | cons x a ih=>intro b h;cases b with
  | nil=>simp at h
  | cons y b=>
   simp only[C7,Vt] at h ⊢;exact⟨K4 h.1,ih h.2⟩
theorem Yt8 (l:List Int):(l.map Zy).map L8=l.map Lib.itoa:=by rw[Hg];rfl
theorem Yj5 {ws:List ByteArray} {i:Xe} (h:ws.map L8=i.words):ws=Wu i:=by
 cases i with
 | w l=>exact Yvy (h.trans (by unfold Wu Xe.words;rw[C7,Yt8,Zz]))
 | s l=>exact Yvy (h.trans (by unfold Wu Xe.words;rw[C7,Yt8,Zz]))
 | p q=>
  unfold Xe.words at h;cases ws with
  | nil=>simp at h
  | cons a ws=>cases ws with
   | nil=>simp at h
   | cons b ws=>cases ws with
    | nil=>simp at h
    | cons c ws=>
     simp only[C7,Vt] at h;obtain⟨h1,h2,h3,h4⟩:=h;unfold Wu;rw[Ybx h4,K4 (a:=a) (b:=Zc [112,111,115,116]) h1,K4 (a:=b) (b:=Zy q.at_) h2,K4 (a:=c) (b:=Zy q.Ah) h3]
 | e=>exact Yvy (h.trans rfl)
theorem Y8x (r:Zj):Lib.join (([Zc (DJ r.write),Ep r.size,Er r.Ay,Zy r.addr]++((if r.lock=true then [Zc [108,111,99,107]] else [])++r.Aa.map Zy)).map L8) [32]=Km r:=by
 rw[Ycb]
 congr 1
 unfold Ii;cases r.lock<;>simp[Zz,Yh,Hg,Po]
theorem tP {α:Type} (a:α) (l:List α):Yt (a::l) 1 ((a::l).length:Int)=some l:=by
 have:=Qi (xs:=a::l) (a:=1) (b:=(a::l).length) (by simp) (B2 _);refine this.trans (congrArg some ?_);simp
theorem Ybq {q:Zo} (h:Qf q.at_/\Qf q.Ah/\W6 q.Bm=true):q.B7/\q.Bm.sm:=by
 obtain⟨_,_,v3,v4⟩:=fI h.2.2;exact⟨⟨h.1.r,h.2.1.r,⟨⟨by omega,by omega⟩,λv hv=>by have:=v4 v hv;exact⟨by omega,by omega⟩⟩⟩,dM h.2.2⟩
theorem SH {x:ByteArray} {κ:Zb->List ByteArray->Int->Int->Option (Zb×Bool)} {z:Zb} {vs:List ByteArray} {n:Nat} {j:Nat} (hj:j < vs.length) (hn:n=vs.length) {i:Xe} (hi:L8 vs[j]=i.line) (hz:vs[j].size<=1048576) (ok:i.ok) (hp:z.Al.length<=1048600):
  Jz x κ z vs (n:Int) (j:Int)=κ (Xe.app z i) vs (n:Int) (Zn (j:Int) 1):=by
 subst hn;obtain⟨ws,h1,h2⟩:=KA (x:=vs[j]) 32 (by omega);rw[hi,Yls] at h2;have hb:=Yj5 h2;unfold Jz;rw[Aj (by simpa using hj),Zx hj,Ag,h1,Ag,hb];cases i with
 | w l=>
  have e0:idx (Wu (.w l)) 0=some (Zc [119,97,105,116,115]):=rfl;rw[e0,Ag,EU _ _ _ (Zz _),Ak (by decide)];unfold Kc;rw[Ak (by simp),e0,Ag,EU _ _ _ (Zz _),Aj (by decide)];unfold RI Wu;rw[Aj rfl,tP,Ag,UX (by have:=ok.1;omega) ok.2,Ag,Ak (by simp)];show (idx (Wu (.w l)) 0).bind _=_;rw[e0,Ag,EU _ _ _ (Zz _),Aj (by decide)];rfl
 | s l=>
  have e0:idx (Wu (.s l)) 0=some (Zc [115,97,121,115]):=rfl;rw[e0,Ag,EU _ _ _ (Zz _),Ak (by decide)];unfold Kc;rw[Ak (by simp),e0,Ag,EU _ _ _ (Zz _),Ak (by decide),EU _ _ _ (Zz _),show decide (([115,97,121,115]:List UInt8)=[115,97,121,115])=true by decide];unfold RI Wu;rw[Aj rfl,tP,Ag,UX (by have:=ok.1;omega) ok.2,Ag,Ak (by simp)];show (idx (Wu (.s l)) 0).bind _=_;rw[e0,Ag,EU _ _ _ (Zz _),Ak (by decide)];rfl
 | p q=>
  obtain⟨o1,o2,o3⟩:=ok;have e0:idx (Wu (.p q)) 0=some (Zc [112,111,115,116]):=rfl;rw[e0,Ag,EU _ _ _ (Zz _),Aj (by decide)];have Yo:7<=(Wu (.p q)).length:=by unfold Wu;simp
  rw[show decide (((Wu (.p q)).length:Int) > 3)=true from decide_eq_true (by omega)];have SI:Yt (Wu (.p q)) 1 3=some ([q.at_,q.Ah].map Zy):=by
   have:=Qi (xs:=Wu (.p q)) (a:=1) (b:=3) (by omega) (by omega);exact this
  have s3:Yt (Wu (.p q)) 3 ((Wu (.p q)).length:Int)=some ((Wu (.p q)).drop 3):=by
   have:=Qi (xs:=Wu (.p q)) (a:=3) (b:=(Wu (.p q)).length) (by omega) (B2 _);refine this.trans (congrArg some ?_);rw[D6 (by simp)]
  have UZ:=UU o3;have hT:=tJ o3 (Ybq ⟨o1,o2,o3⟩).1.2.2;have Gi:Lib.join (((Wu (.p q)).drop 3).map L8) (L8 (Zc [32]))=Km q.Bm:=by
   rw[Zz];exact Y8x q.Bm
  have KU:((Wu (.p q)).drop 3).length<=1000000000:=by
   show (([Zc (DJ q.Bm.write),Ep q.Bm.size,Er q.Bm.Ay,Zy q.Bm.addr]++((if q.Bm.lock=true then [Zc [108,111,99,107]] else [])++q.Bm.Aa.map Zy))).length<=_;cases q.Bm.lock<;>simp<;>omega
  unfold Kc;rw[Aj rfl,SI,Ag,UX (by simp) (by
   intro v hv;simp only[Ce,Ip,or_false] at hv;rcases hv with rfl|rfl
   .exact o1
   .exact o2),Ag,s3,Ag,Nd KU (by rw[Gi];omega),Ag,Gi,Yki (x:=⟨(Km q.Bm).toArray⟩) ⟨o3,rfl⟩ (by rw[Z5,Xp (Km q.Bm)];omega),Ag,Ak (by simp)]
  unfold bB;have j0:idx [q.at_,q.Ah] 0=some q.at_:=rfl;have j1:idx [q.at_,q.Ah] 1=some q.Ah:=rfl;simp only[Du,Bn,if_false,j0,j1,Ag];rw[Yp (by simp;omega) (by simp;omega),Ag];rfl
 | e=>
  have e0:idx (Wu .e) 0=some ByteArray.empty:=rfl;rw[e0,Ag,EU _ [] _ FP,Ak (by decide)];unfold Kc;rw[Ak (by simp),e0,Ag,EU _ [] _ FP,Ak (by decide),EU _ [] _ FP,show decide (([]:List UInt8)=[115,97,121,115])=false by decide];rfl
theorem fL {a b c:Nat} (h:a+b+c < 1000000000000000000):Zn (Zn (Zn (a:Int) (b:Int)) (c:Int)) 3=((a+b+c+3:Nat):Int):=by
 have e1:Zn (a:Int) (b:Int)=((a+b:Nat):Int):=by rw[Yj (by omega) (by omega)];omega
 have e2:Zn ((a+b:Nat):Int) (c:Int)=((a+b+c:Nat):Int):=by rw[Yj (by omega) (by omega)];omega
 rw[e1,e2,Yj (by omega) (by omega)];omega
theorem SJ {x:ByteArray} {κ:Zb->List ByteArray->Int->Option (Zb×Bool)} {z:Zb} {vs:List ByteArray} {j:Nat} (hj:j < vs.length) {i:Xe} (hi:L8 vs[j]=i.line) (hz:vs[j].size<=1048576) (ok:i.ok) (hp:z.Al.length<=1048600):
  Ju x κ z vs (j:Int)=κ (Xe.app z i) vs (Zn (j:Int) 1):=by
 obtain⟨ws,h1,h2⟩:=HA (x:=vs[j]) 32 (by omega);have h1:Wy vs[j] 32=some ws:=h1;rw[hi,Yls] at h2;have hb:=Yj5 h2;unfold Ju;rw[Aj (by simpa using hj),Zx hj,Ag,h1,Ag,hb];cases i with
 | w l=>
  have e0:idx (Wu (.w l)) 0=some (Zc [119,97,105,116,115]):=rfl;rw[e0,Ag,EU _ _ _ (Zz _),Aj (by decide)];unfold Wu;rw[tP,Ag,Z6f (by have:=ok.1;omega) ok.2,Ag];rfl
 | s l=>
  have e0:idx (Wu (.s l)) 0=some (Zc [115,97,121,115]):=rfl;rw[e0,Ag,EU _ _ _ (Zz _),Ak (by decide),EU _ _ _ (Zz _),Aj (by decide)];unfold Wu;rw[tP,Ag,Z6f (by have:=ok.1;omega) ok.2,Ag];rfl
 | p q=>
  obtain⟨o1,o2,o3⟩:=ok;have e0:idx (Wu (.p q)) 0=some (Zc [112,111,115,116]):=rfl;have e1:idx (Wu (.p q)) 1=some (Zy q.at_):=rfl;have e2:idx (Wu (.p q)) 2=some (Zy q.Ah):=rfl;have Yo:7<=(Wu (.p q)).length:=by unfold Wu;simp
  have SI:Yt (Wu (.p q)) 1 3=some ([q.at_,q.Ah].map Zy):=by
   have:=Qi (xs:=Wu (.p q)) (a:=1) (b:=3) (by omega) (by omega);exact this
  have hT:=tJ o3 (Ybq ⟨o1,o2,o3⟩).1.2.2;have z1:=Xn o1.r;have z2:=Xn o2.r;rw[e0,Ag,EU _ _ _ (Zz _),Ak (by decide),EU _ _ _ (Zz _),Ak (by decide),Aj (decide_eq_true (by omega)),SI,Ag,Z6f (by simp) (by
   intro v hv;simp only[Ce,Ip,or_false] at hv;rcases hv with rfl|rfl
   .exact o1
   .exact o2),Ag,e1,Ag,e2,Ag]
  have z0:(Zc [112,111,115,116]).size=4:=Z3 _;have fM:Zn (Zn (Zn ((Zc [112,111,115,116]).size:Int) ((Zy q.at_).size:Int)) ((Zy q.Ah).size:Int)) 3=((7+(Zy q.at_).size+(Zy q.Ah).size:Nat):Int):=by
   rw[fL (by omega)];omega
  have xM:L8 vs[j]=([112,111,115,116,32]++Lib.itoa q.at_++[32]++Lib.itoa q.Ah++[32])++Km q.Bm:=by rw[hi,Y63]
  have Lg:([112,111,115,116,32]++Lib.itoa q.at_++[32]++Lib.itoa q.Ah++[32]:List UInt8).length=7+(Zy q.at_).size+(Zy q.Ah).size:=by
   rw[Z5,Z5,Yh,Yh];simp only[Cy,AU,Bo];omega
  have Ww:vs[j].size=7+(Zy q.at_).size+(Zy q.Ah).size+(Km q.Bm).length:=by rw[Z5,xM,Cy,Lg]
  have hmin:D2 ((vs[j].size:Nat):Int) (Zn (Zn (Zn ((Zc [112,111,115,116]).size:Int) ((Zy q.at_).size:Int)) ((Zy q.Ah).size:Int)) 3)=((7+(Zy q.at_).size+(Zy q.Ah).size:Nat):Int):=by
   rw[fM];unfold D2;split<;>omega
  obtain⟨y,y1,y2⟩:=SB (x:=vs[j]) (a:=7+(Zy q.at_).size+(Zy q.Ah).size) (b:=vs[j].size) (by omega) (by rw[Z5];exact B2 _);have hy:L8 y=Km q.Bm:=by
   rw[y2,xM,<-Lg,List.drop_left,Ww,Lg,D6 (by omega)]
  have j0:idx [q.at_,q.Ah] 0=some q.at_:=rfl;have j1:idx [q.at_,q.Ah] 1=some q.Ah:=rfl;rw[hmin,y1,Ag,Yjp (x:=y) ⟨o3,hy⟩ (by rw[Z5,hy];omega),Ag,j0,Ag,j1,Ag,Yp (by simp;omega) (by simp;omega),Ag];rfl
 | e=>
  have e0:idx (Wu .e) 0=some ByteArray.empty:=rfl;rw[e0,Ag,EU _ [] _ FP,Ak (by decide),EU _ [] _ FP,Ak (by decide),Ak (by decide)];rfl
structure EV (x:ByteArray) (z:Zb) (j:Nat):Prop where
 FC:z.Al.length<=j
 Al:∀p∈z.Al,Qf p.at_/\Qf p.Ah/\(W6 p.Bm=true\/p.Bm=Zj.z0)
 w:z.waits.length < 1048577/\∀v∈z.waits,Qf v
 s:z.A4.length < 1048577/\∀v∈z.A4,Qf v
 ne:z.Al≠[]->L8 x≠[]
theorem EV.n {x:ByteArray} {z:Zb} {j:Nat} (h:EV x z j) (hj:j<=1048577):Ns z:=by
 refine⟨by have:=h.FC;omega,h.w.1,h.s.1,λp hp=>?_,λv hv=>(h.w.2 v hv).r,λv hv=>(h.s.2 v hv).r⟩;obtain⟨a,b,c⟩:=h.Al p hp;rcases c with c|c
 .exact Ybq ⟨a,b,c⟩
 .refine⟨⟨a.r,b.r,?_⟩,?_⟩
  .rw[c];exact⟨⟨by decide,by decide⟩,λv hv=>by simp at hv⟩
  .rw[c];show ([]:List Int).length < _;simp
theorem tQ {x:ByteArray} {z:Zb} {j:Nat} (h:EV x z j) (hj:j<=1048577):∃r,(if (!((H8 (H9 z) z.Al).toList == x.toList))=true then some (Zb.z0,false) else some (z,true))=some r/\Pb x r/\(KD x z->r=(z,true)):=by
 rw[Wt];unfold H8;by_cases K3:z.Al.all (λp=>W6 p.Bm)=true
 .rw[Aj K3,Xp (L8 (H9 z)++z.Al.flatMap D4),show L8 (H9 z)++z.Al.flatMap D4=Pa z from rfl]
  have fN:∀p∈z.Al,W6 p.Bm=true:=by simpa using K3
  by_cases he:Pa z=L8 x
  .rw[decide_eq_true he,Ak (by simp)]
   exact⟨_,rfl,.inr ⟨rfl,⟨λp hp=>⟨(h.Al p hp).1,(h.Al p hp).2.1,fN p hp⟩,by have:=h.FC;show z.Al.length < _;omega,h.w,h.s,he.symm⟩⟩,λ_=>rfl⟩
  .rw[decide_eq_false he,Aj (by simp)]
   exact⟨_,rfl,.inl rfl,λhh=>absurd hh.text.symm he⟩
 .have Yg:z.Al≠[]:=λe=>K3 (by rw[e];rfl)
  have hx:=h.ne Yg;rw[Ak K3,FP,decide_eq_false (λe=>hx e.symm),Aj (by simp)];exact⟨_,rfl,.inl rfl,λhh=>absurd (by rw[Cd];exactλp hp=>(hh.reqs p hp).2.2) K3⟩
theorem Y0h {x:ByteArray} {z:Zb} (h:KD x z):EV x z z.Al.length:=by
 refine⟨B2 _,λp hp=>⟨(h.reqs p hp).1,(h.reqs p hp).2.1,.inl (h.reqs p hp).2.2⟩,h.w,h.s,λYg he=>?_⟩;have:=h.text;rw[he] at this;unfold Pa at this;cases hp:z.Al with
 | nil=>exact Yg hp
 | cons p ps=>
  rw[hp,Fa] at this;have:=congrArg List.length this;unfold D4 at this;simp at this
theorem Yo9 (z:Zb) (i:Xe):(Xe.app z i).Al.length<=z.Al.length+1:=by cases i<;>simp[Xe.app]
theorem Ycv {vs:List ByteArray} {its:List Xe} (h:vs.map L8=its.map Xe.line) {j:Nat} (hj:j < vs.length):∃hi:j < its.length,L8 vs[j]=its[j].line:=by
 have hl:vs.length=its.length:=by simpa using congrArg List.length h
 refine⟨by omega,?_⟩;have h1:(vs.map L8)[j]?=(its.map Xe.line)[j]?:=by rw[h]
 rw[Dt,Dt,CB hj,CB (by omega)] at h1;simpa using h1
theorem Z0f {x:ByteArray} {z:Zb} (hz:KD x z) (ID:z.Al.length<=1048577) {vs:List ByteArray} {its:List Xe} (h:vs.map L8=its.map Xe.line) (hs:∀v∈vs,v.size<=1048576) (ok:∀i∈its,i.ok) (hl:vs.length<=1048577):∀(m j:Nat) (y:Zb),j<=vs.length->vs.length - j < m->y.Al.length<=j->(its.drop j).foldl Xe.app y=z->
  Q6 x m y vs (vs.length:Int) (j:Int)=some (z,true):=by
 have hil:vs.length=its.length:=by simpa using congrArg List.length h
 intro m
 induction m with
 | zero=>intro j y _ h;omega
 | succ m ih=>
  intro j y hj hm hy hf;show Jz x (Q6 x m) y vs (vs.length:Int) (j:Int)=some (z,true);by_cases hc:j < vs.length
  .obtain⟨hi,hv⟩:=Ycv h hc
   rw[SH hc rfl hv (hs _ (B5 hc)) (ok _ (B5 hi)) (by omega),Ye (by omega)];refine ih (j+1) _ (by omega) (by omega) (by have:=Yo9 y its[j];omega) ?_;rw[D5 hi,HG] at hf;exact hf
  .rw[EZ (by omega)] at hf
   have hf:y=z:=hf;subst hf;unfold Jz;have fO:=Y0h hz;rw[Ak (by simpa using hc),Z4i (fO.n ID),Ag];obtain⟨r,e1,_,e3⟩:=tQ fO ID;rw[e1,e3 hz]
theorem Yfr {x:ByteArray} {z:Zb} (hz:KD x z) (ID:z.Al.length<=1048577) {vs:List ByteArray} {its:List Xe} (h:vs.map L8=its.map Xe.line) (hs:∀v∈vs,v.size<=1048576) (ok:∀i∈its,i.ok) (hl:vs.length<=1048577):∀(m j:Nat) (y:Zb),j<=vs.length->vs.length - j < m->y.Al.length<=j->(its.drop j).foldl Xe.app y=z->
  TT x m y vs (j:Int)=some (z,true):=by
 have hil:vs.length=its.length:=by simpa using congrArg List.length h
 intro m
 induction m with
 | zero=>intro j y _ h;omega
 | succ m ih=>
  intro j y hj hm hy hf;show Ju x (TT x m) y vs (j:Int)=some (z,true);by_cases hc:j < vs.length
  .obtain⟨hi,hv⟩:=Ycv h hc
   rw[SJ hc hv (hs _ (B5 hc)) (ok _ (B5 hi)) (by omega),Ye (by omega)];refine ih (j+1) _ (by omega) (by omega) (by have:=Yo9 y its[j];omega) ?_;rw[D5 hi,HG] at hf;exact hf
  .rw[EZ (by omega)] at hf
   have hf:y=z:=hf;subst hf;unfold Ju;have fO:=Y0h hz;rw[Ak (by simpa using hc),Z4t (fO.n ID),Ag];obtain⟨r,e1,_,e3⟩:=tQ fO ID;rw[e1,e3 hz]
theorem Y0a {x:ByteArray} {z:Zb} (h:KD x z) (hx:x.size<=1048576):z.Al.length<=1048576:=by
 have hf:∀ps:List Zo,ps.length<=(ps.flatMap D4).length:=λps=>by
  induction ps with
  | nil=>simp
  | cons p ps ih=>
   rw[Fa,Cy,AU];have:1<=(D4 p).length:=by unfold D4;simp
   omega
 have h1:=congrArg List.length h.text;rw[<-Z5] at h1;unfold Pa at h1;rw[Cy] at h1;have:=hf z.Al;omega
theorem Yp0 {z:Zb}:∀w∈(LP z).map Xe.line,∀y∈w,y≠10:=by
 intro w hw y hy;obtain⟨i,_,rfl⟩:=Dx.1 hw;exact Y7l i y hy
theorem Ybv {x:ByteArray} {z:Zb} (h:KD x z) (hx:x.size<=1048576):TU x=some (z,true):=by
 have UZ:=Y0a h hx;obtain⟨vs,h1,h2⟩:=HA (x:=x) 10 (by omega);have h1:Wy x 10=some vs:=h1;have Yo:=Ih h2;have hz:∀v∈vs,v.size<=1048576:=λv hv=>by have:=Je h2 hv;omega
 have hm:vs.map L8=(LP z++[Xe.e]).map Xe.line:=by
  rw[h2,h.text,Yji,Ybz Yp0,G0];rfl
 unfold TU;rw[h1,Ag];refine Yfr h (by omega) hm hz (λi hi=>?_) (by omega) FU 0 Zb.z0 (Cf _) (by have:=Y5;omega) (by simp) ?_
 .rcases BU.1 hi with hi|hi
  .exact Ys7 h i hi
  .rw[List.mem_singleton.1 hi];trivial
 .rw[LV,Tc,Z8l];rfl
theorem Zyx {x:ByteArray} {z:Zb} (h:KD x z) (hx:x.size<=1048576):MQ x=some (z,true):=by
 have UZ:=Y0a h hx;have ht:∃y,K9 x (Zc [10])=some y/\L8 y=Lib.trimSuffix (L8 x) [10]:=by
  unfold K9;rw[Aj (by omega)];exact⟨_,rfl,rfl⟩
 obtain⟨y,t1,t2⟩:=ht;have hy:y.size<=x.size:=by rw[Z5,t2,Z5];exact Lib.trimSuffix_le _ _
 obtain⟨vs,h1,h2⟩:=KA (x:=y) 10 (by omega);have Yo:=Ih h2;have hz:∀v∈vs,v.size<=1048576:=λv hv=>by have:=Je h2 hv;omega
 unfold MQ;rw[t1,Ag,h1,Ag];rw[h.text,Yji] at t2;by_cases he:LP z=[]
 .have hm:vs.map L8=[Xe.e].map Xe.line:=by
   rw[h2,t2,he];rfl
  refine Z0f h (by omega) hm hz (λi hi=>by rw[List.mem_singleton.1 hi];trivial) (by omega) FU 0 Zb.z0 (Cf _) (by have:=Y5;omega) (by simp) ?_;have:=Z8l z;rw[he] at this;exact this
 .have hm:vs.map L8=(LP z).map Xe.line:=by
   rw[h2,t2,Y3h (by simpa using he),Y9g,tK (by simpa using he) Yp0]
  refine Z0f h (by omega) hm hz (Ys7 h) (by omega) FU 0 Zb.z0 (Cf _) (by have:=Y5;omega) (by simp) ?_;rw[LV,Z8l]
theorem tR (a:List UInt8) (l:List (List UInt8)):Lib.lens (a::l)=a.length+Lib.lens l:=by simp[Lib.lens]
theorem Yya (c:UInt8):∀l:List UInt8,Lib.lens (Y9 c l)+(Y9 c l).length=l.length+1:=by
 intro l
 induction l with
 | nil=>rfl
 | cons x l ih=>
  unfold Y9;split
  .rw[tR,AU,AU];simp;omega
  .split
   .rename_i h;exact absurd h (fA c l)
   .rename_i w r h
    rw[h,tR,AU] at ih;rw[tR,AU,AU,AU];omega
theorem Y64:∀(k:Nat) (l:List (List UInt8)),Lib.lens (l.drop k)<=Lib.lens l:=by
 intro k
 induction k with
 | zero=>intro l;simp
 | succ k ih=>
  intro l;cases l with
  | nil=>simp
  | cons a l=>rw[uD,tR];have:=ih l;omega
theorem Y48 {c:UInt8} {l:List UInt8} {k:Nat} (h:k < (Y9 c l).length):(Lib.join ((Y9 c l).drop k) [32]).length<=l.length:=by
 have h1:=Yya c l;have h2:=Y64 k (Y9 c l);cases hd:(Y9 c l).drop k with
 | nil=>
  have:=congrArg List.length hd;simp at this;omega
 | cons a r=>
  have hr:r.length+1=(Y9 c l).length - k:=by
   have:=congrArg List.length hd;simp at this;omega
  rw[Lib.join_length];rw[hd] at h2;simp;omega
theorem Yuj {x:ByteArray} {z:Zb} {j:Nat} (h:EV x z j) {p:Zo} (hp:Qf p.at_/\Qf p.Ah/\(W6 p.Bm=true\/p.Bm=Zj.z0)) (hx:L8 x≠[]):EV x {z with Al:=z.Al++[p]} (j+1):=by
 refine⟨by have:=h.FC;simp;omega,λq hq=>?_,h.w,h.s,λ_=>hx⟩;rcases BU.1 hq with hq|hq
 .exact h.Al q hq
 .rw[List.mem_singleton.1 hq];exact hp
theorem EV.next {x:ByteArray} {z:Zb} {j:Nat} (h:EV x z j):EV x z (j+1):={h with FC:=by have:=h.FC;omega}
theorem EV.waits {x:ByteArray} {z:Zb} {j:Nat} (h:EV x z j) {l:List Int} (hl:l.length < 1048577/\∀v∈l,Qf v):EV x {z with waits:=l} (j+1):={h with FC:=by have:=h.FC;show z.Al.length<=_;omega,w:=hl}
theorem EV.A4 {x:ByteArray} {z:Zb} {j:Nat} (h:EV x z j) {l:List Int} (hl:l.length < 1048577/\∀v∈l,Qf v):EV x {z with A4:=l} (j+1):={h with FC:=by have:=h.FC;show z.Al.length<=_;omega,s:=hl}
theorem Ytq (x:ByteArray):EV x Zb.z0 0:=⟨by simp,λp hp=>by simp at hp,⟨by simp,λv hv=>by simp at hv⟩,⟨by simp,λv hv=>by simp at hv⟩,λh=>absurd rfl h⟩
theorem Yox {x a:ByteArray} {c:UInt8} {vs ws:List ByteArray} (h:vs.map L8=Y9 c (L8 x)) (ha:a∈vs) (h2:ws.map L8=Y9 32 (L8 a)) (hw:2<=ws.length):L8 x≠[]:=λe=>by
 have h1:=Je h ha;have h3:x.size=0:=by rw[Z5,e];rfl
 have h4:L8 a=[]:=by
  have:(L8 a).length=0:=by rw[<-Z5];omega
  exact Gz this
 exact Z7h h2 hw h4
theorem Yb8 {x:ByteArray} (hx:x.size<=1048576):∃r,TU x=some r/\Pb x r:=by
 obtain⟨vs,h1,h2⟩:=HA (x:=x) 10 (by omega);have h1:Wy x 10=some vs:=h1;have Yo:=Ih h2;have key:∀(m j:Nat) (z:Zb),j<=vs.length->vs.length - j < m->EV x z j->∃r,TT x m z vs (j:Int)=some r/\Pb x r:=by
  intro m
  induction m with
  | zero=>intro j z _ h;omega
  | succ m ih=>
   intro j z hj hm hz;show ∃r,Ju x (TT x m) z vs (j:Int)=some r/\_;unfold Ju;by_cases hc:j < vs.length
   .have Mp:=B5 hc
    have Ww:=Je h2 Mp;obtain⟨ws,w1,w2⟩:=HA (x:=vs[j]) 32 (by omega);have w1:Wy vs[j] 32=some ws:=w1;have hw:=Ih w2;have i0:idx ws 0=some ws[0]:=Zx (k:=0) (by omega);have s1:Yt ws 1 (ws.length:Int)=some ((ws.drop 1).take (ws.length - 1)):=Qi (a:=1) (by omega) (B2 _);rw[Aj (by simpa using hc),Zx hc,Ag,w1,Ag,i0,Ag,Ye (by omega)];obtain⟨l,l1,l2,l3⟩:=Yas (ws:=(ws.drop 1).take (ws.length - 1)) (by simp;omega);have hl:l.length < 1048577:=by rw[l2];simp;omega
    split
    .rw[s1,Ag,l1,Ag]
     exact ih (j+1) _ (by omega) (by omega) (hz.waits ⟨hl,l3⟩)
    .split
     .rw[s1,Ag,l1,Ag]
      exact ih (j+1) _ (by omega) (by omega) (hz.A4 ⟨hl,l3⟩)
     .split
      .rename_i h3
       have h3:ws.length > 3:=by have:=of_decide_eq_true h3;omega
       have SI:Yt ws 1 3=some ((ws.drop 1).take (3 - 1)):=Qi (a:=1) (b:=3) (by omega) (by omega);obtain⟨d,d1,d2,d3⟩:=Yas (ws:=(ws.drop 1).take (3 - 1)) (by simp;omega);have hd:d.length=2:=by rw[d2];simp;omega
       have i1:idx ws 1=some ws[1]:=Zx (k:=1) (by omega);have i2:idx ws 2=some ws[2]:=Zx (k:=2) (by omega);have z0:=Je w2 (B5 (l:=ws) (n:=0) (by omega));have z1:=Je w2 (B5 (l:=ws) (n:=1) (by omega));have z2:=Je w2 (B5 (l:=ws) (n:=2) (by omega));have hmn:∃k:Nat,k<=vs[j].size/\D2 ((vs[j].size:Nat):Int) (Zn (Zn (Zn ((ws[0]'(by omega)).size:Int) ((ws[1]'(by omega)).size:Int)) ((ws[2]'(by omega)).size:Int)) 3)=(k:Int):=by
        rw[fL (by omega)];unfold D2;split
        .exact⟨(ws[0]'(by omega)).size+(ws[1]'(by omega)).size+(ws[2]'(by omega)).size+3,by omega,by omega⟩
        .exact⟨vs[j].size,B2 _,rfl⟩
       obtain⟨k,k1,k2⟩:=hmn;obtain⟨y,y1,y2⟩:=SB (x:=vs[j]) (a:=k) (b:=vs[j].size) k1 (by rw[Z5];exact B2 _);have hy:y.size<=1048576:=by
        rw[Z5,y2,FZ,gN,<-Z5];omega
       obtain⟨q,q1,q2⟩:=Ymj hy;have j0:idx d 0=some d[0]:=Zx (k:=0) (by omega);have j1:idx d 1=some d[1]:=Zx (k:=1) (by omega);have UZ:=hz.FC;rw[SI,Ag,d1,Ag,i1,Ag,i2,Ag,k2,y1,Ag,q1,Ag,j0,Ag,j1,Ag,Yp (by simp;omega) (by simp;omega),Ag];refine ih (j+1) _ (by omega) (by omega) (Yuj hz (p:=⟨d[0],d[1],q.1⟩) ⟨d3 _ (B5 _),d3 _ (B5 _),?_⟩ (Yox h2 Mp w2 (by omega)));rcases q2 with rfl|⟨_,q3⟩
       .exact .inr rfl
       .exact .inl q3.1
      .exact ih (j+1) _ (by omega) (by omega) hz.next
   .rw[Ak (by simpa using hc),Z4t (hz.n (by omega)),Ag]
    obtain⟨r,e1,e2,_⟩:=tQ hz (by omega);exact⟨r,e1,e2⟩
 unfold TU;rw[h1,Ag];exact key FU 0 _ (Cf _) (by have:=Y5;omega) (Ytq x)
theorem Ybu {x:ByteArray} (hx:x.size<=1048576):∃r,MQ x=some r/\Pb x r:=by
 have ht:∃y,K9 x (Zc [10])=some y/\L8 y=Lib.trimSuffix (L8 x) [10]:=by
  unfold K9;rw[Aj (by omega)];exact⟨_,rfl,rfl⟩
 obtain⟨y,t1,t2⟩:=ht;have hy:y.size<=x.size:=by rw[Z5,t2,Z5];exact Lib.trimSuffix_le _ _
 obtain⟨vs,h1,h2⟩:=KA (x:=y) 10 (by omega);have Yo:=Ih h2;have uU:L8 y≠[]->L8 x≠[]:=λh e=>by
  have:x.size=0:=by rw[Z5,e];rfl
  have:(L8 y).length=0:=by rw[<-Z5];omega
  exact h (Gz this)
 have key:∀(m j:Nat) (z:Zb),j<=vs.length->vs.length - j < m->EV x z j->∃r,Q6 x m z vs (vs.length:Int) (j:Int)=some r/\Pb x r:=by
  intro m
  induction m with
  | zero=>intro j z _ h;omega
  | succ m ih=>
   intro j z hj hm hz;show ∃r,Jz x (Q6 x m) z vs (vs.length:Int) (j:Int)=some r/\_;unfold Jz;by_cases hc:j < vs.length
   .have Mp:=B5 hc
    have Ww:=Je h2 Mp;obtain⟨ws,w1,w2⟩:=KA (x:=vs[j]) 32 (by omega);have hw:=Ih w2;have hwz:∀w∈ws,w.size<=281474976710656:=λw Gg=>by have:=Je w2 Gg;omega
    have i0:idx ws 0=some ws[0]:=Zx (k:=0) (by omega);have s1:Yt ws 1 (ws.length:Int)=some ((ws.drop 1).take (ws.length - 1)):=Qi (a:=1) (by omega) (B2 _);rw[Aj (by simpa using hc),Zx hc,Ag,w1,Ag,i0,Ag];have j4:∀b:Bool,∃r,RI x (Q6 x m) z ws vs (vs.length:Int) (j:Int) b=some r/\Pb x r:=λb=>by
     unfold RI;rw[Ye (by omega)];split
     .obtain⟨l,l1,l2,l3,_⟩:=Zvo (ws:=(ws.drop 1).take (ws.length - 1)) (by simp;omega) λw Gg=>hwz w (FX (FY Gg))
      have hl:l.1.length < 1048577:=by simp at l3;omega
      rw[s1,Ag,l1,Ag];split
      .exact⟨_,rfl,.inl rfl⟩
      .rw[i0,Ag]
       split
       .exact ih (j+1) _ (by omega) (by omega) (hz.waits ⟨hl,l2⟩)
       .exact ih (j+1) _ (by omega) (by omega) (hz.A4 ⟨hl,l2⟩)
     .exact ih (j+1) _ (by omega) (by omega) hz.next
    have j2:∀b:Bool,(b=true->3 < ws.length)->∃r,Kc x (Q6 x m) z ws vs (vs.length:Int) (j:Int) b=some r/\Pb x r:=λb hb=>by
     unfold Kc;split
     .rename_i Jm
      have h3:=hb Jm;have SI:Yt ws 1 3=some ((ws.drop 1).take (3 - 1)):=Qi (a:=1) (b:=3) (by omega) (by omega);have s3:Yt ws 3 (ws.length:Int)=some ((ws.drop 3).take (ws.length - 3)):=Qi (a:=3) (by omega) (B2 _);have ht3:(ws.drop 3).take (ws.length - 3)=ws.drop 3:=D6 (by simp);obtain⟨d,d1,d2,_,d4⟩:=Zvo (ws:=(ws.drop 1).take (3 - 1)) (by simp;omega) λw Gg=>hwz w (FX (FY Gg));have Gi:(Lib.join ((ws.drop 3).map L8) (L8 (Zc [32]))).length<=1048576:=by
       rw[Zz,List.map_drop,w2];have:=Y48 (c:=32) (l:=L8 vs[j]) (k:=3) (by rw[<-w2];simpa using h3);rw[<-Z5] at this;omega
      obtain⟨q,q1,q2⟩:=Ykm (x:=⟨(Lib.join ((ws.drop 3).map L8) (L8 (Zc [32]))).toArray⟩) (by rw[Z5,Xp (Lib.join _ _)];exact Gi);rw[SI,Ag,d1,Ag,s3,Ag,ht3,Nd (by simp;omega) (by omega),Ag,q1,Ag];unfold bB;rw[Ye (by omega)];by_cases hd:d.2=true
      .rw[Ak (by simp[hd])]
       by_cases hq:q.2=true
       .have IA:d.1.length=2:=by rw[d4 hd];simp;omega
        have j0:idx d.1 0=some d.1[0]:=Zx (k:=0) (by omega);have j1:idx d.1 1=some d.1[1]:=Zx (k:=1) (by omega);have UZ:=hz.FC;rw[Ak (by simp[hq]),j0,Ag,j1,Ag,Yp (by simp;omega) (by simp;omega),Ag];refine ih (j+1) _ (by omega) (by omega) (Yuj hz (p:=⟨d.1[0],d.1[1],q.1⟩) ⟨d2 _ (B5 _),d2 _ (B5 _),?_⟩ (uU (Yox h2 Mp w2 (by omega))));rcases q2 with rfl|⟨_,q3⟩
        .exact .inr rfl
        .exact .inl q3.1
       .rw[Aj (by simp[hq])]
        exact⟨_,rfl,.inl rfl⟩
      .rw[Aj (by simp[hd]),Aj rfl]
       exact⟨_,rfl,.inl rfl⟩
     .rw[i0,Ag]
      split
      .exact j4 true
      .exact j4 _
    split
    .exact j2 _ λh=>by have:=of_decide_eq_true h;omega
    .exact j2 false λh=>by cases h
   .rw[Ak (by simpa using hc),Z4i (hz.n (by omega)),Ag]
    obtain⟨r,e1,e2,_⟩:=tQ hz (by omega);exact⟨r,e1,e2⟩
 unfold MQ;rw[t1,Ag,h1,Ag];exact key FU 0 _ (Cf _) (by have:=Y5;omega) (Ytq x)
theorem Yle {x:ByteArray} (hx:x.size<=1048576):∃r,TU x=some r/\MQ x=some r/\Pb x r:=by
 obtain⟨r,h1,h2⟩:=Yb8 hx;obtain⟨q,h3,h4⟩:=Ybu hx;refine⟨r,h1,?_,h2⟩;rcases h2 with rfl|⟨hr,hc⟩
 .rcases h4 with rfl|⟨hq,hd⟩
  .exact h3
  .rw[Ybv hd hx] at h1
   injection h1 with h1;injection h1 with _ h1;cases h1
 .rw[Zyx hc hx]
  obtain⟨r1,r2⟩:=r;simp only at hr;rw[hr]
def FW:List Zs->Zf->Nat->Zf×Int
 | [],m,_=>(m,-1)
 | d::r,m,k=>if d.Ap=1 then FW r m (k+1) else if (Wj m d.write d.addr d.size d.value).2.2=d.Ap/\(Wj m d.write d.addr d.size d.value).2.1=d.value then FW r (Wj m d.write d.addr d.size d.value).1 (k+1) else (m,(k:Int))
theorem Y3e {m:Zf} {d:Zs} (h:Ef m) (h1:¬d.Ap=1) (h2:(Wj m d.write d.addr d.size d.value).2.2=d.Ap):Ef (Wj m d.write d.addr d.size d.value).1:=by
 by_cases ha:Xv d.addr d.size=true
 .exact (Z9u h ha).1
 .exfalso
  have:(Wj m d.write d.addr d.size d.value).2.2=1:=by
   unfold Wj;rw[Ak (by simp[ha])]
  exact h1 (h2.symm.trans this)
theorem Ydp:∀(l:List Zs) (m:Zf) (k:Nat),Ef m->(FW l m k).2=-1\/(0<=(FW l m k).2/\(FW l m k).2 < (k+l.length:Nat)):=by
 intro l
 induction l with
 | nil=>intro m k _;exact .inl rfl
 | cons d l ih=>
  intro m k h;unfold FW;split
  .have:=ih m (k+1) h;simp only[AU];omega
  .split
   .rename_i h1 h2
    have:=ih _ (k+1) (Y3e h h1 h2.1);simp only[AU];omega
   .right;simp only[AU];omega
theorem Yzh (l:List Zs) (hl:l.length < 1048577):qY l=some (FW l (Zf.mk (List.replicate 192 0) (Zl.mk (List.replicate 4 0) 0 [])) 0):=by
 unfold qY;rw[Yat,Ag];have key:∀(k f:Nat) (m:Zf),k<=l.length->l.length - k < f->Ef m->cK l f m (k:Int)=some (FW (l.drop k) m k):=by
  intro k f
  induction f generalizing k with
  | zero=>intro _ _ h;omega
  | succ f ih=>
   intro m hk hf hm;show Zuz l (cK l f) m k=_;unfold Zuz;by_cases hc:k < l.length
   .rw[D5 hc,Aj (by simpa using hc),Zx hc,Ag,Ye (by omega)]
    unfold FW;by_cases h1:l[k].Ap=1
    .rw[Aj h1,Aj (by simpa using h1)]
     exact ih (k+1) m (by omega) (by omega) hm
    .rw[Ak h1,Ak (by simpa using h1),Ycr _ _ _ _ hm,Ag]
     by_cases h2:(Wj m l[k].write l[k].addr l[k].size l[k].value).2.2=l[k].Ap
     .rw[Ak (by simpa using h2)]
      by_cases h3:(Wj m l[k].write l[k].addr l[k].size l[k].value).2.1=l[k].value
      .rw[Ak (by simpa using h3),Aj ⟨h2,h3⟩]
       exact ih (k+1) _ (by omega) (by omega) (Y3e hm h1 h2)
      .rw[Aj (by simpa using h3),Ak (λh=>h3 h.2)]
     .rw[Aj (by simpa using h2),Ak (λh=>h2 h.1)]
   .rw[Vl (by omega),Ak (by simpa using hc)]
    rfl
 exact key 0 FU _ (Cf _) (by have:=Y5;omega) UR
theorem Yy0 (l:List Zs) (hl:l.length < 1048577):Z88 l=some (FW l (Zf.mk (List.replicate 192 0) (Zl.mk (List.replicate 4 0) 0 [])) 0):=by
 unfold Z88;rw[Ya3,Ag];have key:∀(k f:Nat) (m:Zf),k<=l.length->l.length - k < f->Ef m->nE l f m (k:Int)=some (FW (l.drop k) m k):=by
  intro k f
  induction f generalizing k with
  | zero=>intro _ _ h;omega
  | succ f ih=>
   intro m hk hf hm;show Zv9 l (nE l f) m k=_;unfold Zv9 Zxl;by_cases hc:k < l.length
   .rw[D5 hc,Aj (by simpa using hc),Zx hc,Ag,Ye (by omega)]
    unfold FW;by_cases h1:l[k].Ap=1
    .rw[Aj h1,Aj (by simpa using h1)]
     exact ih (k+1) m (by omega) (by omega) hm
    .rw[Ak h1,Ak (by simpa using h1),Z1t _ _ _ _ hm,Ag]
     by_cases h2:(Wj m l[k].write l[k].addr l[k].size l[k].value).2.2=l[k].Ap
     .rw[Ak (by simpa using h2)]
      by_cases h3:(Wj m l[k].write l[k].addr l[k].size l[k].value).2.1=l[k].value
      .rw[Ak (by simpa using h3),Aj ⟨h2,h3⟩]
       exact ih (k+1) _ (by omega) (by omega) (Y3e hm h1 h2)
      .rw[Aj (by simpa using h3),Ak (λh=>h3 h.2)]
     .rw[Aj (by simpa using h2),Aj rfl,Ak (λh=>h2 h.1)]
   .rw[Vl (by omega),Ak (by simpa using hc)]
    rfl
 exact key 0 FU _ (Cf _) (by have:=Y5;omega) UR
theorem Ypp (m:Zg) (k:Int):-1<=Xb m k/\Xb m k < 512:=by
 have hm:∀x∈Kl (Ai m.queue 0).addr (Ai m.queue 0).size (Ai m.queue 0).Ay,0<=x/\x < 512:=λx hx=>(dL hx).2;unfold Xb;generalize Kl (Ai m.queue 0).addr (Ai m.queue 0).size (Ai m.queue 0).Ay=l at hm ⊢;split
 .unfold Ai
  rw[N2];cases h:l[k.toNat]? with
  | none=>exact⟨by show (-1:Int)<=0;decide,by show (0:Int) < 512;decide⟩
  | some a=>
   have:=hm a (Eh h);rw[Ga];omega
 .omega
theorem X1 {x:Int} (h:-1<=x/\x < 100000):Bz x:=⟨by omega,by omega⟩
theorem Yda {b:Za} (h:CP b) (s:Zb) (hn:b.now < 4000):(J9 b s).2.B7:=by
 have eP:=h.now;have h1:=sZ h s;have e1:=eN b s;have hI:Y0 (Xq b s).now (Xq b s):=by rw[e1.1];exact h1
 have h2:=sT s (by rw[e1.1];exact h.now.1) hI;have hr:(if LM b.Aa=true then (Xw (Z0 (Xq b s) s).1 s).1 else -1)=-1\/Zm (Z0 (Xq b s) s).1.Ad (Xw (Z0 (Xq b s) s).1 s).1=true/\(if LM b.Aa=true then (Xw (Z0 (Xq b s) s).1 s).1 else -1)=(Xw (Z0 (Xq b s) s).1 s).1:=by
  split
  .rename_i hr
   have e3:=Yl7 (Xq b s) s;have e4:(Xq b s).Aa=b.Aa:=e1.2.2.2.2.2.2.1;have:=Y2k h2.1 s (h2.2 (by rw[e3.1,e4];exact hr));rcases this.C0 with hg|hg
   .exact .inl hg
   .exact .inr ⟨hg.1,rfl⟩
  .exact .inl rfl
 have W8:=Kq h2.1.Ad;have ha:=Ypp (Ai b.m b.addr.Ah) b.addr.An;have hd:=Ypp (Ai b.m b.Aa.Ah) b.Aa.An;have FB:b.addr.live=true->0<=b.addr.Ah/\b.addr.Ah < 4:=λhl=>by
  have:=X5 (h.alive hl).1;have:=Kq h.Ad;omega
 have H4:b.Aa.live=true->0<=b.Aa.Ah/\b.Aa.Ah < 4:=λhl=>by
  have:=X5 (h.B9 hl).1;have:=Kq h.Ad;omega
 rw[Y5s];refine⟨X1 ?_,X1 ?_,X1 ?_,X1 ?_,X1 ?_,X1 ?_⟩
 .show -1<=b.now/\b.now < 100000;omega
 .show -1<=(if b.addr.live=true then b.addr.Ah else -1)/\(if b.addr.live=true then b.addr.Ah else -1) < 100000
  split
  .rename_i hl;have:=FB hl;omega
  .omega
 .show -1<=(if b.addr.live=true then Xb (Ai b.m b.addr.Ah) b.addr.An else -1)/\(if b.addr.live=true then Xb (Ai b.m b.addr.Ah) b.addr.An else -1) < 100000
  split<;>omega
 .show -1<=(if b.Aa.live=true then b.Aa.Ah else -1)/\(if b.Aa.live=true then b.Aa.Ah else -1) < 100000
  split
  .rename_i hl;have:=H4 hl;omega
  .omega
 .show -1<=(if b.Aa.live=true then Xb (Ai b.m b.Aa.Ah) b.Aa.An else -1)/\(if b.Aa.live=true then Xb (Ai b.m b.Aa.Ah) b.Aa.An else -1) < 100000
  split<;>omega
 .show -1<=(if LM b.Aa=true then (Xw (Z0 (Xq b s) s).1 s).1 else -1)/\(if LM b.Aa=true then (Xw (Z0 (Xq b s) s).1 s).1 else -1) < 100000
  rcases hr with hr|⟨hr,e⟩
  .rw[hr];omega
  .rw[e];have:=X5 hr;omega
theorem Yh2 {b:Za} (h:CP b) {d:Zs} (hd:d∈b.log):d.B7:=by
 obtain⟨h1,h2,h3,h4,h5,h6⟩:=h.log.1 d hd;have hn:=h.now;have hc:=Kq h.Ad;have hw:=X5 h2;refine⟨X1 ?_,X1 ?_,X1 ?_,?_⟩
 .omega
 .omega
 .have:=Jq h3;omega
 .simp only[Y8,Bg,Bj] at h5
  have:=UA d.size;exact⟨by omega,by omega⟩
theorem tS (x:ByteArray) (l:List UInt8):((x.toList == (Zc l).toList)=true)=(L8 x=l):=by rw[Wt,Bj,Zz]
theorem SK (x:ByteArray):((x.toList == ByteArray.empty.toList)=true)=(L8 x=[]):=by rw[Wt,Bj,FP]
theorem Yur (x:ByteArray):((!(x.toList == ByteArray.empty.toList))=true)=¬(L8 x=[]):=by rw[Wt,FP];simp
theorem Yzf (xs:List ByteArray) (y:ByteArray) (hl:xs.length < 1000):∃n,MJ xs y=some n/\(n < 0↔∀x∈xs,L8 x≠L8 y):=by
 have key:∀(m k:Nat),k<=xs.length->xs.length - k < m->(∀x∈xs.take k,L8 x≠L8 y)->∃n,Rq xs y m (k:Int)=some n/\(n < 0↔∀x∈xs,L8 x≠L8 y):=by
  intro m
  induction m with
  | zero=>intro k _ h;omega
  | succ m ih=>
   intro k hk hm Cu;show ∃n,Ou xs y (Rq xs y m) (k:Int)=some n/\_;unfold Ou;by_cases hc:k < xs.length
   .rw[Aj (by simpa using hc),Zx hc,Ag,Ye (by omega),Wt]
    by_cases he:L8 xs[k]=L8 y
    .rw[Aj (by simpa using he)]
     exact⟨_,rfl,λh=>by omega,λh=>absurd he (h _ (B5 hc))⟩
    .rw[Ak (by simpa using he)]
     refine ih (k+1) (by omega) (by omega) λx hx=>?_;rw[List.take_succ_eq_append_getElem hc] at hx;rcases BU.1 hx with hx|hx
     .exact Cu x hx
     .rw[List.mem_singleton.1 hx];exact he
   .rw[Ak (by simpa using hc)]
    rw[D6 (by omega)] at Cu;exact⟨_,rfl,λ_=>Cu,λ_=>by omega⟩
 exact key FU 0 (Cf _) (by have:=Y5;omega) (by simp)
def GY (t:ByteArray):Prop:=t.size<=100000/\∀c∈L8 t,c≠10
theorem GY.str {l:List UInt8} (h:l.length<=100000/\∀c∈l,c≠10):GY (Zc l):=⟨by rw[Z3];exact h.1,h.2⟩
theorem GY.mk {l:List UInt8} (h:l.length<=100000/\∀c∈l,c≠10):GY ⟨l.toArray⟩:=⟨by rw[Z5];exact h.1,h.2⟩
theorem ED (v:Int):∀c∈Lib.itoa v,c≠10:=λc h=>KC h (.inr (.inr rfl))
theorem GY.dec {v:Int} (h:Bz v):GY (Zy v):=⟨by have:=Xn h;omega,ED v⟩
theorem GY.dash {v:Int} (h:Bz v):GY (DI v):=by
 unfold DI;split
 .exact .str (by decide)
 .exact .dec h
theorem Yso (x:Int):∀c∈L8 (Zip x),c≠10:=by
 unfold Zip
 repeat' split
 all_goals decide
theorem Y8s (x:Int):∀c∈L8 (JZ x),c≠10:=by
 unfold JZ
 repeat' split
 all_goals decide
theorem fP {x:Int}:∀c∈L8 (DI x),c≠10:=by
 unfold DI;split
 .decide
 .exact ED x
theorem Xh {a b:List UInt8} (ha:∀c∈a,c≠10) (hb:∀c∈b,c≠10):∀c∈a++b,c≠10:=λc h=>(BU.1 h).elim (ha c) (hb c)
theorem Y7p (d:Zs):∀c∈FV d,c≠10:=by
 unfold FV;refine Xh (Xh (Xh (Xh (Xh (Xh (Xh (Xh (Xh (Xh (ED _) ?_) (ED _)) ?_) ?_) ?_) (ED _)) ?_) (ED _)) ?_) (Yso _)
 .decide
 .decide
 .split<;>decide
 .decide
 .decide
 .decide
theorem Y8b (w:Zp):∀c∈H7 w,c≠10:=by
 unfold H7 S9;refine Xh (Xh (Xh (Xh (Xh (Xh (Xh (Xh (Xh (Xh (Xh (Xh (Xh (Xh (Xh (Xh (ED _) ?_) (Y8s _)) ?_) fP) ?_) fP) ?_) fP) ?_) fP) ?_) ?_) ?_) (Yso _)) ?_) fP
 all_goals first|decide|(split<;>decide)
theorem Y8i {w:Zp} (h:w.B7):(H7 w).length<=300:=by
 have h1:=Wx h.A3;have h2:=Jj h.Ah;have h3:=Jj h.addr;have h4:=Jj h.from_;have h5:=Jj h.Aa;have h6:=Jj h.C0;have h7:=eZ w.Ap;have h8:=Z8m w.kind;rw[Z5] at h2 h3 h4 h5 h6 h7 h8;unfold H7 S9;simp only[Cy,AU,Bo];split<;>simp<;>omega
def FD:Zf:=Zf.mk (List.replicate 192 0) (Zl.mk (List.replicate 4 0) 0 [])
def Nw (b:Za):ByteArray:=if b.log=[] then Zc [45] else (⟨(FV (Ai b.log ((b.log.length:Int) - 1))).toArray⟩++Zc [32,111,102,32])++Zy (b.log.length:Int)
def Nx (s:Zb) (b:Za) (x:ByteArray):ByteArray×Za:=
 if L8 x=[115,116,101,112] then (if b.now=4000 then (Zc [101,110,100],b) else (⟨(H7 (J9 b s).2).toArray⟩,(J9 b s).1))
 else if L8 x=[111,117,116] then (Zy (H6 b s).2,(H6 b s).1)
 else if L8 x=[105,100,108,101] then (if ER b=true then Zc [121,101,115] else Zc [110,111],b)
 else if L8 x=[111,107] then (DI (FW b.log FD 0).2,b)
 else (Nw b,b)
theorem tT {b:Za} (h:CP b) (s:Zb):CP (H6 b s).1/\Bz (H6 b s).2:=by
 unfold H6;split
 .have:=Xb3 s _ h rfl
  have hn:=this.1.now;have hb:=h.now;exact⟨this.1,X1 ⟨by show -1<=(CY s (4000 - b.now).toNat b).now - b.now;omega,by show (CY s (4000 - b.now).toNat b).now - b.now < _;omega⟩⟩
 .exact⟨h,X1 ⟨by show (-1:Int)<=0;decide,by show (0:Int) < 100000;decide⟩⟩
theorem tU {b:Za} (h:CP b):b.log.length < 5000:=by
 have:=tC (by have:=h.now;omega) h.log;have:=h.now;omega
theorem Y9q {b:Za} (h:CP b):GY (Nw b):=by
 have hl:=tU h;unfold Nw;split
 .exact .str (by decide)
 .rename_i Yg
  have hp:0 < b.log.length:=Cw.2 Yg;have hd:=Yh2 h (Gn (xs:=b.log) (i:=(b.log.length:Int) - 1) (by omega) (by omega));have h1:=tG hd;have h2:=Xn (X1 (x:=(b.log.length:Int)) (by omega));refine⟨?_,?_⟩
  .rw[Yv,Yv,Z3,Z5,Xp]
   simp only[AU,Bo];omega
  .rw[Xz,Xz,Xp,Zz,Yh]
   exact Xh (Xh (Y7p _) (by decide)) (ED _)
theorem Y81 {s:Zb} {b:Za} (h:CP b) (x:ByteArray):GY (Nx s b x).1/\CP (Nx s b x).2:=by
 have hn:=h.now;have hl:=tU h;unfold Nx
 repeat' split
 .exact⟨.str (by decide),h⟩
 .have hs:=Yda h s (by omega)
  exact⟨.mk ⟨by have:=Y8i hs;omega,Y8b _⟩,(s8 h s (by omega)).1⟩
 .exact⟨.dec (tT h s).2,(tT h s).1⟩
 .exact⟨.str (by decide),h⟩
 .exact⟨.str (by decide),h⟩
 .have:=Ydp b.log FD 0 UR
  exact⟨.dash (X1 (by omega)),h⟩
 .exact⟨Y9q h,h⟩
theorem Y4y (c:Zi) {s:Zb} {b:Za} (h:CP b) (hs:s.sm) (x:ByteArray):q6 c s b x=some ((Nx s b x).1,⟨c,s,some (Nx s b x).2⟩):=by
 have hn:=h.now;have Dw:=h.sm;have hl:=tU h;unfold q6 Nx;simp only[tS,Bj];by_cases h1:L8 x=[115,116,101,112]
 .rw[Aj h1,Aj h1]
  by_cases h2:b.now=4000
  .rw[Aj h2,Aj h2]
  .rw[Ak h2,Ak h2,Yeb h hs (by omega),Ag,Yq4 (Yda h s (by omega))]
   rfl
 .rw[Ak h1,Ak h1]
  by_cases h2:L8 x=[111,117,116]
  .rw[Aj h2,Aj h2,Yys Dw hs,Ag,Hz (tT h s).2]
   rfl
  .rw[Ak h2,Ak h2]
   by_cases h3:L8 x=[105,100,108,101]
   .rw[Aj h3,Aj h3,Yf7 Dw.ml,Ag]
    cases ER b<;>rfl
   .rw[Ak h3,Ak h3]
    by_cases h4:L8 x=[111,107]
    .have ha:=Ydp b.log FD 0 UR
     rw[Aj h4,Aj h4,Yzh b.log (by omega),Ag,show (Zf.mk (List.replicate 192 0) (Zl.mk (List.replicate 4 0) 0 []))=FD from rfl,UT (X1 (by omega))];rfl
    .rw[Ak h4,Ak h4]
     unfold Nw;by_cases h5:b.log=[]
     .rw[Aj h5,Aj (by rw[h5];rfl)]
     .have hp:0 < b.log.length:=Cw.2 h5
      have hd:=Yh2 h (Gn (xs:=b.log) (i:=(b.log.length:Int) - 1) (by omega) (by omega));have h1:=tG hd;have h2:=Xn (X1 (x:=(b.log.length:Int)) (by omega));have h6:(⟨(FV (Ai b.log ((b.log.length:Int) - 1))).toArray⟩:ByteArray).size<=100:=by rw[Z5,Xp];exact h1
      rw[Ak h5,Ak (by omega),Xc (by omega) (by omega),Xm (by omega) (by omega),Ag,Yqq hd,Ag,We (by rw[Z3];simp only[AU,Bo];omega),Ag,Hz (X1 (by omega)),Ag,We (by rw[Yv,Z3];simp only[AU,Bo];omega)];rfl
def HB (d:Z1):K6:=K6.mk d.Ad d.script (d.DO.getD Za.z0) d.DO.isSome
def Pc (x:ByteArray):Prop:=L8 x=[115,116,101,112]\/L8 x=[111,117,116]\/L8 x=[105,100,108,101]\/L8 x=[111,107]\/L8 x=[108,111,103]
instance (x:ByteArray):Decidable (Pc x):=by unfold Pc;infer_instance
def fQ (c:Zi):ByteArray:=if Ys c=true then ⟨(DU c).toArray⟩ else Zc [110,111,110,101]
def HC (d:Z1) (x:ByteArray):ByteArray×Z1:=
 if L8 x=[110,101,119] then (if Ys d.Ad=true then (Zc [111,107],{d with DO:=some (Wf d.Ad)}) else (Zc [110,111],d))
 else if L8 x=[99,111,110,102] then (fQ d.Ad,d)
 else if Pc x then (match d.DO with
  | none=>(Zc [110,111,110,101],d)
  | some b=>((Nx d.script b x).1,{d with DO:=some (Nx d.script b x).2}))
 else (Zc [119,104,97,116],d)
structure Eu (n:Nat) (d:Z1):Prop where
 Ad:d.Ad.Ab.length < 1048577
 Al:d.script.Al.length<=4000*n
 reqs:∀p∈d.script.Al,p.Bm.sm
 waits:d.script.waits.length < 1048577
 A4:d.script.A4.length < 1048577
 JW:∀w∈d.script.waits,-9223372036854775808<=w/\w < 9223372036854775808
 DO:∀b,d.DO=some b->CP b
theorem Eu.sm {n:Nat} {d:Z1} (h:Eu n d) (hn:n<=100):d.script.sm:=⟨by have:=h.Al;omega,h.reqs,h.waits,h.A4,h.JW⟩
theorem Eu.mono {n m:Nat} {d:Z1} (h:Eu n d) (hn:n<=m):Eu m d:={h with Al:=by have:=h.Al;omega}
theorem fR (m:Ze):∀c∈mW m,c≠10:=by
 unfold mW;split
 .exact Xh (Xh (Xh (Xh (ED _) (by decide)) (ED _)) (by decide)) (ED _)
 .exact ED _
theorem Y4x {c:Zi} (h:Ys c=true):GY ⟨(DU c).toArray⟩:=by
 obtain⟨hq,hw,hr,hs,hk,hn,hm⟩:=fE h;have i1:=Wx (X1 (x:=c.Aw) (by omega));have i2:=Wx (X1 (x:=c.Au) (by omega));have i3:=Wx (X1 (x:=c.Ao) (by omega));have i4:=Wx (X1 (x:=c.Ar) (by omega));have i5:=Wx (X1 (x:=c.Am) (by omega));have key:∀l:List Ze,(∀m∈l,m∈c.Ab)->(l.flatMap λm=>[32]++mW m).length<=63*l.length/\∀y∈l.flatMap λm=>[32]++mW m,y≠10:=by
  intro l
  induction l with
  | nil=>intro _;exact⟨by simp,λy hy=>by simp at hy⟩
  | cons m l ih=>
   intro hl;have h1:=ih λy hy=>hl y (Cp _ hy);have h2:=hm m (hl m BJ);have h3:=Y3w (X1 (x:=m.weight) (by omega)) (X1 (x:=m.every) (by omega)) (X1 (x:=m.cap) (by omega));rw[Fa];exact⟨by simp only[Cy,AU,Bo];omega,Xh (Xh (by decide) (fR m)) h1.2⟩
 have h1:=key c.Ab λm hm=>hm;unfold DU UY;refine .mk ⟨?_,Xh (Xh (Xh (Xh (Xh (Xh (Xh (Xh (Xh (ED _) (by decide)) (ED _)) (by decide)) (ED _)) (by decide)) (ED _)) (by decide)) (ED _)) h1.2⟩;simp only[Cy,AU,Bo] at h1 ⊢;omega
theorem Yo0 (c:Zi):L8 ⟨(DU c).toArray⟩≠[]:=Yup c
theorem Y49 {n:Nat} {d:Z1} (h:Eu n d) (x:ByteArray):GY (HC d x).1/\Eu n (HC d x).2:=by
 unfold HC;split
 .split
  .rename_i hc
   exact⟨.str (by decide),{h with DO:=λb hb=>by cases hb;exact Y6t hc}⟩
  .exact⟨.str (by decide),h⟩
 .split
  .refine⟨?_,h⟩
   unfold fQ;split
   .rename_i hc;exact Y4x hc
   .exact .str (by decide)
  .split
   .split
    .exact⟨.str (by decide),h⟩
    .rename_i b hb
     have:=Y81 (s:=d.script) (h.DO b hb) x;exact⟨this.1,{h with DO:=λb' Yx=>by cases Yx;exact this.2}⟩
   .exact⟨.str (by decide),h⟩
def Va (d:Z1) (x:ByteArray):Option (ByteArray×Z1):=match d.DO with
 | none=>bF d.Ad d.script x
 | some b=>cL d.Ad d.script b x
def Vb (d:Z1) (x:ByteArray):Option (ByteArray×Z1):=match d.DO with
 | none=>oJ d.Ad d.script x
 | some b=>oP d.Ad d.script b x
theorem Ykf {n:Nat} {d:Z1} (h:Eu n d) (hn:n<=100) (x:ByteArray):Va d x=some (HC d x):=by
 obtain⟨c,s,o⟩:=d;have hc:=h.Ad;have hs:=h.sm hn;have hq:∀{β:Type} (a b:Option β),(if ¬L8 (if Ys c=true then (⟨(DU c).toArray⟩:ByteArray) else ByteArray.empty)=[] then a else b)=if Ys c=true then a else b:=λa b=>by
  by_cases hg:Ys c=true
  .rw[Aj hg,Aj hg,Aj (Yo0 c)]
  .rw[Ak hg,Ak hg,Ak (by simp[FP])]
 cases o with
 | none=>
  unfold Va HC bF RJ;simp only[tS,Yur];by_cases h1:L8 x=[110,101,119]
  .rw[Aj h1,Aj h1,Yg8 c hc,Ag]
   unfold S7;by_cases hg:Ys c=true
   .rw[Aj hg,Aj hg];rfl
   .rw[Ak hg,Ak hg];rfl
  .rw[Ak h1,Ak h1]
   by_cases h2:L8 x=[99,111,110,102]
   .rw[Aj h2,Aj h2,Zzz hc,Ag,hq]
    unfold fQ;by_cases hg:Ys c=true
    .rw[Aj hg,Aj hg,Aj hg]
    .rw[Ak hg,Ak hg]
   .rw[Ak h2,Ak h2]
    unfold Pc;by_cases a1:L8 x=[115,116,101,112]
    .simp[a1]
    .by_cases a2:L8 x=[111,117,116]
     .simp[a2]
     .by_cases a3:L8 x=[105,100,108,101]
      .simp[a3]
      .by_cases a4:L8 x=[111,107]
       .simp[a4]
       .by_cases a5:L8 x=[108,111,103]
        .simp[a5]
        .simp[a1,a2,a3,a4,a5]
 | some b=>
  have hb:=h.DO b rfl;unfold Va HC cL Jy;simp only[tS,Yur];by_cases h1:L8 x=[110,101,119]
  .rw[Aj h1,Aj h1,Yg8 c hc,Ag]
   unfold S7;by_cases hg:Ys c=true
   .rw[Aj hg,Aj hg];rfl
   .rw[Ak hg,Ak hg];rfl
  .rw[Ak h1,Ak h1]
   by_cases h2:L8 x=[99,111,110,102]
   .rw[Aj h2,Aj h2,Zzz hc,Ag,hq]
    unfold fQ;by_cases hg:Ys c=true
    .rw[Aj hg,Aj hg,Aj hg]
    .rw[Ak hg,Ak hg]
   .rw[Ak h2,Ak h2,Y4y c hb hs x]
    unfold Pc;by_cases a1:L8 x=[115,116,101,112]
    .simp[a1]
    .by_cases a2:L8 x=[111,117,116]
     .simp[a2]
     .by_cases a3:L8 x=[105,100,108,101]
      .simp[a3]
      .by_cases a4:L8 x=[111,107]
       .simp[a4]
       .by_cases a5:L8 x=[108,111,103]
        .simp[a5]
        .simp[a1,a2,a3,a4,a5]
theorem Y7q {n:Nat} {d:Z1} (h:Eu n d) (hn:n<=100) (x:ByteArray):Yab (HB d) x=some (HB (HC d x).2,(HC d x).1):=by
 obtain⟨c,s,o⟩:=d;have hc:=h.Ad;have hs:=h.sm hn;obtain⟨k,f1,f2⟩:=Yzf [(Zc [115,116,101,112]),(Zc [111,117,116]),(Zc [108,111,103]),(Zc [105,100,108,101]),(Zc [111,107])] x (by simp);simp only[Ce,Ip,or_false,forall_eq_or_imp,forall_eq,Zz] at f2;have hq:∀{β:Type} (a b:Option β),(if L8 (if Ys c=true then (⟨(DU c).toArray⟩:ByteArray) else ByteArray.empty)=[] then a else b)=if Ys c=true then b else a:=λa b=>by
  by_cases hg:Ys c=true
  .rw[Aj hg,Aj hg,Ak (Yo0 c)]
  .rw[Ak hg,Ak hg,Aj (by simp[FP])]
 rw[show HB ⟨c,s,o⟩=K6.mk c s (o.getD Za.z0) o.isSome from rfl];unfold Yab HC;dsimp only;rw[f1];simp only[tS,SK,Bj,Ag];by_cases h1:L8 x=[110,101,119]
 .rw[Aj h1,Aj h1,Yw7 c hc,Ag]
  unfold S7;by_cases hg:Ys c=true
  .rw[Aj hg,Aj hg];rfl
  .rw[Ak hg,Ak hg];rfl
 .rw[Ak h1,Ak h1]
  by_cases h2:L8 x=[99,111,110,102]
  .rw[Aj h2,Aj h2,Yay hc,Ag,hq]
   unfold fQ;by_cases hg:Ys c=true
   .rw[Aj hg,Aj hg,Aj hg];rfl
   .rw[Ak hg,Ak hg];rfl
  .rw[Ak h2,Ak h2]
   by_cases h3:Pc x
   .have hk:¬k < 0:=λhk=>by
     have:=f2.1 hk;unfold Pc at h3;rcases h3 with h3|h3|h3|h3|h3
     .exact this.1 h3.symm
     .exact this.2.1 h3.symm
     .exact this.2.2.2.1 h3.symm
     .exact this.2.2.2.2 h3.symm
     .exact this.2.2.1 h3.symm
    rw[Ak hk,Aj h3];cases o with
    | none=>rfl
    | some b=>
     have hb:=h.DO b rfl;have eP:=hb.now;have Dw:=hb.sm;have hl:=tU hb;have Yf:okB b=true:=(tE Dw).2 hb;simp only[Pn,Du,Bn,if_false,Ga];unfold Nx;by_cases a1:L8 x=[115,116,101,112]
     .rw[Aj a1,Aj a1,Yvx Dw hs,Ag]
      by_cases a2:b.now=4000
      .rw[Aj a2,Aj a2];rfl
      .rw[Ak a2,Ak a2]
       unfold Yu5;rw[Aj ⟨Yf,a2⟩,Yq6 (Yda hb s (by omega))];rfl
     .rw[Ak a1,Ak a1]
      by_cases a2:L8 x=[111,117,116]
      .rw[Aj a2,Aj a2,Yfy Dw hs,Ag,Wr (tT hb s).2]
       rfl
      .rw[Ak a2,Ak a2]
       by_cases a3:L8 x=[105,100,108,101]
       .rw[Aj a3,Aj a3,Ys6 Dw,Ag]
        unfold Y3d;rw[Yf];cases ER b<;>rfl
       .rw[Ak a3,Ak a3]
        by_cases a4:L8 x=[111,107]
        .have ha:=Ydp b.log FD 0 UR
         rw[Aj a4,Aj a4,Yy0 b.log (by omega),Ag,show (Zf.mk (List.replicate 192 0) (Zl.mk (List.replicate 4 0) 0 []))=FD from rfl,US (X1 (by omega))];rfl
        .rw[Ak a4,Ak a4]
         unfold Nw;by_cases a5:b.log=[]
         .rw[Aj a5,Aj (by rw[a5];rfl)];rfl
         .have hp:0 < b.log.length:=Cw.2 a5
          have hd:=Yh2 hb (Gn (xs:=b.log) (i:=(b.log.length:Int) - 1) (by omega) (by omega));have h1:=tG hd;have h2:=Xn (X1 (x:=(b.log.length:Int)) (by omega));have h6:(⟨(FV (Ai b.log ((b.log.length:Int) - 1))).toArray⟩:ByteArray).size<=100:=by rw[Z5,Xp];exact h1
          rw[Ak a5,Ak (by omega),Xc (by omega) (by omega),Xm (by omega) (by omega),Ag,Yrq hd,Ag,We (by rw[Z3];simp only[AU,Bo];omega),Ag,Wr (X1 (by omega)),Ag,We (by rw[Yv,Z3];simp only[AU,Bo];omega)];rfl
   .have hk:k < 0:=f2.2 (by
     unfold Pc at h3;simp only[not_or] at h3;exact⟨λe=>h3.1 e.symm,λe=>h3.2.1 e.symm,λe=>h3.2.2.2.2 e.symm,λe=>h3.2.2.1 e.symm,λe=>h3.2.2.2.1 e.symm⟩)
    rw[Aj hk,Ak h3];rfl
theorem Y61 (c:UInt8) (l:List UInt8):(Lib.contains l [c]=false/\∀x∈l,x≠c)\/∃w r,l=w++c::r/\(∀x∈w,x≠c)/\Lib.contains l [c]=true/\Lib.cut l [c]=(w,r,true):=by
 have h1:=Lib.index_one l c;have NQ:=Lib.indexByte_ge l c;by_cases h0:Lib.indexByte l c=-1
 .have:=Lib.indexByte_none h0
  refine .inl ⟨by unfold Lib.contains;rw[h1,h0];rfl,λx hx e=>?_⟩;subst e;obtain⟨k,hk⟩:=HF hx;exact this k hk
 .obtain⟨o,ho⟩:∃o:Nat,Lib.indexByte l c=o:=⟨(Lib.indexByte l c).toNat,by omega⟩
  obtain⟨g1,g2⟩:=Lib.indexByte_some ho;obtain⟨g3,g4⟩:=CZ.1 g1;refine .inr ⟨l.take o,l.drop (o+1),?_,λx hx e=>?_,by unfold Lib.contains;rw[h1,ho];simp,by unfold Lib.cut;rw[h1,ho,Aj (by omega)];rfl⟩
  .rw[<-g4,List.getElem_cons_drop,gH]
  .subst e
   obtain⟨k,hk⟩:=HF hx;rw[Dg] at hk;split at hk
   .rename_i WY;exact g2 k WY hk
   .cases hk
def Vc (c:Zi) (s:Zb) (o:Option Za) (x w:ByteArray) (v:Bool):Option (ByteArray×Z1):=
 if v=true then
  (Z6 x (Zc [10])).bind λn0=>(MQ (x++Zc [10])).bind λr0=>
  if (!r0.2)=true then some (Zc [110,111],Z1.mk c s o)
  else if (w.toList == (Zc [119,97,105,116,115]).toList)=true then some (Zc [111,107],Z1.mk c {s with waits:=r0.1.waits} o)
  else if (w.toList == (Zc [115,97,121,115]).toList)=true then some (Zc [111,107],Z1.mk c {s with A4:=r0.1.A4} o)
  else (Yz 80 s.Al r0.1.Al).bind λz0=>some (Zc [111,107],Z1.mk c {s with Al:=z0} o)
 else some (Zc [119,104,97,116],Z1.mk c s o)
def Y3u (c:Zi) (s:Zb) (o:Option Za) (x:ByteArray):Option (ByteArray×Z1):=
 (MP x (Zc [32])).bind λr1=>
 if (r1.1.toList == (Zc [99,111,110,102]).toList)=true then
  (L3 r1.2.1).bind λr2=>if (!r2.2)=true then some (Zc [110,111],Z1.mk c s o) else some (Zc [111,107],Z1.mk r2.1 Zb.z0 none)
 else if (r1.1.toList == (Zc [119,97,105,116,115]).toList)=true then Vc c s o x r1.1 (r1.1.toList == (Zc [119,97,105,116,115]).toList)
 else if (r1.1.toList == (Zc [115,97,121,115]).toList)=true then Vc c s o x r1.1 (r1.1.toList == (Zc [115,97,121,115]).toList)
 else Vc c s o x r1.1 (r1.1.toList == (Zc [112,111,115,116]).toList)
theorem Y6k (d:Z1) (x:ByteArray):Vb d x=Y3u d.Ad d.script d.DO x:=by
 obtain⟨c,s,o⟩:=d;cases o<;>rfl
theorem Qf.i64 {v:Int} (h:Qf v):-9223372036854775808<=v/\v < 9223372036854775808:=by
 have:=h.r;unfold Qf at h;omega
theorem Y5v {x:ByteArray} {z:Zb} (h:KD x z):z.Al.length<=x.size:=by
 have hf:∀ps:List Zo,ps.length<=(ps.flatMap D4).length:=λps=>by
  induction ps with
  | nil=>simp
  | cons p ps ih=>
   rw[Fa,Cy,AU];have:1<=(D4 p).length:=by unfold D4;simp
   omega
 have h1:=congrArg List.length h.text;rw[<-Z5] at h1;unfold Pa at h1;rw[Cy] at h1;have:=hf z.Al;omega
theorem Y6y {n:Nat} {d:Z1} (h:Eu n d) (hn:n<=99) {x:ByteArray} (hx:x.size<=3500) {w r:List UInt8} (hw:L8 x=w++32::r) (Cu:∀c∈w,c≠32) (fM:Lib.cut (L8 x) [32]=(w,r,true)):
  ∃q:ByteArray×Z1,Vb d x=some q/\TV (HB d) x=some (HB q.2,q.1)/\GY q.1/\Eu (n+1) q.2:=by
 obtain⟨c,s,o⟩:=d;have hm:Eu (n+1) (Z1.mk c s o):=h.mono (by omega);have hs:=h.sm (by omega);obtain⟨ws,e1,e2⟩:=HA (x:=x) 32 (by omega);have e1:Wy x 32=some ws:=e1;rw[hw,OV Cu] at e2;obtain⟨a,ar,rfl⟩:∃a ar,ws=a::ar:=by
  cases ws with
  | nil=>cases e2
  | cons a ar=>exact⟨a,ar,rfl⟩
 rw[C7] at e2;injection e2 with e2 e3;have Yo:0 < ar.length:=by
  have h1:=congrArg List.length e3;rw[KH] at h1;have:=fA 32 r;have:=Cw.2 this;omega
 have Ww:x.size=w.length+1+r.length:=by rw[Z5,hw];simp;omega
 have fS:MP x (Zc [32])=some (⟨w.toArray⟩,⟨r.toArray⟩,true):=by
  unfold MP;rw[Aj (by omega),show (Lib.cut x.data.toList (Zc [32]).data.toList)=(w,r,true) from fM]
 have a0:idx (a::ar) 0=some a:=rfl;have DK:w=[99,111,110,102]->Hs x 5 (x.size:Int)=some ⟨r.toArray⟩:=λhwc=>by
  have:=SB (x:=x) (a:=5) (b:=x.size) (by rw[Ww,hwc];simp) (by rw[Z5];exact B2 _);obtain⟨y,y1,y2⟩:=this;have:y=⟨r.toArray⟩:=K4 (by
   rw[y2,hw,hwc,Xp,Ww,hwc];simp)
  rw[<-this];exact y1
 have hb:∀l,(a.toList == (Zc l).toList)=decide (w=l):=λl=>by rw[Wt,Zz,e2]
 have E1:∀l,((⟨w.toArray⟩:ByteArray).toList == (Zc l).toList)=decide (w=l):=λl=>by rw[Wt,Zz,Xp]
 have jN:∀{β:Type} (J:Bool->β),(if decide (w=[119,97,105,116,115])=true then J (decide (w=[119,97,105,116,115])) else if decide (w=[115,97,121,115])=true then J (decide (w=[115,97,121,115])) else J (decide (w=[112,111,115,116])))=J (decide (w=[119,97,105,116,115]\/w=[115,97,121,115]\/w=[112,111,115,116])):=λJ=>by
  by_cases g2:w=[119,97,105,116,115]
  .simp[g2]
  .by_cases g3:w=[115,97,121,115]
   .simp[g3]
   .simp[g2,g3]
 have w1:TV (HB ⟨c,s,o⟩) x=if decide (w=[99,111,110,102])=true then ((Hs x 5 (x.size:Int)).bind λs0=>(Ly s0).bind λr3=>if (!r3.2)=true then some (HB ⟨c,s,o⟩,Zc [110,111]) else some (K6.mk r3.1 Zb.z0 Za.z0 false,Zc [111,107]))
   else aS (HB ⟨c,s,o⟩) x (a::ar) (decide (w=[119,97,105,116,115]\/w=[115,97,121,115]\/w=[112,111,115,116])):=by
  unfold TV;rw[e1,Ag,Ak (by simp only[AU,Bj];omega),a0,Ag,hb,hb,hb,hb,jN]
 have w2:Vb ⟨c,s,o⟩ x=if decide (w=[99,111,110,102])=true then (L3 ⟨r.toArray⟩).bind λr2=>if (!r2.2)=true then some (Zc [110,111],Z1.mk c s o) else some (Zc [111,107],Z1.mk r2.1 Zb.z0 none)
   else Vc c s o x ⟨w.toArray⟩ (decide (w=[119,97,105,116,115]\/w=[115,97,121,115]\/w=[112,111,115,116])):=by
  rw[Y6k];unfold Y3u;rw[fS,Ag,E1,E1,E1,E1,jN]
 rw[w1,w2];by_cases g1:w=[99,111,110,102]
 .rw[Aj (by simpa using g1),Aj (by simpa using g1),DK g1,Ag]
  obtain⟨q,q1,q2,q3⟩:=Yqh (x:=⟨r.toArray⟩) (by rw[Z5,Xp];omega);rw[q1,q2,Ag,Ag];rcases q3 with rfl|⟨hq,hg⟩
  .exact⟨_,rfl,rfl,.str (by decide),hm⟩
  .rw[hq]
   refine⟨_,rfl,rfl,.str (by decide),⟨?_,by show ([]:List Zo).length<=_;simp,λp hp=>by simp[Zb.z0] at hp,by simp[Zb.z0],by simp[Zb.z0],λv hv=>by simp[Zb.z0] at hv,λb hb=>by cases hb⟩⟩;have:=Kq hg.1;show q.1.Ab.length < _;omega
 .rw[Ak (by simpa using g1),Ak (by simpa using g1)]
  unfold aS Vc;rw[E1,E1];by_cases g2:w=[119,97,105,116,115]\/w=[115,97,121,115]\/w=[112,111,115,116]
  .rw[decide_eq_true g2,Aj rfl,Aj rfl,We (by rw[Z3];simp only[AU,Bo];omega),Ag,Ag]
   have hx1:(x++Zc [10]).size<=3600:=by rw[Yv,Z3];simp only[AU,Bo];omega
   obtain⟨q,q1,q2,q3⟩:=Yle (x:=x++Zc [10]) (by omega);rw[q1,q2,Ag,Ag];rcases q3 with rfl|⟨hq,hg⟩
   .exact⟨_,rfl,rfl,.str (by decide),hm⟩
   .have NT:=Y5v hg
    rw[hq,a0,Ag,hb,hb];simp only[Du,Bn,if_false,Bj];by_cases g3:w=[119,97,105,116,115]
    .rw[Aj g3,Aj g3]
     exact⟨_,rfl,rfl,.str (by decide),{hm with waits:=hg.w.1,JW:=λv hv=>(hg.w.2 v hv).i64}⟩
    .rw[Ak g3,Ak g3]
     by_cases g4:w=[115,97,121,115]
     .rw[Aj g4,Aj g4]
      exact⟨_,rfl,rfl,.str (by decide),{hm with A4:=hg.s.1}⟩
     .have hp:=h.Al
      rw[Ak g4,Ak g4,show (HB ⟨c,s,o⟩).s=s from rfl,Yp (xs:=([]:List Zo)) (by simp only[Bo];have hp:s.Al.length<=4000*n:=hp;omega) (by simp only[Bo];have hp:s.Al.length<=4000*n:=hp;omega),Ag,KJ,Yp (by have hp:s.Al.length<=4000*n:=hp;omega) (by have hp:s.Al.length<=4000*n:=hp;omega),Ag,Ag];refine⟨_,rfl,rfl,.str (by decide),{hm with Al:=?_,reqs:=λp hp=>?_}⟩
      .show (s.Al++q.1.Al).length<=_
       have hp:s.Al.length<=4000*n:=hp;rw[Cy];omega
      .rcases BU.1 hp with hp|hp
       .exact h.reqs p hp
       .exact (dM (hg.reqs p hp).2.2)
  .rw[decide_eq_false g2,Ak (by simp),Ak (by simp)]
   exact⟨_,rfl,rfl,.str (by decide),hm⟩
def J8 (d:Z1) (x:ByteArray):ByteArray×Z1:=((if Lib.contains (L8 x) [32]=true then Vb d x else Va d x).getD (ByteArray.empty,d))
theorem Ydk {n:Nat} {d:Z1} (h:Eu n d) (hn:n<=99) {x:ByteArray} (hx:x.size<=3500):
  (if Lib.contains (L8 x) [32]=true then Vb d x else Va d x)=some (J8 d x)/\TV (HB d) x=some (HB (J8 d x).2,(J8 d x).1)/\GY (J8 d x).1/\Eu (n+1) (J8 d x).2:=by
 unfold J8;rcases Y61 32 (L8 x) with⟨h1,h2⟩|⟨w,r,h1,h2,h3,h4⟩
 .rw[h1,Ak (by simp),Ykf h (by omega)]
  have ha:=Y49 h x;refine⟨rfl,?_,ha.1,ha.2.mono (by omega)⟩;obtain⟨ws,e1,e2⟩:=HA (x:=x) 32 (by omega);have e1:Wy x 32=some ws:=e1;rw[fB h2] at e2;have hl:ws.length=1:=by simpa using congrArg List.length e2
  unfold TV;rw[e1,Ag,Aj (by simp[hl]),Y7q h (by omega)];rfl
 .rw[h3,Aj rfl]
  obtain⟨q,q1,q2,q3,q4⟩:=Y6y h hn hx h1 h2 h4;rw[q1];exact⟨rfl,q2,q3,q4⟩
def EW:List ByteArray->Z1->List UInt8×Z1
 | [],d=>([],d)
 | x::l,d=>if L8 x=[] then EW l d else (L8 (J8 d x).1++[10]++(EW l (J8 d x).2).1,(EW l (J8 d x).2).2)
theorem Y3n {x:ByteArray} (hx:x.size<=3500):R9 x (Zc [32])=some (Lib.contains (L8 x) [32]):=by
 unfold R9;rw[Aj (by omega)];rfl
theorem Ny {α:Type} {c:Prop} {_:Decidable c} {a b a' b':α} (h1:a=a') (h2:b=b'):ite c a b=ite c a' b':=by rw[h1,h2]
theorem tV {α β:Type} {x:Option α} {f g:α->Option β} (h:∀a,f a=g a):x.bind f=x.bind g:=by cases x with|none=>rfl|some a=>exact h a
theorem Yx0 {x0:ByteArray} {vs:List ByteArray} (hz:∀v∈vs,v.size<=3500) (hl:vs.length<=61):∀(m j:Nat) (d:Z1) (out:ByteArray),j<=vs.length->vs.length - j < m->Eu j d->out.size<=200000*j->
  Jp x0 m d out vs (vs.length:Int) (j:Int)=some ⟨(L8 out++(EW (vs.drop j) d).1).toArray⟩:=by
 intro m
 induction m with
 | zero=>intro j d out _ h;omega
 | succ m ih=>
  intro j d out hj hm hd ho;show q7 x0 (Jp x0 m) d out vs (vs.length:Int) (j:Int)=_;have hu:q7 x0 (Jp x0 m) d out vs (vs.length:Int) (j:Int)=if decide ((j:Int) < (vs.length:Int))=true then ((idx vs (j:Int)).bind λa0=>if (a0.toList == ByteArray.empty.toList)=true then Jp x0 m d out vs (vs.length:Int) (Zn (j:Int) 1) else
    (R9 a0 (Zc [32])).bind λr0=>(if r0=true then Vb d a0 else Va d a0).bind λq=>(Z6 q.1 (Zc [10])).bind λ_=>(Z6 out (q.1++Zc [10])).bind λ_=>Jp x0 m q.2 (out++(q.1++Zc [10])) vs (vs.length:Int) (Zn (j:Int) 1)) else some out:=by
   obtain⟨c,s,o⟩:=d;unfold q7;have fin:∀(z:Option (ByteArray×Z1)) (K:Z1->ByteArray->Option ByteArray),(z.bind λr1=>match r1 with
     | (z2,⟨z3,z4,none⟩)=>(Z6 z2 (Zc [10])).bind λn0=>(Z6 out (z2++(Zc [10]))).bind λn1=>K (Z1.mk z3 z4 none) (out++(z2++(Zc [10])))
     | (z2,⟨z3,z4,some z5⟩)=>(Z6 z2 (Zc [10])).bind λn0=>(Z6 out (z2++(Zc [10]))).bind λn1=>K (Z1.mk z3 z4 (some z5)) (out++(z2++(Zc [10]))))=z.bind λq=>(Z6 q.1 (Zc [10])).bind λ_=>(Z6 out (q.1++Zc [10])).bind λ_=>K q.2 (out++(q.1++Zc [10])):=λz K=>by
    cases z with
    | none=>rfl
    | some q=>
     obtain⟨t,c',s',o'⟩:=q;cases o'<;>rfl
   cases o with
   | none=>
    refine Ny (tV λa0=>Ny rfl (tV λr0=>?_)) rfl;cases r0 with
    | true=>exact fin (oJ c s a0) λd o=>Jp x0 m d o vs (vs.length:Int) (Zn (j:Int) 1)
    | false=>exact fin (bF c s a0) λd o=>Jp x0 m d o vs (vs.length:Int) (Zn (j:Int) 1)
   | some b=>
    refine Ny (tV λa0=>Ny rfl (tV λr0=>?_)) rfl;cases r0 with
    | true=>exact fin (oP c s b a0) λd o=>Jp x0 m d o vs (vs.length:Int) (Zn (j:Int) 1)
    | false=>exact fin (cL c s b a0) λd o=>Jp x0 m d o vs (vs.length:Int) (Zn (j:Int) 1)
  rw[hu];by_cases hc:j < vs.length
  .have hv:=hz _ (B5 hc)
   rw[Aj (by simpa using hc),Zx hc,Ag,Ye (by omega),D5 hc,Wt,FP];unfold EW;by_cases he:L8 vs[j]=[]
   .rw[Aj (by simpa using he),Aj he]
    exact ih (j+1) d out (by omega) (by omega) (hd.mono (by omega)) (by omega)
   .obtain⟨a1,a2,a3,a4⟩:=Ydk hd (by omega) hv
    have C5:=a3.1;rw[Ak (by simpa using he),Ak he,Y3n hv,Ag,a1,Ag,We (by rw[Z3];simp only[AU,Bo];omega),Ag,We (by rw[Yv,Z3];simp only[AU,Bo];omega),Ag,ih (j+1) _ _ (by omega) (by omega) a4 (by rw[Yv,Yv,Z3];simp only[AU,Bo];omega),Xz,Xz,Zz];simp only[List.append_assoc]
  .have e:j=vs.length:=by omega
   subst e;rw[Ak (by simp),List.drop_length];unfold EW;rw[Gb];rfl
theorem Yx3 {x0:ByteArray} {vs:List ByteArray} (hz:∀v∈vs,v.size<=3500) (hl:vs.length<=61):∀(m j:Nat) (d:Z1) (out:ByteArray),j<=vs.length->vs.length - j < m->Eu j d->out.size<=200000*j->
  nO x0 m (HB d) vs out (j:Int)=some ⟨(L8 out++(EW (vs.drop j) d).1).toArray⟩:=by
 intro m
 induction m with
 | zero=>intro j d out _ h;omega
 | succ m ih=>
  intro j d out hj hm hd ho;show Zz7 x0 (nO x0 m) (HB d) vs out (j:Int)=_;unfold Zz7;by_cases hc:j < vs.length
  .have hv:=hz _ (B5 hc)
   rw[Aj (by simpa using hc),Zx hc,Ag,Ye (by omega),D5 hc,Wt,FP];unfold EW;by_cases he:L8 vs[j]=[]
   .rw[Aj (by simpa using he),Aj he]
    exact ih (j+1) d out (by omega) (by omega) (hd.mono (by omega)) (by omega)
   .obtain⟨a1,a2,a3,a4⟩:=Ydk hd (by omega) hv
    have C5:=a3.1;rw[Ak (by simpa using he),Ak he,a2,Ag];dsimp only;rw[We (by omega),Ag,We (by rw[Yv,Z3];simp only[AU,Bo];omega),Ag,ih (j+1) _ _ (by omega) (by omega) a4 (by rw[Yv,Yv,Z3];simp only[AU,Bo];omega),Xz,Xz,Zz];simp only[List.append_assoc]
  .have e:j=vs.length:=by omega
   subst e;rw[Ak (by simp),List.drop_length];unfold EW;rw[Gb];rfl
def KE (l:List UInt8):List (List UInt8):=if (Y9 10 l).getLast?=some [] then (Y9 10 l).dropLast else Y9 10 l
def LQ (x:ByteArray):List UInt8:=if 3000 < x.size\/60 < (KE (L8 x)).length then [] else (EW ((KE (L8 x)).map λl=>⟨l.toArray⟩) Z1.z0).1
theorem Yec:Eu 0 Z1.z0:=⟨by decide,by decide,λp hp=>(by cases hp),by decide,by decide,λw hw=>(by cases hw),λb hb=>(by cases hb)⟩
theorem Ysp {ws:List ByteArray} {ls:List (List UInt8)} (h:ws.map L8=ls):ws=ls.map λl=>⟨l.toArray⟩:=by
 subst h;rw[Hg]
 conv=>lhs;rw[<-List.map_id ws]
 refine Pk λa _=>?_;exact K4 rfl
theorem Yxc {α:Type} (xs:List α) (h:0 < xs.length) (hl:xs.length < 4611686018427387904):Yt xs 0 (Xf (xs.length:Int) 1)=some xs.dropLast:=by
 rw[Xc (by omega) (by omega)];unfold Yt;rw[Aj (by omega),List.dropLast_eq_take]
 congr 2
 omega
theorem Y5p {x:ByteArray} (hx:x.size<=1048576):Ys5 x=some ⟨(LQ x).toArray⟩/\cM x=some ⟨(LQ x).toArray⟩:=by
 obtain⟨ws,a1,a2⟩:=KA (x:=x) 10 (by omega);obtain⟨vs,b1,b2⟩:=HA (x:=x) 10 (by omega);have b1:Wy x 10=some vs:=b1;have e:vs=ws:=(Ysp b2).trans (Ysp a2).symm;subst e;have Yg:=fA 10 (L8 x);have hle:=Yo2 10 (L8 x);rw[<-Z5] at hle;have Yo:vs.length=(Y9 10 (L8 x)).length:=by simpa using congrArg List.length a2
 have M1:=Cw.2 Yg;have key:∀us:List ByteArray,us.map L8=KE (L8 x)->RW x us=some ⟨(LQ x).toArray⟩/\TW x us=some ⟨(LQ x).toArray⟩:=λus hu=>by
  have Px:us.length=(KE (L8 x)).length:=by simpa using congrArg List.length hu
  have hum:=Ysp hu;by_cases h1:3000 < x.size
  .have e1:decide ((x.size:Int) > 3000)=true:=by simp;omega
   have e2:LQ x=[]:=Aj (.inl h1);unfold RW TW;rw[e1,e2];exact⟨rfl,rfl⟩
  .have e1:decide ((x.size:Int) > 3000)=false:=by simp;omega
   by_cases h2:60 < (KE (L8 x)).length
   .have e2:LQ x=[]:=Aj (.inr h2)
    have e3:decide ((us.length:Int) > 60)=true:=by simp;omega
    unfold RW TW;rw[e1,e2,e3];exact⟨rfl,rfl⟩
   .have e2:LQ x=(EW us Z1.z0).1:=by
     unfold LQ;rw[Ak (by omega),<-hum]
    have e3:decide ((us.length:Int) > 60)=false:=by simp;omega
    have hz:∀v∈us,v.size<=3500:=λv hv=>by
     have h3:L8 v∈KE (L8 x):=by rw[<-hu];exact List.mem_map_of_mem hv
     have h4:L8 v∈Y9 10 (L8 x):=by
      unfold KE at h3;split at h3
      .exact (List.dropLast_sublist _).subset h3
      .exact h3
     have:=Ykd h4;rw[<-Z5,<-Z5] at this;omega
    have g1:=Yx0 (x0:=x) hz (by omega) FU 0 Z1.z0 ByteArray.empty (Cf _) (by have:=Y5;omega) Yec (by decide);have g2:=Yx3 (x0:=x) hz (by omega) FU 0 Z1.z0 ByteArray.empty (Cf _) (by have:=Y5;omega) Yec (by decide);unfold RW TW;rw[e1,e2,e3];exact⟨g1,g2⟩
 have UO:idx vs (Xf (vs.length:Int) 1)=some (vs[vs.length - 1]'(by omega)):=by
  rw[Xc (by omega) (by omega),show ((vs.length:Int) - 1)=((vs.length - 1:Nat):Int) by omega];exact Zx _
 have CI:(Y9 10 (L8 x)).getLast?=some (L8 (vs[vs.length - 1]'(by omega))):=by
  rw[<-a2,List.getLast?_eq_getElem?,Dt,KH,CB (by omega)];rfl
 unfold Ys5 cM;rw[a1,b1,Ag,Ag,UO,Ag,Ag,Wt,FP];by_cases h:L8 (vs[vs.length - 1]'(by omega))=[]
 .rw[Aj (by simpa using h),Aj (by simpa using h),Yxc vs (by omega) (by omega),Ag,Ag]
  have:=key vs.dropLast (by
   unfold KE;rw[Aj (by rw[CI,h]),List.map_dropLast,a2])
  exact⟨this.2,this.1⟩
 .rw[Ak (by simpa using h),Ak (by simpa using h)]
  have:=key vs (by
   unfold KE;rw[Ak (by rw[CI];simpa using h),a2])
  exact⟨this.2,this.1⟩
abbrev LR:=Za->Zh->Zf×Int×Int
def Y6s (f:LR) (b:Za) (x:Zh):Zs:=Zs.mk b.now x.Ah (Ai (Ai b.m x.Ah).queue 0).write (Xb (Ai b.m x.Ah) x.An) (Ai (Ai b.m x.Ah).queue 0).size (if x.Ap=0 then (f b x).2.1 else 0) x.Ap
def fT (f:LR) (b:Za) (x:Zh):Za:=
 {b with model:=if x.Ap=0 then (f b x).1 else b.model,log:=b.log++[Y6s f b x],m:=b.m.set x.Ah.toNat (Jo (Ai b.m x.Ah)),Af:=if b.Af=x.Ah/\(Ai b.m x.Ah).done+1=Zw (Ai b.m x.Ah) then -1 else b.Af,held:=if b.Af=x.Ah/\(Ai b.m x.Ah).done+1=Zw (Ai b.m x.Ah) then 0 else b.held}
def Ij (f:LR) (b:Za) (s:Zb):Za×Bool×Int:=
 if b.Aa.live=false then (b,true,0)
 else if b.Aa.left > 0 then ({b with Aa:={b.Aa with left:=b.Aa.left - 1}},false,0)
 else if b.Aa.Ap≠0/\b.Aa.second=false then
  (if b.addr.live then {X4 {b with Aa:={b.Aa with second:=true}} b.addr with addr:=Zh.z0} else {b with Aa:={b.Aa with second:=true}},false,b.Aa.Ap)
 else if b.Aa.Ap=2 then (X4 {b with Aa:=Zh.z0,m:=b.m.set b.Aa.Ah.toNat {Ai b.m b.Aa.Ah with tries:=(Ai b.m b.Aa.Ah).tries+1}} b.Aa,true,b.Aa.Ap)
 else if b.Aa.Ap=3 then (X4 {b with Aa:=Zh.z0,m:=b.m.set b.Aa.Ah.toNat {Ai b.m b.Aa.Ah with Ax:=true},splits:=b.splits.set b.Aa.Ah.toNat (GS b.Ad s b.At)} b.Aa,true,b.Aa.Ap)
 else (fT f {b with Aa:=Zh.z0} b.Aa,true,b.Aa.Ap)
def Ymz (f:LR) (b:Za) (s:Zb) (x:Zh):Int×Int:=
 if (Ai b.m x.Ah).broken=true\/Yl (Xb (Ai b.m x.Ah) x.An)=0 then (1,0) else
 (if EP s b.At=2/\Yl (Xb (Ai b.m x.Ah) x.An)≠3/\(Ai b.m x.Ah).tries < b.Ad.Ao then 2
  else if EP s b.At=3/\Yl (Xb (Ai b.m x.Ah) x.An)=2/\(Ai b.m x.Ah).Ax=false/\x.Ah≠b.Af then 3 else (f b x).2.2,if Yl (Xb (Ai b.m x.Ah) x.An)=3 then GR b.Ad s b.At+2 else GR b.Ad s b.At)
def Vd (f:LR) (b:Za) (s:Zb):Za:=if b.addr.live then {b with Aa:={b.addr with left:=(Ymz f b s b.addr).2,Ap:=(Ymz f b s b.addr).1},addr:=Zh.z0,At:=b.At+1} else b
def Yu1 (f:LR) (b:Za) (s:Zb):Int×Za:=Kk (Vd f (Ym b) s)
def Ik (f:LR) (c:Za) (s:Zb) (t:Int):Za:=
 if (Ij f c s).2.1=true then {(Yu1 f (Ij f c s).1 s).2 with now:=t+1} else {(Ij f c s).1 with now:=t+1}
theorem Ys4 (b:Za) (s:Zb):(J9 b s).1=Ik Em (Xq b s) s b.now:=by
 show (if (Ij Em (Xq b s) s).2.1=true then _ else _:Za×Zp).1=_;unfold Ik;split<;>rfl
def Yiz (m:Zf) (w:Bool) (a s v:Int):Zf×Int×Int:=
 if Xv a s=true then
  (if Yl a=1\/Yl a=2 then (if w then ({m with mem:=GO m.mem a s v},v,0) else (m,JR m.mem a s,0))
  else if Yl a=3/\s=2 then (if (DQ m.dev w (a - 192) v).2.2=true then ({m with dev:=(DQ m.dev w (a - 192) v).1},(DQ m.dev w (a - 192) v).2.1,0) else (m,0,1))
  else (m,0,1))
 else (m,0,1)
theorem Y44 {m:Zf} {w:Bool} {a s v:Int} (h:w=true->Y8 v s=true):Wj m w a s v=Yiz m w a s v:=by
 unfold Wj Yiz;have:(!(w&&!Y8 v s))=true:=by cases w<;>simp at h ⊢;exact h
 rw[this,KK]
def Il (b:Za) (x:Zh):Zf×Int×Int:=Yiz b.model (Ai (Ai b.m x.Ah).queue 0).write (Xb (Ai b.m x.Ah) x.An) (Ai (Ai b.m x.Ah).queue 0).size (LJ (Ai b.m x.Ah) x.An)
def Ve (q:List Zj):Prop:=∀r∈q,r.write=true->∀k:Int,Y8 (Ai r.Aa k) r.size=true
def Df (b:Za):Prop:=∀m∈b.m,Ve m.queue
theorem Yvi {α:Type} [Inhabited α] (l:List α) (i:Int):Ai l i∈l\/Ai l i=default:=by
 unfold Ai;rw[N2];cases h:l[i.toNat]? with
 | none=>exact .inr rfl
 | some a=>exact .inl (Eh h)
theorem SL {b:Za} (h:Df b) (i:Int):Ve (Ai b.m i).queue:=by
 rcases Yvi b.m i with h1|h1
 .exact h _ h1
 .rw[h1];intro r hr;exact absurd hr (by show r ∉ [];simp)
theorem fU {b:Za} (h:Df b) (x:Zh):Em b x=Il b x:=by
 refine Y44 λhw=>?_;unfold LJ;rw[Aj hw];rcases Yvi (Ai b.m x.Ah).queue 0 with h1|h1
 .exact SL h x.Ah _ h1 hw _
 .rw[h1] at hw;cases hw
theorem SM {b c:Za} (h:Df b) {i:Nat} {x:Zg} (hx:Ve x.queue) (hc:c.m=b.m.set i x):Df c:=by
 intro m hm;rw[hc] at hm;rcases Vj hm with h1|rfl
 .exact h m h1
 .exact hx
theorem HD {b c:Za} (h:Df b) (hc:c.m=b.m):Df c:=by
 intro m hm;rw[hc] at hm;exact h m hm
theorem SN (m:Zg):(Dp m).queue=m.queue:=by unfold Dp;split<;>rfl
theorem Xb2 (m:Zg):(X8 m).queue=m.queue:=by unfold X8;split<;>rfl
theorem Y7y {m:Zg} (h:Ve m.queue):Ve (Jo m).queue:=by
 unfold Jo;split
 .exact h
 .split
  .exactλr hr=>h r (uC hr)
  .exact h
theorem Z6a {b:Za} (h:Df b) (x:Zh):Df (X4 b x):=by
 have hq:Ve (Dp (Ai b.m x.Ah)).queue:=by rw[SN];exact SL h _
 unfold X4;split
 .exact SM h hq rfl
 .split<;>exact SM h hq rfl
theorem Yrr {f:LR} {b:Za} (h:Df b) (x:Zh):Df (fT f b x):=SM h (Y7y (SL h _)) rfl
theorem Yy1 {f:LR} {b:Za} (h:Df b) (s:Zb):Df (Ij f b s).1:=by
 unfold Ij;split
 .exact h
 split
 .exact HD h rfl
 split
 .split
  .exact HD (Z6a (b:={b with Aa:={b.Aa with second:=true}}) (HD h rfl) _) rfl
  .exact HD h rfl
 split
 .exact Z6a (SM (c:={b with Aa:=Zh.z0,m:=_}) h (x:={Ai b.m b.Aa.Ah with tries:=(Ai b.m b.Aa.Ah).tries+1}) (SL h _) rfl) _
 split
 .exact Z6a (SM (c:={b with Aa:=Zh.z0,m:=_,splits:=_}) h (x:={Ai b.m b.Aa.Ah with Ax:=true}) (SL h _) rfl) _
 .exact Yrr (b:={b with Aa:=Zh.z0}) (HD h rfl) _
theorem Y1t {b:Za} (h:Df b):Df (Ym b):=by
 unfold Ym;split
 .exact HD (SM (c:={b with m:=_}) h (x:={Ai b.m b.Af with broken:=true}) (SL h _) rfl) rfl
 .exact h
theorem Y3k {f:LR} {b:Za} (h:Df b) (s:Zb):Df (Vd f b s):=by
 unfold Vd;split
 .exact HD h rfl
 .exact h
theorem SO (b:Za):(Qg b).2.2.m=b.m:=by
 unfold Qg;split
 .rfl
 .split
  .rfl
  .split<;>rfl
theorem Y22 {b:Za} (h:Df b):Df (Kk b).2:=by
 have hp:Df (Qg b).2.2:=HD h (SO b);unfold Kk;split
 .exact hp
 .exact SM hp (x:=X8 (Ai (Qg b).2.2.m (Qg b).1)) (by rw[Xb2];exact SL hp _) rfl
theorem Y6n {b:Za} (h:Df b) {s:Zb} (hs:DS s b.now=[]):Df (Xq b s):=by
 have:(Xq b s).m=b.m:=by
  unfold Xq Qv;rw[hs];split<;>rfl
 exact HD h this
theorem Pd {c:Za} (h:Df c) (s:Zb) (t:Int):Ik Em c s t=Ik Il c s t/\Df (Ik Il c s t)/\(Ik Il c s t).now=t+1:=by
 have h1:Ij Em c s=Ij Il c s:=by
  unfold Ij;have:fT Em {c with Aa:=Zh.z0} c.Aa=fT Il {c with Aa:=Zh.z0} c.Aa:=by
   unfold fT Y6s;rw[fU (b:={c with Aa:=Zh.z0}) (HD h rfl)]
  rw[this]
 have hf:Df (Ij Il c s).1:=Yy1 h s;have hb:=Y1t hf;have h2:Vd Em (Ym (Ij Il c s).1) s=Vd Il (Ym (Ij Il c s).1) s:=by
  unfold Vd Ymz;rw[fU hb]
 refine⟨?_,?_,?_⟩
 .unfold Ik Yu1
  rw[h1,h2]
 .unfold Ik Yu1
  split
  .exact HD (Y22 (Y3k hb s)) rfl
  .exact HD hf rfl
 .unfold Ik
  split<;>rfl
def Nz (s:Zb):Nat->Za->Za
 | 0,b=>b
 | f+1,b=>if H5 s b then Nz s f (Ik Il (Xq b s) s b.now) else b
theorem fV (s:Zb) (hs:∀p∈s.Al,p.at_=0):∀(f:Nat) {b:Za},Df b->0 < b.now->CY s f b=Nz s f b:=by
 intro f
 induction f with
 | zero=>intro b _ _;rfl
 | succ f ih=>
  intro b h hn;have hp:DS s b.now=[]:=by
   unfold DS;rw[Veg];intro p hp;rw[hs p hp];simp;omega
  have hc:=Pd (Y6n h hp) s b.now;unfold CY Nz;rw[Ys4,hc.1];split
  .exact ih hc.2.1 (by rw[hc.2.2];omega)
  .rfl
def cW:Zi:=⟨[⟨1,false,0,0⟩,⟨2,false,0,0⟩],1,1,1,2,4⟩
def wW (a v:Int):Zj:=⟨true,a,2,0,false,[v]⟩
def rW (a:Int):Zj:=⟨false,a,2,0,false,[]⟩
def sW (a v:Int):Zb:=⟨[⟨0,0,wW a v⟩,⟨0,0,rW a⟩],[1,0],[2,0,3]⟩
def bW (a v:Int):Za:={Wf cW with m:=[{Zg.z0 with queue:=[wW a v,rW a]},Zg.z0]}
def oneW (a v:Int):Za:=Ik Il (Qv (Xa (bW a v))) (sW a v) 0
def Dr (a v:Int):Za:=Nz (sW a v) 3999 (oneW a v)
def nW (a:Int):Int:=if a < 128 then 10 else 18
def N0 (v:Int):Int:=v % 256+256*(v / 256 % 256+256*(v / 256 / 256 % 256+256*(v / 256 / 256 / 256 % 256+256*0)))
theorem SP {v:Int} (h:0<=v/\v<=255):N0 v=v:=by unfold N0;omega
structure Pe (a v:Int):Prop where
 now:(Dr a v).now=nW a
 log:(Dr a v).log=[⟨6,0,true,a,2,v,0⟩,⟨nW a - 1,0,false,a,2,N0 v,0⟩]
 quiet:ER (Dr a v)=true
 al:Xv a 2=true
 sl:Yl a=if a < 128 then 1 else 2
 rd:JR (GO FD.mem a 2 v) a 2=N0 v
 bu:F8 a 2 0=true
def KF:Nat->Int->Prop
 | 0,_=>True
 | n+1,v=>KF n v/\Pe (4*(n:Int)) v
theorem SQ {n:Nat} {v:Int} (h:KF n v) (f:Pe (4*(n:Int)) v):KF (n+1) v:=⟨h,f⟩
theorem allW (v:Int):KF 48 v:=by
 iterate 48 refine SQ ?_ ⟨by kernel_rfl,by kernel_rfl,by kernel_rfl,by kernel_rfl,by kernel_rfl,by kernel_rfl,by kernel_rfl⟩
 trivial
theorem Xak {n:Nat} {v:Int} (h:KF n v):∀k:Nat,k < n->Pe (4*(k:Int)) v:=by
 induction n with
 | zero=>intro k hk;omega
 | succ n ih=>
  intro k hk;rcases KN k n with h1|h1
  .exact ih h.1 k h1
  .have:k=n:=by omega
   subst this;exact h.2
theorem fW (v:Int) {k:Int} (h0:0<=k) (h1:k < 48):Pe (4*k) v:=by
 have:=Xak (allW v) k.toNat (by omega)
 rwa [show ((k.toNat:Nat):Int)=k by omega] at this
theorem Yvm {m:Zg} {r:Zj} (h:W6 r=true) (hl:m.queue.length≠4):J3 m r={m with queue:=m.queue++[r]}:=Aj ⟨h,hl⟩
theorem Y5w {a v:Int} (h:Y8 v 2=true) (b:F8 a 2 0=true):W6 (wW a v)=true:=by
 show (F8 a 2 0&&(decide (((1:Nat):Int)=Xy 0)&&(Y8 v 2&&true)))=true;rw[b,h];rfl
theorem Y4q {a:Int} (b:F8 a 2 0=true):W6 (rW a)=true:=by
 show (F8 a 2 0&&(decide (((0:Nat):Int)=0)&&true))=true;rw[b];rfl
theorem SR {a v:Int} (h:Y8 v 2=true) (b:F8 a 2 0=true):Xq (Wf cW) (sW a v)=Qv (Xa (bW a v)):=by
 have e1:Q2 (Wf cW) ⟨0,0,wW a v⟩={Wf cW with m:=[{Zg.z0 with queue:=[wW a v]},Zg.z0]}:=by
  show (if Zm cW 0=true then {Wf cW with m:=(Wf cW).m.set 0 (J3 (Ai (Wf cW).m 0) (wW a v))} else Wf cW)=_;rw[Aj (by decide),show Ai (Wf cW).m 0=Zg.z0 from rfl,Yvm (Y5w h b) (by decide)];rfl
 have e2:Q2 {Wf cW with m:=[{Zg.z0 with queue:=[wW a v]},Zg.z0]} ⟨0,0,rW a⟩=bW a v:=by
  show (if Zm cW 0=true then {Wf cW with m:=[{Zg.z0 with queue:=[wW a v]},Zg.z0].set 0 (J3 {Zg.z0 with queue:=[wW a v]} (rW a))} else _)=_;rw[Aj (by decide),Yvm (Y4q b) (by simp)];rfl
 show Qv (Xa (Q2 (Q2 (Wf cW) ⟨0,0,wW a v⟩) ⟨0,0,rW a⟩))=_;rw[e1,e2]
theorem Xb7 {a v:Int} (h:Y8 v 2=true):Df (bW a v):=by
 intro m hm;have:m={Zg.z0 with queue:=[wW a v,rW a]}\/m=Zg.z0:=by simpa [bW] using hm
 rcases this with rfl|rfl
 .intro r hr hw k
  have:r=wW a v\/r=rW a:=by simpa using hr
  rcases this with rfl|rfl
  .show Y8 (Ai [v] k) 2=true
   rcases Yvi [v] k with h1|h1
   .have:Ai [v] k=v:=by simpa using h1
    rw[this];exact h
   .rw[h1];decide
  .cases hw
 .intro r hr;cases hr
theorem SS (a v:Int):LN (sW a v)=0:=by kernel_rfl
theorem Pf {a v:Int} (h:Y8 v 2=true) (b:F8 a 2 0=true):H6 (Wf cW) (sW a v)=(Dr a v,(Dr a v).now):=by
 have ho:okB (Wf cW)=true:=by kernel_rfl
 have hg:Df (Qv (Xa (bW a v))):=HD (Xb7 h) (by unfold Qv;split<;>rfl);have hc:=Pd hg (sW a v) 0;have hn:CY (sW a v) 4000 (Wf cW)=Dr a v:=by
  have e:CY (sW a v) 4000 (Wf cW)=if H5 (sW a v) (Wf cW) then CY (sW a v) 3999 (J9 (Wf cW) (sW a v)).1 else Wf cW:=rfl
  have hl:=SS a v;have HR:H5 (sW a v) (Wf cW):=⟨by decide,.inr (by rw[hl];decide)⟩;rw[e,Aj HR,Ys4,SR h b];show CY (sW a v) 3999 (Ik Em (Qv (Xa (bW a v))) (sW a v) 0)=_;rw[hc.1];refine fV (sW a v) (λp hp=>?_) 3999 hc.2.1 (by rw[hc.2.2];decide);have:p=⟨0,0,wW a v⟩\/p=⟨0,0,rW a⟩:=by simpa [sW] using hp
  rcases this with rfl|rfl<;>rfl
 unfold H6;rw[Aj ho];show (CY (sW a v) 4000 (Wf cW),(CY (sW a v) 4000 (Wf cW)).now - 0)=_;rw[hn,Int.sub_zero]
theorem Xai {a v:Int} (hv:Y8 v 2=true) (F:Pe a v) (hr:N0 v=v):(FW (Dr a v).log FD 0).2=-1:=by
 rw[F.log,hr];have hs:Yl a=1\/Yl a=2:=by
  rw[F.sl];split
  .exact .inl rfl
  .exact .inr rfl
 have e1:Wj FD true a 2 v=({FD with mem:=GO FD.mem a 2 v},v,0):=by
  unfold Wj;rw[Aj (by simp[F.al,hv]),Aj hs];rfl
 have e2:Wj {FD with mem:=GO FD.mem a 2 v} false a 2 v=({FD with mem:=GO FD.mem a 2 v},v,0):=by
  unfold Wj;rw[Aj (by simp[F.al]),Aj hs];show (_,JR (GO FD.mem a 2 v) a 2,(0:Int))=_;rw[F.rd,hr]
 simp[FW,e1,e2]
def Vf:List UInt8:=[99,111,110,102,32,49,32,49,32,49,32,50,32,52,32,49,32,50]
def Vg:List UInt8:=[119,97,105,116,115,32,49,32,48]
def Vh:List UInt8:=[115,97,121,115,32,50,32,48,32,51]
def GZ (a v:Int):List UInt8:=[112,111,115,116,32,48,32,48,32,119,114,105,116,101,32,119,111,114,100,32,111,110,101,32]++Lib.itoa a++[32]++Lib.itoa v
def Ha (a:Int):List UInt8:=[112,111,115,116,32,48,32,48,32,114,101,97,100,32,119,111,114,100,32,111,110,101,32]++Lib.itoa a
def N1 (a v:Int):List (List UInt8):=[Vf,Vg,Vh,GZ a v,Ha a,[110,101,119],[111,117,116],[108,111,103],[111,107],[105,100,108,101]]
theorem Ykz {d:Z1} {p:Zo} {x:ByteArray} {r:List UInt8} (hx:L8 x++[10]=D4 p) (hr:L8 x=[112,111,115,116]++32::r) (hp:Qf p.at_/\Qf p.Ah/\W6 p.Bm=true) (hs:x.size<=3500) (hl:d.script.Al.length < 1000000):
  J8 d x=(Zc [111,107],{d with script:={d.script with Al:=d.script.Al++[p]}}):=by
 have hz:KD (x++Zc [10]) {Zb.z0 with Al:=[p]}:=by
  refine⟨λq hq=>?_,by show 1 < 1048600;decide,⟨by show 0 < 1048577;decide,λv hv=>(by cases hv)⟩,⟨by show 0 < 1048577;decide,λv hv=>(by cases hv)⟩,?_⟩
  .have:q=p:=by simpa using hq
   subst this;exact hp
  .rw[Xz,Zz,hx]
   show D4 p=L8 (H9 {Zb.z0 with Al:=[p]})++[p].flatMap D4;rw[show L8 (H9 {Zb.z0 with Al:=[p]})=[] from rfl,KJ,Fa,List.flatMap_nil,Gb]
 have fX:=Zyx hz (by rw[Yv,Z3];simp;omega);have hc:Lib.contains (L8 x) [32]=true/\Lib.cut (L8 x) [32]=([112,111,115,116],r,true):=by
  rw[hr];rcases Y61 32 ([112,111,115,116]++32::r) with⟨_,h2⟩|⟨w,r',h1,h2,h3,h4⟩
  .exact absurd rfl (h2 32 (by simp))
  .refine⟨h3,?_⟩
   have e1:=OV (w:=w) h2 r';have e2:=OV (c:=32) (w:=[112,111,115,116]) (by decide) r;rw[<-h1] at e1;have e3:=e1.symm.trans e2;injection e3 with e3 _;subst e3;have e4:=List.append_cancel_left h1;injection e4 with _ e4;rw[h4,<-e4]
 obtain⟨c,s,o⟩:=d;unfold J8;rw[hc.1,Aj rfl,Y6k];have hcat:Z6 x (Zc [10])=some ():=We (by rw[Z3];simp;omega);have eT:Yz 80 s.Al [p]=some (s.Al++[p]):=by
  have hl:s.Al.length < 1000000:=hl;unfold Yz;rw[Aj (by simp;omega)]
 have fM:MP x (Zc [32])=some (Zc [112,111,115,116],⟨r.toArray⟩,true):=by
  have IC:Lib.cut x.data.toList (Zc [32]).data.toList=([112,111,115,116],r,true):=hc.2;unfold MP;rw[Aj (by omega),IC];rfl
 unfold Y3u;rw[fM,Ag,Ak (by simp[Wt,Zz]),Ak (by simp[Wt,Zz]),Ak (by simp[Wt,Zz])];unfold Vc;rw[Aj (by simp),hcat,Ag,fX,Ag,Ak (by simp),Ak (by simp[Wt,Zz]),Ak (by simp[Wt,Zz])];show ((Yz 80 s.Al [p]).bind _).getD _=_;rw[eT];rfl
theorem fY {d:Z1} {n:Nat} {x:ByteArray} (h:Eu n d) (hn:n<=100) (hc:Lib.contains (L8 x) [32]=false):J8 d x=HC d x:=by
 unfold J8;rw[hc,Ak (by simp),Ykf h hn];rfl
theorem LS {x:ByteArray} {l:List ByteArray} {d d':Z1} {o:ByteArray} (hx:L8 x≠[]) (h:J8 d x=(o,d')):(EW (x::l) d).1=L8 o++[10]++(EW l d').1:=by
 show (if L8 x=[] then EW l d else (L8 (J8 d x).1++[10]++(EW l (J8 d x).2).1,(EW l (J8 d x).2).2)).1=_;rw[Ak hx,h]
theorem SU {n:Nat} {d d':Z1} {x o:ByteArray} (h:Eu n d) (hn:n<=99) (hx:x.size<=3500) (e:J8 d x=(o,d')):Eu (n+1) d':=by
 have:=(Ydk h hn hx).2.2.2
 rwa [e] at this
def Hb:List UInt8:=[111,107,10]
theorem Xa8 {a v:Int} (hv:Y8 v 2=true) (hr:N0 v=v) (F:Pe a v) (ha:Qf a) (CW:Qf v) {x:ByteArray} (hx:L8 x=(N1 a v).flatMap (·++[10])):
  LQ x=Hb++Hb++Hb++Hb++Hb++Hb++Lib.itoa (nW a)++[10]++(L8 (Nw (Dr a v))++[10])++[45,10,121,101,115,10]:=by
 have ia:=Wx ha.r;have iv:=Wx CW.r;have W8:∀w∈N1 a v,∀y∈w,y≠10:=by
  have i1:=ED a;have i2:=ED v;intro w hw;simp only[N1,Ce,List.mem_nil_iff,or_false] at hw;rcases hw with rfl|rfl|rfl|rfl|rfl|rfl|rfl|rfl|rfl|rfl
  .decide
  .decide
  .decide
  .exact Xh (Xh (Xh (by decide) i1) (by decide)) i2
  .exact Xh (by decide) i1
  all_goals decide
 have Xcf:KE (L8 x)=N1 a v:=by
  unfold KE;rw[hx,Ybz W8,Aj (by rw[List.getLast?_concat]),List.dropLast_concat]
 have Ww:x.size<=3000:=by
  rw[Z5,hx];simp[N1,Vf,Vg,Vh,GZ,Ha];omega
 unfold LQ;rw[Xcf,Ak (by simp[N1];omega)];show (EW [⟨Vf.toArray⟩,⟨Vg.toArray⟩,⟨Vh.toArray⟩,⟨(GZ a v).toArray⟩,⟨(Ha a).toArray⟩,Zc [110,101,119],Zc [111,117,116],Zc [108,111,103],Zc [111,107],Zc [105,100,108,101]] Z1.z0).1=_;have e1:J8 Z1.z0 ⟨Vf.toArray⟩=(Zc [111,107],⟨cW,Zb.z0,none⟩):=by kernel_rfl
 have e2:J8 ⟨cW,Zb.z0,none⟩ ⟨Vg.toArray⟩=(Zc [111,107],⟨cW,⟨[],[1,0],[]⟩,none⟩):=by kernel_rfl
 have e3:J8 ⟨cW,⟨[],[1,0],[]⟩,none⟩ ⟨Vh.toArray⟩=(Zc [111,107],⟨cW,⟨[],[1,0],[2,0,3]⟩,none⟩):=by kernel_rfl
 have i0:Qf 0:=by unfold Qf;omega
 have h0:Lib.itoa 0=[48]:=by kernel_rfl
 have e4:J8 ⟨cW,⟨[],[1,0],[2,0,3]⟩,none⟩ ⟨(GZ a v).toArray⟩=(Zc [111,107],⟨cW,⟨[⟨0,0,wW a v⟩],[1,0],[2,0,3]⟩,none⟩):=by
  refine Ykz (p:=⟨0,0,wW a v⟩) (r:=[48,32,48,32,119,114,105,116,101,32,119,111,114,100,32,111,110,101,32]++Lib.itoa a++[32]++Lib.itoa v) ?_ ?_ ⟨i0,i0,Y5w hv F.bu⟩ ?_ (by show 0 < 1000000;decide)
  .show GZ a v++[10]=D4 ⟨0,0,wW a v⟩
   simp[D4,Km,DJ,Ep,Er,Ic,Wi,wW,h0,GZ,Zz]
  .show GZ a v=_
   simp[GZ]
  .rw[Z5,Xp];simp[GZ];omega
 have e5:J8 ⟨cW,⟨[⟨0,0,wW a v⟩],[1,0],[2,0,3]⟩,none⟩ ⟨(Ha a).toArray⟩=(Zc [111,107],⟨cW,sW a v,none⟩):=by
  refine Ykz (p:=⟨0,0,rW a⟩) (r:=[48,32,48,32,114,101,97,100,32,119,111,114,100,32,111,110,101,32]++Lib.itoa a) ?_ ?_ ⟨i0,i0,Y4q F.bu⟩ ?_ (by show 1 < 1000000;decide)
  .show Ha a++[10]=D4 ⟨0,0,rW a⟩
   simp[D4,Km,DJ,Ep,Er,Ic,Wi,rW,h0,Ha,Zz]
  .show Ha a=_
   simp[Ha]
  .rw[Z5,Xp];simp[Ha];omega
 have d1:=SU Yec (by omega) (by decide) e1;have d2:=SU d1 (by omega) (by decide) e2;have d3:=SU d2 (by omega) (by decide) e3;have d4:=SU d3 (by omega) (by rw[Z5,Xp];simp[GZ];omega) e4;have d5:=SU d4 (by omega) (by rw[Z5,Xp];simp[Ha];omega) e5;have ho:=Pf (a:=a) hv F.bu;have e6:J8 ⟨cW,sW a v,none⟩ (Zc [110,101,119])=(Zc [111,107],⟨cW,sW a v,some (Wf cW)⟩):=(fY d5 (by omega) (by kernel_rfl)).trans (by kernel_rfl);have d6:=SU d5 (by omega) (by decide) e6;have e7:J8 ⟨cW,sW a v,some (Wf cW)⟩ (Zc [111,117,116])=(Zy (nW a),⟨cW,sW a v,some (Dr a v)⟩):=by
  refine (fY d6 (by omega) (by kernel_rfl)).trans ?_;have:HC ⟨cW,sW a v,some (Wf cW)⟩ (Zc [111,117,116])=(Zy (H6 (Wf cW) (sW a v)).2,⟨cW,sW a v,some (H6 (Wf cW) (sW a v)).1⟩):=by kernel_rfl
  rw[this,ho,F.now]
 have d7:=SU d6 (by omega) (by decide) e7;have e8:J8 ⟨cW,sW a v,some (Dr a v)⟩ (Zc [108,111,103])=(Nw (Dr a v),⟨cW,sW a v,some (Dr a v)⟩):=(fY d7 (by omega) (by kernel_rfl)).trans (by kernel_rfl);have e9:J8 ⟨cW,sW a v,some (Dr a v)⟩ (Zc [111,107])=(Zc [45],⟨cW,sW a v,some (Dr a v)⟩):=by
  refine (fY d7 (by omega) (by kernel_rfl)).trans ?_;have:HC ⟨cW,sW a v,some (Dr a v)⟩ (Zc [111,107])=(DI (FW (Dr a v).log FD 0).2,⟨cW,sW a v,some (Dr a v)⟩):=by kernel_rfl
  rw[this,Xai hv F hr];rfl
 have e10:J8 ⟨cW,sW a v,some (Dr a v)⟩ (Zc [105,100,108,101])=(Zc [121,101,115],⟨cW,sW a v,some (Dr a v)⟩):=by
  refine (fY d7 (by omega) (by kernel_rfl)).trans ?_;have:HC ⟨cW,sW a v,some (Dr a v)⟩ (Zc [105,100,108,101])=((if ER (Dr a v)=true then Zc [121,101,115] else Zc [110,111]),⟨cW,sW a v,some (Dr a v)⟩):=by kernel_rfl
  rw[this,F.quiet];rfl
 have n4:L8 (⟨(GZ a v).toArray⟩:ByteArray)≠[]:=by rw[Xp];simp[GZ]
 have n5:L8 (⟨(Ha a).toArray⟩:ByteArray)≠[]:=by rw[Xp];simp[Ha]
 rw[LS (by decide) e1,LS (by decide) e2,LS (by decide) e3,LS n4 e4,LS n5 e5,LS (by decide) e6,LS (by decide) e7,LS (by decide) e8,LS (by decide) e9,LS (by decide) e10];simp[Hb,Zz,Yh,EW]
theorem Y9i {a v:Int} (F:Pe a v) (hr:N0 v=v):L8 (Nw (Dr a v))=Lib.itoa (nW a - 1)++[32,48,32,114,101,97,100,32]++Lib.itoa a++[32]++Lib.itoa v++[32,111,107,97,121,32,111,102,32,50]:=by
 unfold Nw;rw[F.log,hr,Ak (by simp)];have h0:Lib.itoa 0=[48]:=by kernel_rfl
 have h2:Lib.itoa 2=[50]:=by kernel_rfl
 have e:Ai [(⟨6,0,true,a,2,v,0⟩:Zs),⟨nW a - 1,0,false,a,2,v,0⟩] ((([(⟨6,0,true,a,2,v,0⟩:Zs),⟨nW a - 1,0,false,a,2,v,0⟩]:List Zs).length:Int) - 1)=⟨nW a - 1,0,false,a,2,v,0⟩:=by kernel_rfl
 have er:L8 (Zip 0)=[111,107,97,121]:=by kernel_rfl
 rw[e];simp[Xz,Zz,Yh,Xp,FV,h0,h2,er]
theorem Y67 (x:List Int) (i:Nat) (hx:∀y∈x,(Lit.int .u8 y).wf=true) (hl:x.length < 1048577) (hi:i<=100):∃r,MS x (i:Int)=some r/\0<=r/\r<=255:=by
 unfold MS;by_cases h0:(i:Int) < (x.length:Int)
 .rw[Aj (by simpa using h0)]
  have h1:i < x.length:=by omega
  have:=eX (hx x[i] (B5 h1));rw[Zx h1,Ag,zC (by omega) (by omega)];exact⟨_,rfl,this⟩
 .rw[Ak (by simpa using h0),Jt (by omega) (by omega),Jt (by omega) (by omega),Yj (by omega) (by omega)]
  have:=Y0f (a:=(i:Int)*37+(x.length:Int)*11) (n:=256) (by omega) (by omega);exact⟨_,rfl,by omega,by omega⟩
theorem sm_W (a v:Int):(sW a v).sm:=by
 refine⟨by show 2 < 1048577;decide,λp hp=>?_,by show 2 < 1048577;decide,by show 3 < 1048577;decide,by show ∀w∈[(1:Int),0],_;decide⟩;have:p=⟨0,0,wW a v⟩\/p=⟨0,0,rW a⟩:=by simpa [sW] using hp
 rcases this with rfl|rfl
 .show 1 < 1048577;decide
 .show 0 < 1048577;decide
theorem SV {a v:Int} (hv:Y8 v 2=true) (hr:N0 v=v) (F:Pe a v) (ha:Qf a) (CW:Qf v) {x:ByteArray} {f:ByteArray->Option Bool} (hx:L8 x=(N1 a v).flatMap (·++[10]))
  (hf:∀r:ByteArray,L8 r=Hb++Hb++Hb++Hb++Hb++Hb++Lib.itoa (nW a)++[10]++(Lib.itoa (nW a - 1)++[32,48,32,114,101,97,100,32]++Lib.itoa a++[32]++Lib.itoa v++[32,111,107,97,121,32,111,102,32,50]++[10])++[45,10,121,101,115,10]->f r=some true):
  (cM x).bind f=some true:=by
 have ia:=Wx ha.r;have iv:=Wx CW.r;have Ww:x.size<=3000:=by
  rw[Z5,hx];simp[N1,Vf,Vg,Vh,GZ,Ha];omega
 rw[(Y5p (x:=x) (by omega)).2,Ag];exact hf _ (by rw[Xp,Xa8 hv hr F ha CW hx,Y9i F hr])
theorem Yfs (x:List Int) (h:x.length<=maxLen/\∀v∈x,(Lit.int .u8 v).wf=true):Zwi x=some true:=by
 unfold Zwi;rw[show Ym3 x=some (decide ((x.length:Int) > 1048576)) from rfl,Ag];by_cases hb:(x.length:Int) > 1048576
 .rw[Aj (by simpa using hb)]
 rw[Ak (by simpa using hb)];have hl:x.length < 1048577:=by omega
 obtain⟨v,q0,v0,v1⟩:=Y67 x 0 h.2 hl (by omega);obtain⟨t,q1,t0,t1⟩:=Y67 x 1 h.2 hl (by omega);have q0:MS x 0=some v:=q0;have q1:MS x 1=some t:=q1;have hk:=Y0f (a:=t) (n:=48) (by omega) (by omega);have hm:Qo 4 (K0 t 48)=4*K0 t 48:=Jt (by omega) (by omega);have F:=fW v (k:=K0 t 48) (by omega) (by omega);generalize ea:4*K0 t 48=a at F hm;have a0:0<=a/\a < 192:=by omega
 have a18:Qf a:=by unfold Qf;omega
 have v18:Qf v:=by unfold Qf;omega
 have hv:Y8 v 2=true:=by
  have:Gr 2=4294967296:=by kernel_rfl
  unfold Y8;rw[this];simp;omega
 have hr:=SP ⟨v0,v1⟩;have ia:=Wx a18.r;have iv:=Wx v18.r;have za:(Zy a).size<=20:=by rw[Z5,Yh];exact ia
 have zv:(Zy v).size<=20:=by rw[Z5,Yh];exact iv
 have fZ:Ly (Zc [49,32,49,32,49,32,50,32,52,32,49,32,50])=some (cW,true):=by kernel_rfl
 have Y4:Rp cW=some (Wf cW,true):=by kernel_rfl
 have hB:CP (Wf cW):=Y6t (by decide);have Xt:R2 (Wf cW) (sW a v)=some (Dr a v,nW a):=by
  rw[Yfy hB.sm (sm_W a v),Pf hv F.bu,F.now]
 have hn:nW a=10\/nW a=18:=by unfold nW;split<;>simp
 have hkey:∀n:Int,(n=10\/n=18)->cN [⟨6,0,true,a,2,v,0⟩,⟨n - 1,0,false,a,2,N0 v,0⟩] 0=some (n - 1):=by
  rintro n (rfl|rfl)
  .kernel_rfl
  .kernel_rfl
 have UO:cN (Dr a v).log 0=some (nW a - 1):=by rw[F.log];exact hkey _ hn
 have zn:Bz (nW a):=by unfold Bz;omega
 have zn1:Bz (nW a - 1):=by unfold Bz;omega
 have in1:(Zy (nW a)).size<=20:=by rw[Z5,Yh];exact Wx zn
 have in2:(Zy (nW a - 1)).size<=20:=by rw[Z5,Yh];exact Wx zn1
 simp only[q0,q1,hm,Ag,Wr v18.r,Wr a18.r]
 repeat rw[We (by simp only[Yv,Z3,AU,Bo];omega),Ag]
 rw[fZ,Ag];show ((Rp cW).bind _)=_;rw[Y4,Ag];show ((R2 (Wf cW) (sW a v)).bind _)=_;rw[Xt,Ag];show ((cN (Dr a v).log 0).bind _)=_;rw[UO,Ag];refine SV hv hr F a18 v18 ?_ λr hR=>?_
 .simp[Xz,Zz,Yh,N1,Vf,Vg,Vh,GZ,Ha]
 .simp only[Ag,Wr zn,Wr zn1]
  repeat rw[We (by simp only[Yv,Z3,AU,Bo];omega),Ag]
  rw[Wt,hR];simp[Xz,Zz,Yh,Hb]
end Go.Proofs.YthdljdelfgofdaaGreatDoor.Ev
