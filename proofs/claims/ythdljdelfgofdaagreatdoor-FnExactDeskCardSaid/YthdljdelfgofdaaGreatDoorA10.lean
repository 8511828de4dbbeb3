/- A part of the proof of FnExactDesk: see the text YthdljdelfgofdaaGreatDoorLawFnExactDesk for what is proved and its conditions. Conditions here: those in each line. -/
import Derived.Test.YthdljdelfgofdaaGreatDoorA9
import Derived.Lib.AtoiAllCases
import Derived.Lib.IndexBytes
import Derived.Lib.IndexLaws
import Derived.Lib.SplitLaws
set_option linter.unusedSimpArgs false
set_option linter.unusedVariables false
set_option linter.unusedSectionVars false
namespace Go.Proofs.YthdljdelfgofdaaGreatDoor.Ev
open Go Go.Proofs
theorem Yjb {x:ByteArray} {c:Zh} (h:dW x c) (hx:x.size<=1048576):Le x=some (c,true):=by
 obtain⟨hg,ht⟩:=h;have hS:=dV hg;obtain⟨hq,hw,hr,hs,hk,hn,hm⟩:=hS;obtain⟨ws,h1,h2⟩:=JG (x:=x) 32 (by omega);have hc:ws.map L8=ES c:=by rw[h2,Yl0 ht]
 have Yn:ws.length=5+c.Ab.length:=by
  have:=congrArg List.length hc;simp[ES,Ks] at this;omega
 have s0:Ys ws 0 5=some ((ws.drop 0).take 5):=W9 (a:=0) (b:=5) (by omega) (by omega);have s1:Ys ws 5 (ws.length:Int)=some ((ws.drop 5).take (ws.length - 5)):=W9 (a:=5) (by omega) (B4 _);have hh:((ws.drop 0).take 5)=(Ks c).map Zz:=by
  refine Yo7 ?_;rw[L4,List.map_take,hc];unfold ES;rw[Vdu (by simp[Ks]),D6 (by simp[Ks])]
 have ht5:(ws.drop 5).take (ws.length - 5)=ws.drop 5:=D6 (by simp);unfold Le;rw[h1,Ag,Ai (by simp;omega),show decide ((ws.length:Int) > 9)=false by simp;omega];unfold T7;rw[Ai (by simp),s0,Ag,hh,U8 (by simp[Ks]) (by
  intro v hv;unfold Ks at hv;simp only[Cj,HV,or_false] at hv;rcases hv with rfl|rfl|rfl|rfl|rfl<;>omega),Ag,Ai (by simp),s1]
 have i0:idx (Ks c) 0=some c.Av:=rfl;have i1:idx (Ks c) 1=some c.As:=rfl;have i2:idx (Ks c) 2=some c.An:=rfl;have i3:idx (Ks c) 3=some c.Ap:=rfl;have i4:idx (Ks c) 4=some c.Am:=rfl;simp only[i0,i1,i2,i3,i4,Ag,ht5];have hd:(ws.drop 5).length=c.Ab.length:=by simp;omega
 rw[hd];have:=K7 (σ:=Zh) (n:=c.Ab.length) (by omega) (λk=>({c with Ab:=c.Ab.take k}:Zh)) (B:=λκ st j=>Kl x (λa b d e=>κ a e) st (ws.drop 5) (c.Ab.length:Int) j) (L:=λm st j=>Ql x m st (ws.drop 5) (c.Ab.length:Int) j) (r:=some (c,true)) (λm s i=>?_) (λk W2 κ=>?_) λκ=>?_
 .exact this
 .show Kl x (Ql x m) s (ws.drop 5) (c.Ab.length:Int) i=Kl x (λa b d e=>Ql x m a (ws.drop 5) (c.Ab.length:Int) e) s (ws.drop 5) (c.Ab.length:Int) i
  unfold Kl Rx Rw;rfl
 .obtain⟨sO,hww⟩:=Y01 hc W2
  have GM:k < (ws.drop 5).length:=by omega
  have Yd:(ws.drop 5)[k]=ws[5+k]:=by rw[List.getElem_drop]
  obtain⟨ps,p1,p2⟩:=JG (x:=ws[5+k]) 58 (by have:ws[5+k].size<=x.size:=Jf h2 (B6 sO);omega);rw[hww,Ytx] at p2;have p3:=Yo7 p2;obtain⟨⟨m1,m2⟩,⟨m3,m4⟩,⟨m5,m6⟩,m7⟩:=hm _ (B6 W2);have hbn:∀v∈HQ c.Ab[k],-1000000000000000000 < v/\v < 1000000000000000000:=by
   intro v hv;unfold HQ at hv;split at hv
   .simp only[Cj,HV,or_false] at hv
    rcases hv with rfl|rfl|rfl<;>omega
   .simp only[Cj,HV,or_false] at hv
    subst hv;omega
  have LN:(HQ c.Ab[k]).length<=3:=by unfold HQ;split<;>simp
  unfold Kl;rw[Ah (by simpa using W2),Zy GM,Ag,Yd,p1,Ag,p3,U8 (by omega) hbn,Ag,Ah rfl];have ha:Y4 32 (c.Ab.take k) [c.Ab[k]]=some (c.Ab.take (k+1)):=by
   rw[Yp (by simp;omega) (by simp;omega),List.take_succ_eq_append_getElem W2]
  unfold Rx Rw;by_cases hp:c.Ab[k].prio=true
  .have e:HQ c.Ab[k]=[c.Ab[k].weight,c.Ab[k].every,c.Ab[k].cap]:=by unfold HQ;rw[Ah hp]
   have j0:idx [c.Ab[k].weight,c.Ab[k].every,c.Ab[k].cap] 0=some c.Ab[k].weight:=rfl;have j1:idx [c.Ab[k].weight,c.Ab[k].every,c.Ab[k].cap] 1=some c.Ab[k].every:=rfl;have j2:idx [c.Ab[k].weight,c.Ab[k].every,c.Ab[k].cap] 2=some c.Ab[k].cap:=rfl;simp only[e,j0,j1,j2,Ag,AV,Bq,OH hp,ha];rfl
  .have dY:c.Ab[k].prio=false:=by simpa using hp
   have e:HQ c.Ab[k]=[c.Ab[k].weight]:=by unfold HQ;rw[Ai hp]
   have j0:idx [c.Ab[k].weight] 0=some c.Ab[k].weight:=rfl;simp only[e,j0,Ag,AV,Bq,Y6a dY (m7 dY),ha];rfl
 .unfold Kl
  rw[Ai (by simp),Yqd (D6 (B4 _))];obtain⟨r,e1,_,e3⟩:=Z7h (x:=x) (c:=c) (by omega);rw[e1,e3 ⟨hg,ht⟩]
theorem Yra {x:ByteArray} (hx:x.size<=1048576):∃r,Od x=some r/\Le x=some r/\HP x r:=by
 obtain⟨r,h1,h2⟩:=Yja hx;obtain⟨q,h3,h4⟩:=Yjf hx;refine⟨r,h1,?_,h2⟩;rcases h2 with rfl|⟨hr,hc⟩
 .rcases h4 with rfl|⟨hq,hd⟩
  .exact h3
  .rw[Yih hd hx] at h1
   injection h1 with h1;injection h1 with _ h1;cases h1
 .rw[Yjb hc hx]
  obtain⟨r1,r2⟩:=r;simp only at hr;rw[hr]
def Jy (v:Int):Prop:=-1000000000000000000 < v/\v < 1000000000000000000
theorem Jy.r {v:Int} (h:Jy v):B3 v:=⟨by have:=h.1;omega,by have:=h.2;omega⟩
theorem Z2d {l:List UInt8} (hl:l.length<=18):l.foldl Em 0 < 1000000000000000000:=by
 have:=Yvg l 0 0 (by simp);have h2:10^(0+l.length)<=10^18:=UI (by omega) (by omega);omega
def OJ (l:List UInt8):Bool:=l.all λc=>decide (Qq c)
theorem Yu1 {l:List UInt8} (h:∀c∈l,Qq c):OJ l=true:=by
 unfold OJ;rw[Cb];exactλc hc=>decide_eq_true (h c hc)
theorem dgW2 {c:UInt8} (h:Qq c) {n:Int} (h0:0<=n) (h1:n < 100000000000000000):Xd (Zo (Ky n 10) (NQ (c.toNat:Int))) 48=n*10+((c.toNat - 48:Nat):Int):=by
 unfold Qq at h;have e:NQ (c.toNat:Int)=(c.toNat:Int):=Y5j (by omega) (by omega);have h:48<=(c.toNat:Int)/\(c.toNat:Int)<=57:=by omega
 rw[e,EN (by omega) (by omega),Yl (by omega) (by omega),Xb (by omega) (by omega)];omega
theorem Z80 (x0 w:ByteArray) (sg:Int) (hw:(L8 w).length<=18):∀(m i n:Nat),i<=(L8 w).length->(L8 w).length - i < m->n < 10^i->
  Of x0 m w sg (n:Int) (i:Int)=some (if OJ ((L8 w).drop i)=true then Ky sg (((L8 w).drop i).foldl Em n:Nat) else 0):=by
 have Ww:=Z9 w;intro m
 induction m with
 | zero=>intro i n _ h;omega
 | succ m ih=>
  intro i n hi hm hn;show ZM x0 (Of x0 m) w sg (n:Int) (i:Int)=_;unfold ZM;by_cases hc:i < (L8 w).length
  .have hb:10^i<=10^17:=UI (by omega) (by omega)
   rw[Ah (decide_eq_true (by omega)),JH hc,Ag,D5 hc];have bad:∀b:Bool,b=true->¬Qq (L8 w)[i]->Oe x0 (Of x0 m) w sg (n:Int) (i:Int) b=some (if OJ ((L8 w)[i]::(L8 w).drop (i+1))=true then Ky sg (((L8 w)[i]::(L8 w).drop (i+1)).foldl Em n:Nat) else 0):=λb hb hd=>by
    unfold Oe;rw[Ah hb,Ai (by unfold OJ;rw[DT,decide_eq_false hd];simp)]
   by_cases h1:(L8 w)[i].toNat < 48
   .rw[Ah (decide_eq_true (by omega))]
    exact bad true rfl (by unfold Qq;omega)
   .rw[Ai (by rw[Bj];omega)]
    by_cases h2:(L8 w)[i].toNat > 57
    .rw[Ah (decide_eq_true (by omega))]
     exact bad true rfl (by unfold Qq;omega)
    .have hd:Qq (L8 w)[i]:=by unfold Qq;omega
     rw[Ai (by rw[Bj];omega),show decide ((w.size:Int) > 18)=false from decide_eq_false (by omega)];unfold Oe;rw[Ai (by simp),JH hc,Ag,dgW2 hd (by omega) (by omega),Yf (by omega)];have e:(n:Int)*10+(((L8 w)[i].toNat - 48:Nat):Int)=((Em n (L8 w)[i]:Nat):Int):=by
      unfold Em;rw[Ah hd];omega
     have Z6:Em n (L8 w)[i] < 10^(i+1):=by
      unfold Em;rw[Ah hd,SD];unfold Qq at hd;omega
     rw[e,ih (i+1) _ (by omega) (by omega) Z6]
     congr 1
     have e2:OJ ((L8 w)[i]::(L8 w).drop (i+1))=OJ ((L8 w).drop (i+1)):=by unfold OJ;rw[DT,decide_eq_true hd,GV]
     rw[e2,H2]
  .rw[Ai (by rw[Bj];omega),EX (by omega)]
   rfl
theorem Yt6 (x0 w:ByteArray) (sg:Int) (hs:sg=1\/sg=-1):∃n,Rm x0 w sg=some n/\Jy n:=by
 unfold Rm;by_cases hl:(L8 w).length<=18
 .have:=Z80 x0 w sg hl FU 0 0 (Cd _) (by have:=Y5;omega) (by simp)
  refine⟨_,this,?_⟩;have hb:=Z2d (l:=(L8 w).drop 0) (by simpa using hl);split
  .rcases hs with rfl|rfl
   .rw[EN (by omega) (by omega)];constructor<;>omega
   .rw[EN (by omega) (by omega)];constructor<;>omega
  .constructor<;>omega
 .refine⟨0,?_,by constructor<;>omega⟩
  have Ww:=Z9 w;show ZM x0 (Of x0 18446744073709551615) w sg 0 0=some 0;unfold ZM;rw[Ah (decide_eq_true (by omega)),show (0:Int)=((0:Nat):Int) from rfl,JH (by omega),Ag];have j:Oe x0 (Of x0 18446744073709551615) w sg ((0:Nat):Int) ((0:Nat):Int) true=some 0:=rfl;split
  .exact j
  .split
   .exact j
   .rw[show decide ((w.size:Int) > 18)=true from decide_eq_true (by omega)]
    exact j
theorem Z58 (x:ByteArray):∃n,Og x=some n/\Jy n:=by
 have Ww:=Z9 x;unfold Og;have pos:∃n,M4 x false=some n/\Jy n:=by
  unfold M4;rw[Ai (by simp)];exact Yt6 x x 1 (.inl rfl)
 by_cases h0:0 < (L8 x).length
 .rw[Ah (decide_eq_true (by omega)),show (0:Int)=((0:Nat):Int) from rfl,JH h0,Ag]
  cases hb:decide ((((L8 x)[0].toNat:Nat):Int)=45) with
  | false=>exact pos
  | true=>
   unfold M4;obtain⟨y,e,_⟩:=Su (x:=x) (a:=1) (b:=(L8 x).length) (by omega) (B4 _);rw[Ah rfl,show ((x.size:Nat):Int)=((L8 x).length:Int) by omega,show (1:Int)=((1:Nat):Int) from rfl,e,Ag];exact Yt6 x y (-1) (.inr rfl)
 .rw[Ai (by rw[Bj];omega)]
  exact pos
theorem Yb8 {v:Int} (h:Jy v):Og (Zz v)=some v:=by
 obtain⟨h1,h2⟩:=h;have Ww:=Z9 (Zz v);rw[Yw] at Ww;have ha:=sL v;have Yh:0 < (Lib.itoa v).length:=Cv.2 (Yni v);unfold Og;rw[Ah (decide_eq_true (by omega)),show (0:Int)=((0:Nat):Int) from rfl,JH (by rw[Yw];exact Yh),Ag];by_cases hn:v < 0
 .have e2:Lib.itoa v=45::Lib.decDigits v.natAbs:=by unfold Lib.itoa;rw[Ah hn]
  have h45:(L8 (Zz v))[0]'(by rw[Yw,e2];simp)=45:=by simp[Yw,e2]
  rw[h45];show M4 (Zz v) true=_;unfold M4;obtain⟨y,e,hy⟩:=Su (x:=Zz v) (a:=1) (b:=(Lib.itoa v).length) (by omega) (by rw[Yw];exact B4 _);have hyd:L8 y=Lib.decDigits v.natAbs:=by
   rw[hy,Yw,e2,s9,L4,D6 (by simp)]
  have hl:=U7 (k:=17) (u:=v.natAbs) (by omega);have e:Hk (Zz v) 1 ((Lib.itoa v).length:Int)=some y:=e;rw[Ah rfl,show (((Zz v).size:Nat):Int)=((Lib.itoa v).length:Int) by omega,e,Ag];unfold Rm;have:=Z80 (Zz v) y (-1) (by rw[hyd];omega) FU 0 0 (Cd _) (by rw[hyd];have:=Y5;omega) (by simp);rw[show ((0:Nat):Int)=0 from rfl] at this;rw[this,L4,hyd,Ah (Yu1 λc hc=>Lz hc),dT,EN (by omega) (by omega)]
  congr 1;omega
 .have e2:Lib.itoa v=Lib.decDigits v.toNat:=by unfold Lib.itoa;rw[Ai hn]
  have hl:=U7 (k:=17) (u:=v.toNat) (by omega);have hd:Qq ((L8 (Zz v))[0]'(by rw[Yw];exact Yh)):=by
   refine Lz (u:=v.toNat) ?_;rw[<-e2];exact B6 Yh
  rw[show decide ((((L8 (Zz v))[0]'(by rw[Yw];exact Yh)).toNat:Int)=45)=false by unfold Qq at hd;exact decide_eq_false (by omega)];unfold M4;rw[Ai (by simp)];unfold Rm;have:=Z80 (Zz v) (Zz v) 1 (by rw[Yw,e2];omega) FU 0 0 (Cd _) (by rw[Yw,e2];have:=Y5;omega) (by simp);rw[show ((0:Nat):Int)=0 from rfl] at this;rw[this,L4,Yw,Ah (Yu1 λc hc=>Lz (u:=v.toNat) (by rw[<-e2];exact hc)),sL,EN (by omega) (by omega)]
  congr 1;omega
theorem Yax {ws:List ByteArray} (hl:ws.length < 1048600):∃r,Rn ws=some r/\r.length=ws.length/\∀v∈r,Jy v:=by
 have key:∀(m k:Nat) (out:List Int),k<=ws.length->ws.length - k < m->out.length=k->(∀v∈out,Jy v)->∃r,T1 ws m out (k:Int)=some r/\r.length=ws.length/\∀v∈r,Jy v:=by
  intro m
  induction m with
  | zero=>intro k out _ h;omega
  | succ m ih=>
   intro k out hk hm ho hv;show ∃r,T0 ws (T1 ws m) out (k:Int)=some r/\_;unfold T0;by_cases hc:k < ws.length
   .obtain⟨n,h1,h2⟩:=Z58 ws[k]
    rw[Ah (by simpa using hc),Zy hc,Ag,h1,Ag,Yp (by simp;omega) (by simp;omega),Ag,Yf (by omega)];refine ih (k+1) _ (by omega) (by omega) (by simp;omega) λv D4=>?_;rcases BT.1 D4 with D4|D4
    .exact hv v D4
    .rw[List.mem_singleton.1 D4];exact h2
   .rw[Ai (by simpa using hc)]
    exact⟨_,rfl,by omega,hv⟩
 exact key FU 0 [] (Cd _) (by have:=Y5;omega) rfl (by simp)
theorem Z51 {l:List Int} (hl:l.length < 1048600) (h:∀v∈l,Jy v):Rn (l.map Zz)=some l:=by
 unfold Rn;refine K7 (σ:=List Int) (n:=l.length) (by omega) (λk=>l.take k) (B:=λκ st j=>T0 (l.map Zz) κ st j) (L:=λm st j=>T1 (l.map Zz) m st j) (λm s i=>rfl) (λk hk κ=>?_) λκ=>?_
 .unfold T0
  rw[Ah (by simpa using hk),Zy (by simpa using hk),Ag,fC,Yb8 (h _ (B6 hk)),Ag,Yp (by simp;omega) (by simp;omega),Ag,List.take_succ_eq_append_getElem hk]
 .unfold T0
  rw[Ai (by simp),EY]
theorem Z7l {x:ByteArray} (h:x.size<=281474976710656):∃r,La x 18=some r/\Jy r.1:=by
 obtain⟨r,h1,_⟩:=Yd3 (d:=18) h;refine⟨r,h1,?_⟩;unfold La at h1;rw[Ah h] at h1;have z:Jy 0:=by constructor<;>omega
 split at h1
 .rename_i v hv
  split at h1
  .rename_i hc
   injection h1 with h1;rw[<-h1];show Jy v;have hf:=sL v;have hl:=hc.2;rw[<-hc.1] at hl;unfold Lib.trimPrefix at hl;by_cases hn:v < 0
   .have e2:Lib.itoa v=45::Lib.decDigits v.natAbs:=by unfold Lib.itoa;rw[Ah hn]
    rw[e2,Ah (by simp[Lib.hasPrefix,List.isPrefixOf])] at hl;have hb:=Z2d (l:=Lib.decDigits v.natAbs) (by simp at hl;omega);rw[dT] at hb;constructor<;>omega
   .have e2:Lib.itoa v=Lib.decDigits v.toNat:=by unfold Lib.itoa;rw[Ai hn]
    have hnp:Lib.hasPrefix (Lib.itoa v) [45]=false:=by
     rw[e2];cases hd:Lib.decDigits v.toNat with
     | nil=>rfl
     | cons c l=>
      have:=Lz (u:=v.toNat) (c:=c) (by rw[hd];exact BJ);unfold Qq at this;have e:(45:UInt8).toNat=45:=rfl;have Yh:¬(45:UInt8)=c:=by rintro rfl;omega
      simp[Lib.hasPrefix,List.isPrefixOf,Yh]
    rw[Ai (by rw[hnp];simp),e2] at hl;have hb:=Z2d (l:=Lib.decDigits v.toNat) (by omega);rw[dT] at hb;constructor<;>omega
  .injection h1 with h1;rw[<-h1];exact z
 .injection h1 with h1;rw[<-h1];exact z
theorem Zvb {ws:List ByteArray} (hl:ws.length < 1048600) (hz:∀w∈ws,w.size<=281474976710656):∃r,Lb ws=some r/\(∀v∈r.1,Jy v)/\r.1.length<=ws.length/\(r.2=true->r.1.length=ws.length):=by
 have key:∀(m k:Nat) (out:List Int),k<=ws.length->ws.length - k < m->out.length=k->(∀v∈out,Jy v)->∃r,Oj ws m out (k:Int)=some r/\(∀v∈r.1,Jy v)/\r.1.length<=ws.length/\(r.2=true->r.1.length=ws.length):=by
  intro m
  induction m with
  | zero=>intro k out _ h;omega
  | succ m ih=>
   intro k out hk hm ho hv;show ∃r,Oi ws (Oj ws m) out (k:Int)=some r/\_;unfold Oi;by_cases hc:k < ws.length
   .obtain⟨r,h1,h2⟩:=Z7l (hz _ (B6 hc))
    rw[Ah (by simpa using hc),Zy hc,Ag,h1,Ag];by_cases hr:r.2=true
    .rw[Ai (by simp[hr]),Yp (by simp;omega) (by simp;omega),Ag,Yf (by omega)]
     refine ih (k+1) _ (by omega) (by omega) (by simp;omega) λv D4=>?_;rcases BT.1 D4 with D4|D4
     .exact hv v D4
     .rw[List.mem_singleton.1 D4];exact h2
    .rw[Ah (by simp[hr])]
     exact⟨_,rfl,by simp,by simp,λh=>by cases h⟩
   .rw[Ai (by simpa using hc)]
    exact⟨_,rfl,hv,by show out.length<=_;omega,λ_=>by show out.length=_;omega⟩
 exact key FU 0 [] (Cd _) (by have:=Y5;omega) rfl (by simp)
theorem Ybw (xs:List ByteArray) (y:ByteArray) (hl:xs.length < 1000):∃n,KW xs y=some n:=by
 have key:∀(m k:Nat),k<=xs.length->xs.length - k < m->∃n,NW xs y m (k:Int)=some n:=by
  intro m
  induction m with
  | zero=>intro k _ h;omega
  | succ m ih=>
   intro k hk hm;show ∃n,NV xs y (NW xs y m) (k:Int)=some n;unfold NV;by_cases hc:k < xs.length
   .rw[Ah (by simpa using hc),Zy hc,Ag,Yf (by omega)]
    split
    .exact⟨_,rfl⟩
    .exact ih (k+1) (by omega) (by omega)
   .rw[Ai (by simpa using hc)];exact⟨_,rfl⟩
 exact key FU 0 (Cd _) (by have:=Y5;omega)
theorem Ygc (xs:List ByteArray) (y:ByteArray) (hl:xs.length < 1000):∃n,Xy xs y=some n:=by
 have key:∀(m k:Nat),k<=xs.length->xs.length - k < m->∃n,Wo xs y m (k:Int)=some n:=by
  intro m
  induction m with
  | zero=>intro k _ h;omega
  | succ m ih=>
   intro k hk hm;show ∃n,We xs y (Wo xs y m) (k:Int)=some n;unfold We;by_cases hc:k < xs.length
   .rw[Ah (by simpa using hc),Zy hc,Ag,Yf (by omega)]
    split
    .exact⟨_,rfl⟩
    .exact ih (k+1) (by omega) (by omega)
   .rw[Ai (by simpa using hc)];exact⟨_,rfl⟩
 exact key FU 0 (Cd _) (by have:=Y5;omega)
theorem Sw (xs:List ByteArray) (j:Nat) (hj:j < xs.length) (hl:xs.length < 1000) (hn:∀i (hi:i < j),L8 (xs[i]'(by omega))≠L8 xs[j]):KW xs xs[j]=some (j:Int):=by
 unfold KW;refine Ytr (n:=j) (by omega) (B:=λκ i=>NV xs xs[j] κ i) (L:=λm i=>NW xs xs[j] m i) (λm i=>rfl) (λk hk κ=>?_) λκ=>?_
 .unfold NV
  rw[Ah (by simp;omega),Zy (by omega),Ag,Ai (by rw[Ka];simpa using hn k hk)]
 .unfold NV
  rw[Ah (by simpa using hj),Zy hj,Ag,Ah (beq_self_eq_true _)]
theorem Sx (xs:List ByteArray) (j:Nat) (hj:j < xs.length) (hl:xs.length < 1000) (hn:∀i (hi:i < j),L8 (xs[i]'(by omega))≠L8 xs[j]):Xy xs xs[j]=some (j:Int):=by
 unfold Xy;refine Ytr (n:=j) (by omega) (B:=λκ i=>We xs xs[j] κ i) (L:=λm i=>Wo xs xs[j] m i) (λm i=>rfl) (λk hk κ=>?_) λκ=>?_
 .unfold We
  rw[Ah (by simp;omega),Zy (by omega),Ag,Ai (by rw[Ka];simpa using λh=>hn k hk h.symm)]
 .unfold We
  rw[Ah (by simpa using hj),Zy hj,Ag,Ah (beq_self_eq_true _)]
abbrev Ef:List ByteArray:=[Zd [98,121,116,101],Zd [104,97,108,102],Zd [119,111,114,100]]
abbrev Qy:List ByteArray:=[Zd [111,110,101],Zd [102,111,117,114],Zd [119,114,97,112],Zd [101,105,103,104,116]]
theorem dZ {r:Zk} (h:Qn r=true):(r.size=0\/r.size=1\/r.size=2)/\(r.Az=0\/r.Az=1\/r.Az=2\/r.Az=3)/\(0<=r.addr/\r.addr < 512)/\∀v∈r.Aa,0<=v/\v < 4294967296:=by
 obtain⟨hb,_,hd⟩:=IW h;have hl:=O5 hb;have h2:r.Az=0\/r.Az=1\/r.Az=2\/r.Az=3:=by
  have:=hl.2;unfold Xv at this
  repeat' split at this
  all_goals omega
 have ha:r.addr∈Ki r.addr r.size r.Az:=by
  have Yh:Ki r.addr r.size r.Az≠[]:=λe=>by rw[e] at hl;simp at hl;omega
  unfold Ki at Yh ⊢;cases hq:E7 r.size r.Az (Xv r.Az).toNat r.addr with
  | none=>rw[hq] at Yh;simp at Yh
  | some l=>
   have:=(Ydd hq).2.2 (by omega);simp only[FY];cases l with
   | nil=>simp at this
   | cons a l=>simp at this;subst this;exact BJ
 obtain⟨h3,h4⟩:=cI ha;have h1:r.size=0\/r.size=1\/r.size=2:=by
  have:=(Jm h3).1;unfold Y1 at this
  repeat' split at this
  all_goals omega
 refine⟨h1,h2,h4,λv hv=>?_⟩;have:=hd v hv;simp only[Xw,Bj] at this;have:=Uj r.size;omega
theorem Ypg {r:Zk} (h:Qn r=true):KW Ef (EO r.size)=some r.size/\Xy Ef (EO r.size)=some r.size:=by
 rcases (dZ h).1 with e|e|e<;>rw[e]
 .exact⟨Sw Ef 0 (by decide) (by decide) (λi hi=>by omega),Sx Ef 0 (by decide) (by decide) (λi hi=>by omega)⟩
 .have hn:∀i (hi:i < 1),L8 (Ef[i]'(by show i < 3;omega))≠L8 (Ef[1]'(by decide)):=λi hi=>by
   obtain rfl:i=0:=by omega
   simp[Z4]
  exact⟨Sw Ef 1 (by decide) (by decide) hn,Sx Ef 1 (by decide) (by decide) hn⟩
 .have hn:∀i (hi:i < 2),L8 (Ef[i]'(by show i < 3;omega))≠L8 (Ef[2]'(by decide)):=λi hi=>by
   obtain rfl|rfl:i=0\/i=1:=by omega
   .simp[Z4]
   .simp[Z4]
  exact⟨Sw Ef 2 (by decide) (by decide) hn,Sx Ef 2 (by decide) (by decide) hn⟩
theorem Ylm {r:Zk} (h:Qn r=true):KW Qy (EP r.Az)=some r.Az/\Xy Qy (EP r.Az)=some r.Az:=by
 rcases (dZ h).2.1 with e|e|e|e<;>rw[e]
 .exact⟨Sw Qy 0 (by decide) (by decide) (λi hi=>by omega),Sx Qy 0 (by decide) (by decide) (λi hi=>by omega)⟩
 .have hn:∀i (hi:i < 1),L8 (Qy[i]'(by show i < 4;omega))≠L8 (Qy[1]'(by decide)):=λi hi=>by
   obtain rfl:i=0:=by omega
   simp[Z4]
  exact⟨Sw Qy 1 (by decide) (by decide) hn,Sx Qy 1 (by decide) (by decide) hn⟩
 .have hn:∀i (hi:i < 2),L8 (Qy[i]'(by show i < 4;omega))≠L8 (Qy[2]'(by decide)):=λi hi=>by
   obtain rfl|rfl:i=0\/i=1:=by omega
   .simp[Z4]
   .simp[Z4]
  exact⟨Sw Qy 2 (by decide) (by decide) hn,Sx Qy 2 (by decide) (by decide) hn⟩
 .have hn:∀i (hi:i < 3),L8 (Qy[i]'(by show i < 4;omega))≠L8 (Qy[3]'(by decide)):=λi hi=>by
   obtain rfl|rfl|rfl:i=0\/i=1\/i=2:=by omega
   .simp[Z4]
   .simp[Z4]
   .simp[Z4]
  exact⟨Sw Qy 3 (by decide) (by decide) hn,Sx Qy 3 (by decide) (by decide) hn⟩
def HS (r:Zk):List (List UInt8):=[Ee r.write,L8 (EO r.size),L8 (EP r.Az),Lib.itoa r.addr]++((if r.lock=true then [[108,111,99,107]] else [])++r.Aa.map Lib.itoa)
theorem Yd2 (r:Zk):K0 r=Lib.join (HS r) [32]:=by
 unfold K0 HS Ly Wl;simp only[HU,L3];rw[Lib.join_cons];unfold Lib.joinTail;cases r.lock<;>simp[UO,GY,OW]
theorem Ytz (l:ByteArray) (h:l∈Ef\/l∈Qy):∀y∈L8 l,y≠32/\y≠10:=by
 have h:l∈Ef++Qy:=BT.2 h;simp only[Ef,Qy,HU,L3,Cj,HV,or_false] at h;rcases h with rfl|rfl|rfl|rfl|rfl|rfl|rfl<;>decide
theorem Y5u (s:Int):EO s∈Ef:=by
                           unfold EO;repeat' split
                           all_goals simp[Ef]
theorem Y2g (s:Int):EP s∈Qy:=by
                            unfold EP;repeat' split
                            all_goals simp[Qy]
theorem Y59 (b:Bool):∀y∈Ee b,y≠32/\y≠10:=by cases b<;>decide
theorem Yqe {r:Zk}:∀w∈HS r,∀y∈w,y≠32/\y≠10:=by
 intro w hw y hy;have hi:∀v:Int,y∈Lib.itoa v->y≠32/\y≠10:=λv h=>⟨JI h (.inl rfl),JI h (.inr (.inr rfl))⟩;unfold HS at hw;rcases BT.1 hw with hw|hw
 .simp only[Cj,HV,or_false] at hw
  rcases hw with rfl|rfl|rfl|rfl
  .exact Y59 _ y hy
  .exact Ytz _ (.inl (Y5u _)) y hy
  .exact Ytz _ (.inr (Y2g _)) y hy
  .exact hi _ hy
 .rcases BT.1 hw with hw|hw
  .split at hw
   .rw[List.mem_singleton.1 hw] at hy
    have:∀y∈([108,111,99,107]:List UInt8),y≠32/\y≠10:=by decide
    exact this y hy
   .simp at hw
  .obtain⟨v,_,rfl⟩:=Dx.1 hw
   exact hi _ hy
theorem Ypr {x:ByteArray} {r:Zk} (h:L8 x=K0 r):Xa 32 (L8 x)=HS r:=by
 rw[h,Yd2,sK (by simp[HS]) λw hw y hy=>(Yqe w hw y hy).1]
def eA (x:ByteArray) (r:Zk):Prop:=Qn r=true/\L8 x=K0 r
def MY (x:ByteArray) (q:Zk×Bool):Prop:=q=(Zk.z0,false)\/(q.2=true/\eA x q.1)
theorem Ya9 {x:ByteArray} {r:Zk} (hx:L8 x≠[]) (hs:r.sm) (hn:r.B7):∃q,((T3 r).bind λr1=>if (!(r1.toList == x.toList))=true then some (Zk.z0,false) else some (r,true))=some q/\MY x q/\(eA x r->q=(r,true)):=by
 rw[Ybo hs hn,Ag];by_cases h:Qn r=true
 .rw[Ah h,Ka,Wh (K0 r)]
  by_cases he:K0 r=L8 x
  .rw[Ai (by simp[he])]
   exact⟨_,rfl,.inr ⟨rfl,h,he.symm⟩,λ_=>rfl⟩
  .rw[Ah (by simp[he])]
   exact⟨_,rfl,.inl rfl,λhh=>absurd hh.2.symm he⟩
 .rw[Ai h,Ka,FM,decide_eq_false (λe=>hx e.symm),Ah (by simp)]
  exact⟨_,rfl,.inl rfl,λhh=>absurd hh.1 h⟩
theorem Yat {x:ByteArray} {r:Zk} (hs:r.sm) (hn:r.B7):∃q,((Ok r).bind λr2=>if (!r2)=true then some (Zk.z0,false) else ((TA r).bind λr3=>if (!(r3.toList == x.toList))=true then some (Zk.z0,false) else some (r,true)))=some q/\MY x q/\(eA x r->q=(r,true)):=by
 rw[rH r hs,Yde hs hn,Ag,Ag];by_cases h:Qn r=true
 .rw[Ai (by simp[h]),Ah h,Ka,Wh (K0 r)]
  by_cases he:K0 r=L8 x
  .rw[Ai (by simp[he])]
   exact⟨_,rfl,.inr ⟨rfl,h,he.symm⟩,λ_=>rfl⟩
  .rw[Ah (by simp[he])]
   exact⟨_,rfl,.inl rfl,λhh=>absurd hh.2.symm he⟩
 .rw[Ah (by simp[h])]
  exact⟨_,rfl,.inl rfl,λhh=>absurd hh.1 h⟩
theorem Z7f {x:ByteArray} (hx:L8 x≠[]) {ws:List ByteArray} (hw:ws.length < 1048577) {r:Zk} (hr:B3 r.addr) (hd:r.Aa=[]):∃q,Kv x FU r ws 0=some q/\MY x q:=by
 have key:∀(m k:Nat) (d:List Int),k<=ws.length->ws.length - k < m->d.length=k->(∀v∈d,B3 v)->∃q,Kv x m {r with Aa:=d} ws (k:Int)=some q/\MY x q:=by
  intro m
  induction m with
  | zero=>intro k d _ h;omega
  | succ m ih=>
   intro k d hk hm ho hv;show ∃q,Jd x (Kv x m) {r with Aa:=d} ws (k:Int)=some q/\_;unfold Jd;by_cases hc:k < ws.length
   .obtain⟨n,h1,h2⟩:=Z58 ws[k]
    rw[Ah (by simpa using hc),Zy hc,Ag,h1,Ag,Yp (by simp;omega) (by simp;omega),Ag,Yf (by omega)];refine ih (k+1) _ (by omega) (by omega) (by simp;omega) λv D4=>?_;rcases BT.1 D4 with D4|D4
    .exact hv v D4
    .rw[List.mem_singleton.1 D4];exact h2.r
   .rw[Ai (by simpa using hc)]
    obtain⟨q,e1,e2,_⟩:=Ya9 (x:=x) (r:={r with Aa:=d}) hx (by unfold Zk.sm;show d.length < _;omega) ⟨hr,hv⟩;exact⟨q,e1,e2⟩
 have:=key FU 0 [] (Cd _) (by have:=Y5;omega) rfl (by simp);have e:({r with Aa:=[]}:Zk)=r:=by cases r;simp at hd;simp[hd]
 rw[e] at this;exact this
theorem Z7c {x:ByteArray} {c:UInt8} {ws:List ByteArray} (h:ws.map L8=Xa c (L8 x)) (h2:2<=ws.length):L8 x≠[]:=λe=>by
 rw[e] at h;have:=congrArg List.length h;simp[Xa] at this;omega
theorem Yld {x:ByteArray} (hx:x.size<=1048576):∃q,T5 x=some q/\MY x q:=by
 obtain⟨ws,h1,h2⟩:=Hw (x:=x) 32 (by omega);have h1:Wt x 32=some ws:=h1;have Yn:=HR h2;unfold T5;rw[h1,Ag];by_cases hl:ws.length < 4
 .rw[Ah (by simp;omega)]
  exact⟨_,rfl,.inl rfl⟩
 .have Yh:=Z7c h2 (by omega)
  obtain⟨q3,e3⟩:=Ybw Ef ws[1] (by decide);obtain⟨q4,e4⟩:=Ybw Qy ws[2] (by decide);obtain⟨q5,e5,b5⟩:=Z58 ws[3];have i0:idx ws 0=some ws[0]:=Zy (k:=0) (by omega);have i1:idx ws 1=some ws[1]:=Zy (k:=1) (by omega);have i2:idx ws 2=some ws[2]:=Zy (k:=2) (by omega);have i3:idx ws 3=some ws[3]:=Zy (k:=3) (by omega);have s4:Ys ws 4 (ws.length:Int)=some ((ws.drop 4).take (ws.length - 4)):=W9 (a:=4) (by omega) (B4 _);rw[Ai (by simp;omega),i0,Ag,i1,Ag,e3,Ag,i2,Ag,e4,Ag,i3,Ag,e5,Ag,s4,Ag];generalize hv:(ws.drop 4).take (ws.length - 4)=vs;have Io:vs.length < 1048577:=by rw[<-hv];simp;omega
  have j2:∀(b:Bool),(b=true->1<=vs.length)->∃q,Oh x (Zk.mk (ws[0].toList == (Zd [119,114,105,116,101]).toList) q5 q3 q4 false []) vs b=some q/\MY x q:=λb hb=>by
   unfold Oh T4;split
   .rename_i Jl
    have s1:Ys vs 1 (vs.length:Int)=some ((vs.drop 1).take (vs.length - 1)):=W9 (a:=1) (hb Jl) (B4 _);rw[s1,Ag];exact Z7f Yh (by simp;omega) (by exact b5.r) rfl
   .exact Z7f Yh Io (by exact b5.r) rfl
  by_cases h0:0 < vs.length
  .have i0:idx vs 0=some vs[0]:=Zy (k:=0) h0
   rw[Ah (by simpa using h0),i0,Ag];exact j2 _ λ_=>h0
  .rw[Ai (by simpa using h0)]
   exact j2 false λh=>by cases h
theorem Yk2 {x:ByteArray} (hx:x.size<=1048576):∃q,TB x=some q/\MY x q:=by
 obtain⟨ws,h1,h2⟩:=JG (x:=x) 32 (by omega);have Yn:=HR h2;have hz:∀w∈ws,w.size<=281474976710656:=λw hw=>by have:=Jf h2 hw;omega
 unfold TB;rw[h1,Ag];by_cases hl:ws.length < 4
 .rw[Ah (by simp;omega)]
  exact⟨_,rfl,.inl rfl⟩
 .obtain⟨q3,e3⟩:=Ygc Ef ws[1] (by decide)
  obtain⟨q4,e4⟩:=Ygc Qy ws[2] (by decide);have i0:idx ws 0=some ws[0]:=Zy (k:=0) (by omega);have i1:idx ws 1=some ws[1]:=Zy (k:=1) (by omega);have i2:idx ws 2=some ws[2]:=Zy (k:=2) (by omega);have i3:idx ws 3=some ws[3]:=Zy (k:=3) (by omega);have s4:Ys ws 4 (ws.length:Int)=some ((ws.drop 4).take (ws.length - 4)):=W9 (a:=4) (by omega) (B4 _);have f1:T8=some Ef:=rfl;have f2:T9=some Qy:=rfl;rw[Ai (by simp;omega),i0,Ag,f1,Ag,i1,Ag,e3,Ag,f2,Ag,i2,Ag,e4,Ag,s4,Ag];generalize hv:(ws.drop 4).take (ws.length - 4)=vs;have Io:vs.length < 1048577:=by rw[<-hv];simp;omega
  have hvz:∀w∈vs,w.size<=281474976710656:=λw hw=>hz w (by rw[<-hv] at hw;exact FV (FW hw));have j2:∀(r:Zk) (us:List ByteArray),us.length < 1048577->(∀w∈us,w.size<=281474976710656)->∃q,R1 x r ws us=some q/\MY x q:=λr us hu huz=>by
   unfold R1;obtain⟨n,n1,n2⟩:=Z7l (hz ws[3] (B6 (by omega)));obtain⟨d,d1,d2,d3,d4⟩:=Zvb (ws:=us) (by omega) huz;rw[i3,Ag,n1,Ag,d1,Ag];split
   .exact⟨_,rfl,.inl rfl⟩
   .split
    .exact⟨_,rfl,.inl rfl⟩
    .obtain⟨q,e1,e2,_⟩:=Yat (x:=x) (r:={r with addr:=n.1,Aa:=d.1}) (by unfold Zk.sm;show d.1.length < _;omega) ⟨n2.r,λv hv=>(d2 v hv).r⟩
     exact⟨q,e1,e2⟩
  have j1:∀(b:Bool) (r:Zk),(b=true->1<=vs.length)->∃q,Ol x r ws vs b=some q/\MY x q:=λb r hb=>by
   unfold Ol;split
   .rename_i Jl
    have s1:Ys vs 1 (vs.length:Int)=some ((vs.drop 1).take (vs.length - 1)):=W9 (a:=1) (hb Jl) (B4 _);rw[s1,Ag];exact j2 _ _ (by simp;omega) λw hw=>hvz w (FV (FW hw))
   .exact j2 _ _ Io hvz
  by_cases h0:0 < vs.length
  .have i0:idx vs 0=some vs[0]:=Zy (k:=0) h0
   rw[Ah (by simpa using h0),i0,Ag];exact j1 _ _ λ_=>h0
  .rw[Ai (by simpa using h0)]
   exact j1 false _ λh=>by cases h
theorem Yd0 {ws:List ByteArray} {r:Zk} (h:ws.map L8=HS r):ws=[Zd (Ee r.write),EO r.size,EP r.Az,Zz r.addr]++((if r.lock=true then [Zd [108,111,99,107]] else [])++r.Aa.map Zz):=by
 have inj:∀{a b:List ByteArray},a.map L8=b.map L8->a=b:=by
  intro a
  induction a with
  | nil=>intro b h;cases b with
   | nil=>rfl
   | cons y b=>simp at h
  | cons x a ih=>intro b h;cases b with
   | nil=>simp at h
   | cons y b=>
    simp only[C7,UP] at h ⊢;exact⟨K3 h.1,ih h.2⟩
 refine inj (h.trans ?_);unfold HS;cases r.lock<;>simp[Z4,Yw,GY,OW]
theorem Yk4 {d:List Int} (h:d≠[]):∃a l,d.map Zz=Zz a::l/\L8 (Zz a)≠[108,111,99,107]:=by
 cases d with
 | nil=>exact absurd rfl h
 | cons a l=>
  refine⟨a,l.map Zz,rfl,λe=>?_⟩;rw[Yw] at e;have:=Y0p (v:=a) (c:=108) (by rw[e];exact BJ);rcases this with h|h
  .cases h
  .unfold Qq at h
   have e:(108:UInt8).toNat=108:=rfl;omega
theorem Yvx (b:Bool):((Zd (Ee b)).toList == (Zd [119,114,105,116,101]).toList)=b:=by
 rw[Ka,Z4,Z4];cases b<;>rfl
theorem Yml {x:ByteArray} {r:Zk} (h:eA x r) (hx:x.size<=1048576):T5 x=some (r,true):=by
 obtain⟨hg,ht⟩:=h;obtain⟨ws,h1,h2⟩:=Hw (x:=x) 32 (by omega);have h1:Wt x 32=some ws:=h1;rw[Ypr ht] at h2;have Gs:=Yd0 h2;obtain⟨v1,v2,v3,v4⟩:=dZ hg;have UA:=U5 hg;have Yh:L8 x≠[]:=by rw[ht];exact Y0y r
 have Y4s:r.B7:=⟨⟨by omega,by omega⟩,λv hv=>by have:=v4 v hv;exact⟨by omega,by omega⟩⟩;have loop:∀us:List ByteArray,us=r.Aa.map Zz->Kv x FU {r with Aa:=[]} us 0=some (r,true):=λus hu=>by
  subst hu;refine K7 (σ:=Zk) (n:=r.Aa.length) (by omega) (λk=>({r with Aa:=r.Aa.take k}:Zk)) (B:=λκ st j=>Jd x (λa _ c=>κ a c) st (r.Aa.map Zz) j) (L:=λm st j=>Kv x m st (r.Aa.map Zz) j) (λm s i=>?_) (λk hk κ=>?_) λκ=>?_
  .show Jd x (Kv x m) s (r.Aa.map Zz) i=Jd x (λa _ c=>Kv x m a (r.Aa.map Zz) c) s (r.Aa.map Zz) i
   unfold Jd;rfl
  .unfold Jd
   have hb:=v4 _ (B6 hk);rw[Ah (by simpa using hk),Zy (by simpa using hk),Ag,fC,Yb8 ⟨by omega,by omega⟩,Ag,Yp (by simp;omega) (by simp;omega),Ag,List.take_succ_eq_append_getElem hk]
  .unfold Jd
   have e:({r with Aa:=r.Aa.take r.Aa.length}:Zk)=r:=by rw[EY]
   rw[Ai (by simp),e];obtain⟨q,e1,_,e3⟩:=Ya9 (x:=x) (r:=r) Yh (cJ hg) Y4s;rw[e1,e3 ⟨hg,ht⟩]
 have s4:Ys ws 4 (ws.length:Int)=some ((ws.drop 4).take (ws.length - 4)):=W9 (a:=4) (by rw[Gs];simp) (B4 _);have hd:(ws.drop 4).take (ws.length - 4)=(if r.lock=true then [Zd [108,111,99,107]] else [])++r.Aa.map Zz:=by
  rw[D6 (by simp),Gs];rfl
 rw[hd] at s4;have i0:idx ws 0=some (Zd (Ee r.write)):=by rw[Gs];rfl
 have i1:idx ws 1=some (EO r.size):=by rw[Gs];rfl
 have i2:idx ws 2=some (EP r.Az):=by rw[Gs];rfl
 have i3:idx ws 3=some (Zz r.addr):=by rw[Gs];rfl
 have f1:=(Ypg hg).1;have f2:=(Ylm hg).1;unfold T5;rw[h1,Ag,Ai (by rw[Gs];simp;omega),i0,Ag,i1,Ag,f1,Ag,i2,Ag,f2,Ag,i3,Ag,Yb8 ⟨by omega,by omega⟩,Ag,s4,Ag,Yvx];cases hk:r.lock with
 | true=>
  have e:({Zk.mk r.write r.addr r.size r.Az false [] with lock:=true}:Zk)={r with Aa:=[]}:=by cases r;simp at hk;simp[hk]
  have j0:idx ((if true=true then [Zd [108,111,99,107]] else [])++r.Aa.map Zz) 0=some (Zd [108,111,99,107]):=rfl;have js:Ys ((if true=true then [Zd [108,111,99,107]] else [])++r.Aa.map Zz) 1 (((if true=true then [Zd [108,111,99,107]] else [])++r.Aa.map Zz).length:Int)=some (r.Aa.map Zz):=by
   have:=W9 (xs:=(if true=true then [Zd [108,111,99,107]] else [])++r.Aa.map Zz) (a:=1) (b:=((if true=true then [Zd [108,111,99,107]] else [])++r.Aa.map Zz).length) (by simp) (B4 _);refine this.trans (congrArg some ?_);rw[D6 (by simp)];rfl
  rw[Ah (by simp),j0,Ag,show ((Zd [108,111,99,107]).toList == (Zd [108,111,99,107]).toList)=true from beq_self_eq_true _];unfold Oh T4;rw[Ah rfl,js,Ag,e];exact loop _ rfl
 | false=>
  have e:(Zk.mk r.write r.addr r.size r.Az false []:Zk)={r with Aa:=[]}:=by cases r;simp at hk;simp[hk]
  rw[Ai (show ¬false=true by simp),L3,e];have fin:Oh x {r with Aa:=[]} (r.Aa.map Zz) false=some (r,true):=by
   unfold Oh T4;rw[Ai (by simp)];exact loop _ rfl
  by_cases h0:r.Aa=[]
  .rw[Ai (by rw[h0];simp)]
   exact fin
  .obtain⟨a,l,e1,e2⟩:=Yk4 h0
   have j0:idx (r.Aa.map Zz) 0=some (Zz a):=by rw[e1];rfl
   rw[Ah (by have:=Cv.2 h0;simp;omega),j0,Ag,show ((Zz a).toList == (Zd [108,111,99,107]).toList)=false by rw[Ka,Z4];exact decide_eq_false e2];exact fin
theorem Ymh {x:ByteArray} {r:Zk} (h:eA x r) (hx:x.size<=1048576):TB x=some (r,true):=by
 obtain⟨hg,ht⟩:=h;obtain⟨ws,h1,h2⟩:=JG (x:=x) 32 (by omega);rw[Ypr ht] at h2;have Gs:=Yd0 h2;obtain⟨v1,v2,v3,v4⟩:=dZ hg;have UA:=U5 hg;have Y4s:r.B7:=⟨⟨by omega,by omega⟩,λv hv=>by have:=v4 v hv;exact⟨by omega,by omega⟩⟩;have i3:idx ws 3=some (Zz r.addr):=by rw[Gs];rfl
 have j2:∀r0:Zk,r0.write=r.write->r0.size=r.size->r0.Az=r.Az->r0.lock=r.lock->R1 x r0 ws (r.Aa.map Zz)=some (r,true):=λr0 e1 e2 e3 e4=>by
  unfold R1;have e:({r0 with addr:=r.addr,Aa:=r.Aa}:Zk)=r:=by cases r0;cases r;simp at e1 e2 e3 e4;simp[e1,e2,e3,e4]
  rw[i3,Ag,Ym1 ⟨by omega,by omega⟩ (by omega),Ag,U8 (by omega) (λv hv=>by have:=v4 v hv;omega),Ag,Ai (by simp),Ai (by simp),e];obtain⟨q,q1,_,q3⟩:=Yat (x:=x) (r:=r) (cJ hg) Y4s;rw[q1,q3 ⟨hg,ht⟩]
 have s4:Ys ws 4 (ws.length:Int)=some ((ws.drop 4).take (ws.length - 4)):=W9 (a:=4) (by rw[Gs];simp) (B4 _);have hd:(ws.drop 4).take (ws.length - 4)=(if r.lock=true then [Zd [108,111,99,107]] else [])++r.Aa.map Zz:=by
  rw[D6 (by simp),Gs];rfl
 rw[hd] at s4;have i0:idx ws 0=some (Zd (Ee r.write)):=by rw[Gs];rfl
 have i1:idx ws 1=some (EO r.size):=by rw[Gs];rfl
 have i2:idx ws 2=some (EP r.Az):=by rw[Gs];rfl
 have f1:=(Ypg hg).2;have f2:=(Ylm hg).2;have g1:T8=some Ef:=rfl;have g2:T9=some Qy:=rfl;unfold TB;rw[h1,Ag,Ai (by rw[Gs];simp;omega),i0,Ag,g1,Ag,i1,Ag,f1,Ag,g2,Ag,i2,Ag,f2,Ag,s4,Ag,Yvx];cases hk:r.lock with
 | true=>
  have j0:idx ((if true=true then [Zd [108,111,99,107]] else [])++r.Aa.map Zz) 0=some (Zd [108,111,99,107]):=rfl;have js:Ys ((if true=true then [Zd [108,111,99,107]] else [])++r.Aa.map Zz) 1 (((if true=true then [Zd [108,111,99,107]] else [])++r.Aa.map Zz).length:Int)=some (r.Aa.map Zz):=by
   have:=W9 (xs:=(if true=true then [Zd [108,111,99,107]] else [])++r.Aa.map Zz) (a:=1) (b:=((if true=true then [Zd [108,111,99,107]] else [])++r.Aa.map Zz).length) (by simp) (B4 _);refine this.trans (congrArg some ?_);rw[D6 (by simp)];rfl
  rw[Ah (by simp),j0,Ag,show ((Zd [108,111,99,107]).toList == (Zd [108,111,99,107]).toList)=true from beq_self_eq_true _];unfold Ol;rw[Ah rfl,js,Ag];exact j2 _ rfl rfl rfl hk.symm
 | false=>
  rw[Ai (show ¬false=true by simp),L3];have fin:Ol x (Zk.mk r.write 0 r.size r.Az false []) ws (r.Aa.map Zz) false=some (r,true):=by
   unfold Ol;rw[Ai (by simp)];exact j2 _ rfl rfl rfl hk.symm
  by_cases h0:r.Aa=[]
  .rw[Ai (by rw[h0];simp)]
   exact fin
  .obtain⟨a,l,e1,e2⟩:=Yk4 h0
   have j0:idx (r.Aa.map Zz) 0=some (Zz a):=by rw[e1];rfl
   rw[Ah (by have:=Cv.2 h0;simp;omega),j0,Ag,show ((Zz a).toList == (Zd [108,111,99,107]).toList)=false by rw[Ka,Z4];exact decide_eq_false e2];exact fin
inductive Xe where
 | w (l:List Int)
 | s (l:List Int)
 | p (q:Zl)
 | e
def Xe.words:Xe->List (List UInt8)
 | .w l=>[119,97,105,116,115]::l.map Lib.itoa
 | .s l=>[115,97,121,115]::l.map Lib.itoa
 | .p q=>[112,111,115,116]::Lib.itoa q.at_::Lib.itoa q.Aj::HS q.Bo
 | .e=>[[]]
def Xe.line (i:Xe):List UInt8:=Lib.join i.words [32]
def Xe.ok:Xe->Prop
 | .w l=>l.length < 1048577/\∀v∈l,Jy v
 | .s l=>l.length < 1048577/\∀v∈l,Jy v
 | .p q=>Jy q.at_/\Jy q.Aj/\Qn q.Bo=true
 | .e=>True
def Xe.app (z:Zb):Xe->Zb
 | .w l=>{z with waits:=l}
 | .s l=>{z with A3:=l}
 | .p q=>{z with Al:=z.Al++[q]}
 | .e=>z
theorem Yqn (i:Xe):∀w∈i.words,∀y∈w,y≠32/\y≠10:=by
 have hi:∀(v:Int) (y:UInt8),y∈Lib.itoa v->y≠32/\y≠10:=λv y h=>⟨JI h (.inl rfl),JI h (.inr (.inr rfl))⟩;have h1:∀y∈([119,97,105,116,115]:List UInt8),y≠32/\y≠10:=by decide
 have h2:∀y∈([115,97,121,115]:List UInt8),y≠32/\y≠10:=by decide
 have h3:∀y∈([112,111,115,116]:List UInt8),y≠32/\y≠10:=by decide
 intro w hw y hy;cases i with
 | w l=>
  rcases Cj.1 hw with rfl|hw
  .exact h1 y hy
  .obtain⟨v,_,rfl⟩:=Dx.1 hw;exact hi v y hy
 | s l=>
  rcases Cj.1 hw with rfl|hw
  .exact h2 y hy
  .obtain⟨v,_,rfl⟩:=Dx.1 hw;exact hi v y hy
 | p q=>
  rcases Cj.1 hw with rfl|hw
  .exact h3 y hy
  .rcases Cj.1 hw with rfl|hw
   .exact hi _ y hy
   .rcases Cj.1 hw with rfl|hw
    .exact hi _ y hy
    .exact Yqe w hw y hy
 | e=>simp[Xe.words] at hw;subst hw;simp at hy
theorem Y75 (i:Xe):i.words≠[]:=by cases i<;>simp[Xe.words]
theorem Ymr (i:Xe):Xa 32 i.line=i.words:=sK (Y75 i) λw hw y hy=>(Yqn i w hw y hy).1
theorem Y7t {c:UInt8}:∀{ws:List (List UInt8)},(∀w∈ws,∀y∈w,y≠c)->c≠32->∀y∈Lib.join ws [32],y≠c:=by
 intro ws
 induction ws with
 | nil=>intro _ _ y hy;simp[Lib.join_nil] at hy
 | cons w r ih=>
  intro h hc y hy;rw[Lib.join_cons] at hy;rcases BT.1 hy with hy|hy
  .exact h w BJ y hy
  .unfold Lib.joinTail at hy
   obtain⟨u,hu,hy⟩:=e9.1 hy;obtain⟨v,hv,rfl⟩:=Dx.1 hu;rcases BT.1 hy with hy|hy
   .rw[List.mem_singleton.1 hy];exactλe=>hc e.symm
   .exact h v (Co _ hv) y hy
theorem Y9n (i:Xe):∀y∈i.line,y≠10:=Y7t (λw hw y hy=>(Yqn i w hw y hy).2) (by decide)
theorem Yp0 (w:List UInt8) (l:List Int):Lib.join (w::l.map Lib.itoa) [32]=w++Wl l:=by
 rw[Lib.join_cons];unfold Lib.joinTail Wl;rw[GY,UO];rfl
theorem Sy (l:List Int):(Xe.w l).line=[119,97,105,116,115]++Wl l:=Yp0 _ l
theorem Sz (l:List Int):(Xe.s l).line=[115,97,121,115]++Wl l:=Yp0 _ l
theorem Y5i (q:Zl):(Xe.p q).line=[112,111,115,116,32]++Lib.itoa q.at_++[32]++Lib.itoa q.Aj++[32]++K0 q.Bo:=by
 have e:K0 q.Bo=Lib.join (HS q.Bo) [32]:=Yd2 _;unfold Xe.line Xe.words;rw[e];obtain⟨a,l,h⟩:∃a l,HS q.Bo=a::l:=⟨_,_,rfl⟩;rw[h,Lib.join_cons,Lib.join_cons];simp[Lib.joinTail,h]
def OK (z:Zb):List UInt8:=L8 (JF z)++z.Al.flatMap F9
def L0 (z:Zb):List Xe:=(if z.waits=[] then [] else [.w z.waits])++((if z.A3=[] then [] else [.s z.A3])++z.Al.map .p)
theorem Yma (z:Zb):OK z=((L0 z).map Xe.line).flatMap (·++[10]):=by
 have h1:∀(w:List UInt8) (l:List Int) (i:Xe),i.line=w++Wl l->GR w l=(((if l=[] then [] else [i]):List Xe).map Xe.line).flatMap (·++[10]):=λw l i hi=>by
  unfold GR;split
  .rfl
  .simp[hi]
 have h2:∀ps:List Zl,ps.flatMap F9=((ps.map Xe.p).map Xe.line).flatMap (·++[10]):=λps=>by
  induction ps with
  | nil=>rfl
  | cons p ps ih=>
   rw[FE,ih,C7,C7,FE,Y5i];unfold F9;simp
 unfold OK L0 JF;rw[Wd,Wh (GR _ z.waits),Wh (GR _ z.A3),Gv,Gv,tB,tB,<-h1 _ _ _ (Sy z.waits),<-h1 _ _ _ (Sz z.A3),<-h2,List.append_assoc]
theorem Y4i:∀(ps:List Zl) (z:Zb),(ps.map Xe.p).foldl Xe.app z={z with Al:=z.Al++ps}:=by
 intro ps
 induction ps with
 | nil=>intro z;simp
 | cons p ps ih=>
  intro z;rw[C7,H2,ih];show ({z with Al:=(z.Al++[p])++ps}:Zb)=_;rw[List.append_assoc];rfl
theorem Yac (z:Zb):(L0 z).foldl Xe.app Zb.z0=z:=by
 unfold L0;rw[SB,SB,Y4i];obtain⟨ps,w,s⟩:=z;by_cases hw:w=[]
 .by_cases hs:s=[]
  .simp[hw,hs]
  .simp[hw,hs,Xe.app]
 .by_cases hs:s=[]
  .simp[hw,hs,Xe.app]
  .simp[hw,hs,Xe.app]
structure L1 (x:ByteArray) (z:Zb):Prop where
 reqs:∀p∈z.Al,Jy p.at_/\Jy p.Aj/\Qn p.Bo=true
 FA:z.Al.length < 1048600
 w:z.waits.length < 1048577/\∀v∈z.waits,Jy v
 s:z.A3.length < 1048577/\∀v∈z.A3,Jy v
 text:L8 x=OK z
def OL (x:ByteArray) (r:Zb×Bool):Prop:=r=(Zb.z0,false)\/(r.2=true/\L1 x r.1)
theorem Yur {x:ByteArray} {z:Zb} (h:L1 x z):∀i∈L0 z,i.ok:=by
 intro i hi;unfold L0 at hi;rcases BT.1 hi with hi|hi
 .split at hi
  .simp at hi
  .rw[List.mem_singleton.1 hi];exact h.w
 .rcases BT.1 hi with hi|hi
  .split at hi
   .simp at hi
   .rw[List.mem_singleton.1 hi];exact h.s
  .obtain⟨p,hp,rfl⟩:=Dx.1 hi;exact h.reqs p hp
theorem Ys4 {c:UInt8}:∀{ls:List (List UInt8)},(∀w∈ls,∀y∈w,y≠c)->Xa c (ls.flatMap (·++[c]))=ls++[[]]:=by
 intro ls
 induction ls with
 | nil=>intro _;rfl
 | cons w r ih=>
  intro h;rw[FE,List.append_assoc,List.singleton_append,U6 (h w BJ),ih λu hu=>h u (Co _ hu)];rfl
theorem Y3l {c:UInt8}:∀{ls:List (List UInt8)},ls≠[]->ls.flatMap (·++[c])=Lib.join ls [c]++[c]:=by
 intro ls
 induction ls with
 | nil=>intro h;exact absurd rfl h
 | cons w r ih=>
  intro _;cases r with
  | nil=>simp[Lib.join_one]
  | cons v r=>
   rw[FE,ih (by simp),Lib.join_cons,Lib.join_cons];simp[Lib.joinTail]
theorem Y87 (a:List UInt8) (c:UInt8):Lib.trimSuffix (a++[c]) [c]=a:=by
 unfold Lib.trimSuffix;rw[Ah (by simp[Lib.hasSuffix,List.isSuffixOf,List.isPrefixOf])];simp
theorem ET (a:ByteArray) (l:List UInt8) (w:List UInt8) (h:L8 a=l):(a.toList == (Zd w).toList)=decide (l=w):=by rw[Ka,Z4,h]
def Wp:Xe->List ByteArray
 | .w l=>Zd [119,97,105,116,115]::l.map Zz
 | .s l=>Zd [115,97,121,115]::l.map Zz
 | .p q=>Zd [112,111,115,116]::Zz q.at_::Zz q.Aj::([Zd (Ee q.Bo.write),EO q.Bo.size,EP q.Bo.Az,Zz q.Bo.addr]++((if q.Bo.lock=true then [Zd [108,111,99,107]] else [])++q.Bo.Aa.map Zz))
 | .e=>[ByteArray.empty]
theorem Yv4:∀{a b:List ByteArray},a.map L8=b.map L8->a=b:=by
 intro a
 induction a with
 | nil=>intro b h;cases b with
  | nil=>rfl
  | cons y b=>simp at h
 | cons x a ih=>intro b h;cases b with
  | nil=>simp at h
  | cons y b=>
   simp only[C7,UP] at h ⊢;exact⟨K3 h.1,ih h.2⟩
theorem Yve (l:List Int):(l.map Zz).map L8=l.map Lib.itoa:=by rw[GY];rfl
theorem Ymz {ws:List ByteArray} {i:Xe} (h:ws.map L8=i.words):ws=Wp i:=by
 cases i with
 | w l=>exact Yv4 (h.trans (by unfold Wp Xe.words;rw[C7,Yve,Z4]))
 | s l=>exact Yv4 (h.trans (by unfold Wp Xe.words;rw[C7,Yve,Z4]))
 | p q=>
  unfold Xe.words at h;cases ws with
  | nil=>simp at h
  | cons a ws=>cases ws with
   | nil=>simp at h
   | cons b ws=>cases ws with
    | nil=>simp at h
    | cons c ws=>
     simp only[C7,UP] at h;obtain⟨h1,h2,h3,h4⟩:=h;unfold Wp;rw[Yd0 h4,K3 (a:=a) (b:=Zd [112,111,115,116]) h1,K3 (a:=b) (b:=Zz q.at_) h2,K3 (a:=c) (b:=Zz q.Aj) h3]
 | e=>exact Yv4 (h.trans rfl)
theorem Y8a (r:Zk):Lib.join (([Zd (Ee r.write),EO r.size,EP r.Az,Zz r.addr]++((if r.lock=true then [Zd [108,111,99,107]] else [])++r.Aa.map Zz)).map L8) [32]=K0 r:=by
 rw[Yd2]
 congr 1
 unfold HS;cases r.lock<;>simp[Z4,Yw,GY,OW]
theorem sP {α:Type} (a:α) (l:List α):Ys (a::l) 1 ((a::l).length:Int)=some l:=by
 have:=W9 (xs:=a::l) (a:=1) (b:=(a::l).length) (by simp) (B4 _);refine this.trans (congrArg some ?_);simp
theorem Yb4 {q:Zl} (h:Jy q.at_/\Jy q.Aj/\Qn q.Bo=true):q.B7/\q.Bo.sm:=by
 obtain⟨_,_,v3,v4⟩:=dZ h.2.2;exact⟨⟨h.1.r,h.2.1.r,⟨⟨by omega,by omega⟩,λv hv=>by have:=v4 v hv;exact⟨by omega,by omega⟩⟩⟩,cJ h.2.2⟩
theorem S0 {x:ByteArray} {κ:Zb->List ByteArray->Int->Int->Option (Zb×Bool)} {z:Zb} {vs:List ByteArray} {n:Nat} {j:Nat} (hj:j < vs.length) (hn:n=vs.length) {i:Xe} (hi:L8 vs[j]=i.line) (hz:vs[j].size<=1048576) (ok:i.ok) (hp:z.Al.length<=1048600):
  Jw x κ z vs (n:Int) (j:Int)=κ (Xe.app z i) vs (n:Int) (Zo (j:Int) 1):=by
 subst hn;obtain⟨ws,h1,h2⟩:=JG (x:=vs[j]) 32 (by omega);rw[hi,Ymr] at h2;have hb:=Ymz h2;unfold Jw;rw[Ah (by simpa using hj),Zy hj,Ag,h1,Ag,hb];cases i with
 | w l=>
  have e0:idx (Wp (.w l)) 0=some (Zd [119,97,105,116,115]):=rfl;rw[e0,Ag,ET _ _ _ (Z4 _),Ai (by decide)];unfold Q6;rw[Ai (by simp),e0,Ag,ET _ _ _ (Z4 _),Ah (by decide)];unfold J7 Wp;rw[Ah rfl,sP,Ag,U8 (by have:=ok.1;omega) ok.2,Ag,Ai (by simp)];show (idx (Wp (.w l)) 0).bind _=_;rw[e0,Ag,ET _ _ _ (Z4 _),Ah (by decide)];rfl
 | s l=>
  have e0:idx (Wp (.s l)) 0=some (Zd [115,97,121,115]):=rfl;rw[e0,Ag,ET _ _ _ (Z4 _),Ai (by decide)];unfold Q6;rw[Ai (by simp),e0,Ag,ET _ _ _ (Z4 _),Ai (by decide),ET _ _ _ (Z4 _),show decide (([115,97,121,115]:List UInt8)=[115,97,121,115])=true by decide];unfold J7 Wp;rw[Ah rfl,sP,Ag,U8 (by have:=ok.1;omega) ok.2,Ag,Ai (by simp)];show (idx (Wp (.s l)) 0).bind _=_;rw[e0,Ag,ET _ _ _ (Z4 _),Ai (by decide)];rfl
 | p q=>
  obtain⟨o1,o2,o3⟩:=ok;have e0:idx (Wp (.p q)) 0=some (Zd [112,111,115,116]):=rfl;rw[e0,Ag,ET _ _ _ (Z4 _),Ah (by decide)];have Yn:7<=(Wp (.p q)).length:=by unfold Wp;simp
  rw[show decide (((Wp (.p q)).length:Int) > 3)=true from decide_eq_true (by omega)];have S1:Ys (Wp (.p q)) 1 3=some ([q.at_,q.Aj].map Zz):=by
   have:=W9 (xs:=Wp (.p q)) (a:=1) (b:=3) (by omega) (by omega);exact this
  have s3:Ys (Wp (.p q)) 3 ((Wp (.p q)).length:Int)=some ((Wp (.p q)).drop 3):=by
   have:=W9 (xs:=Wp (.p q)) (a:=3) (b:=(Wp (.p q)).length) (by omega) (B4 _);refine this.trans (congrArg some ?_);rw[D6 (by simp)]
  have UA:=U5 o3;have hT:=sJ o3 (Yb4 ⟨o1,o2,o3⟩).1.2.2;have Gf:Lib.join (((Wp (.p q)).drop 3).map L8) (L8 (Zd [32]))=K0 q.Bo:=by
   rw[Z4];exact Y8a q.Bo
  have JS:((Wp (.p q)).drop 3).length<=1000000000:=by
   show (([Zd (Ee q.Bo.write),EO q.Bo.size,EP q.Bo.Az,Zz q.Bo.addr]++((if q.Bo.lock=true then [Zd [108,111,99,107]] else [])++q.Bo.Aa.map Zz))).length<=_;cases q.Bo.lock<;>simp<;>omega
  unfold Q6;rw[Ah rfl,S1,Ag,U8 (by simp) (by
   intro v hv;simp only[Cj,HV,or_false] at hv;rcases hv with rfl|rfl
   .exact o1
   .exact o2),Ag,s3,Ag,MH JS (by rw[Gf];omega),Ag,Gf,Ymh (x:=⟨(K0 q.Bo).toArray⟩) ⟨o3,rfl⟩ (by rw[Z9,Wh (K0 q.Bo)];omega),Ag,Ai (by simp)]
  unfold ZZ;have j0:idx [q.at_,q.Aj] 0=some q.at_:=rfl;have j1:idx [q.at_,q.Aj] 1=some q.Aj:=rfl;simp only[Du,Bn,if_false,j0,j1,Ag];rw[Yp (by simp;omega) (by simp;omega),Ag];rfl
 | e=>
  have e0:idx (Wp .e) 0=some ByteArray.empty:=rfl;rw[e0,Ag,ET _ [] _ FM,Ai (by decide)];unfold Q6;rw[Ai (by simp),e0,Ag,ET _ [] _ FM,Ai (by decide),ET _ [] _ FM,show decide (([]:List UInt8)=[115,97,121,115])=false by decide];rfl
theorem eB {a b c:Nat} (h:a+b+c < 1000000000000000000):Zo (Zo (Zo (a:Int) (b:Int)) (c:Int)) 3=((a+b+c+3:Nat):Int):=by
 have e1:Zo (a:Int) (b:Int)=((a+b:Nat):Int):=by rw[Yl (by omega) (by omega)];omega
 have e2:Zo ((a+b:Nat):Int) (c:Int)=((a+b+c:Nat):Int):=by rw[Yl (by omega) (by omega)];omega
 rw[e1,e2,Yl (by omega) (by omega)];omega
theorem S3 {x:ByteArray} {κ:Zb->List ByteArray->Int->Option (Zb×Bool)} {z:Zb} {vs:List ByteArray} {j:Nat} (hj:j < vs.length) {i:Xe} (hi:L8 vs[j]=i.line) (hz:vs[j].size<=1048576) (ok:i.ok) (hp:z.Al.length<=1048600):
  Jv x κ z vs (j:Int)=κ (Xe.app z i) vs (Zo (j:Int) 1):=by
 obtain⟨ws,h1,h2⟩:=Hw (x:=vs[j]) 32 (by omega);have h1:Wt vs[j] 32=some ws:=h1;rw[hi,Ymr] at h2;have hb:=Ymz h2;unfold Jv;rw[Ah (by simpa using hj),Zy hj,Ag,h1,Ag,hb];cases i with
 | w l=>
  have e0:idx (Wp (.w l)) 0=some (Zd [119,97,105,116,115]):=rfl;rw[e0,Ag,ET _ _ _ (Z4 _),Ah (by decide)];unfold Wp;rw[sP,Ag,Z51 (by have:=ok.1;omega) ok.2,Ag];rfl
 | s l=>
  have e0:idx (Wp (.s l)) 0=some (Zd [115,97,121,115]):=rfl;rw[e0,Ag,ET _ _ _ (Z4 _),Ai (by decide),ET _ _ _ (Z4 _),Ah (by decide)];unfold Wp;rw[sP,Ag,Z51 (by have:=ok.1;omega) ok.2,Ag];rfl
 | p q=>
  obtain⟨o1,o2,o3⟩:=ok;have e0:idx (Wp (.p q)) 0=some (Zd [112,111,115,116]):=rfl;have e1:idx (Wp (.p q)) 1=some (Zz q.at_):=rfl;have e2:idx (Wp (.p q)) 2=some (Zz q.Aj):=rfl;have Yn:7<=(Wp (.p q)).length:=by unfold Wp;simp
  have S1:Ys (Wp (.p q)) 1 3=some ([q.at_,q.Aj].map Zz):=by
   have:=W9 (xs:=Wp (.p q)) (a:=1) (b:=3) (by omega) (by omega);exact this
  have hT:=sJ o3 (Yb4 ⟨o1,o2,o3⟩).1.2.2;have z1:=Xo o1.r;have z2:=Xo o2.r;rw[e0,Ag,ET _ _ _ (Z4 _),Ai (by decide),ET _ _ _ (Z4 _),Ai (by decide),Ah (decide_eq_true (by omega)),S1,Ag,Z51 (by simp) (by
   intro v hv;simp only[Cj,HV,or_false] at hv;rcases hv with rfl|rfl
   .exact o1
   .exact o2),Ag,e1,Ag,e2,Ag]
  have z0:(Zd [112,111,115,116]).size=4:=Z5 _;have Y95:Zo (Zo (Zo ((Zd [112,111,115,116]).size:Int) ((Zz q.at_).size:Int)) ((Zz q.Aj).size:Int)) 3=((7+(Zz q.at_).size+(Zz q.Aj).size:Nat):Int):=by
   rw[eB (by omega)];omega
  have wI:L8 vs[j]=([112,111,115,116,32]++Lib.itoa q.at_++[32]++Lib.itoa q.Aj++[32])++K0 q.Bo:=by rw[hi,Y5i]
  have KE:([112,111,115,116,32]++Lib.itoa q.at_++[32]++Lib.itoa q.Aj++[32]:List UInt8).length=7+(Zz q.at_).size+(Zz q.Aj).size:=by
   rw[Z9,Z9,Yw,Yw];simp only[Cw,AV,Bq];omega
  have Ww:vs[j].size=7+(Zz q.at_).size+(Zz q.Aj).size+(K0 q.Bo).length:=by rw[Z9,wI,Cw,KE]
  have hmin:D3 ((vs[j].size:Nat):Int) (Zo (Zo (Zo ((Zd [112,111,115,116]).size:Int) ((Zz q.at_).size:Int)) ((Zz q.Aj).size:Int)) 3)=((7+(Zz q.at_).size+(Zz q.Aj).size:Nat):Int):=by
   rw[Y95];unfold D3;split<;>omega
  obtain⟨y,y1,y2⟩:=Su (x:=vs[j]) (a:=7+(Zz q.at_).size+(Zz q.Aj).size) (b:=vs[j].size) (by omega) (by rw[Z9];exact B4 _);have hy:L8 y=K0 q.Bo:=by
   rw[y2,wI,<-KE,List.drop_left,Ww,KE,D6 (by omega)]
  have j0:idx [q.at_,q.Aj] 0=some q.at_:=rfl;have j1:idx [q.at_,q.Aj] 1=some q.Aj:=rfl;rw[hmin,y1,Ag,Yml (x:=y) ⟨o3,hy⟩ (by rw[Z9,hy];omega),Ag,j0,Ag,j1,Ag,Yp (by simp;omega) (by simp;omega),Ag];rfl
 | e=>
  have e0:idx (Wp .e) 0=some ByteArray.empty:=rfl;rw[e0,Ag,ET _ [] _ FM,Ai (by decide),ET _ [] _ FM,Ai (by decide),Ai (by decide)];rfl
structure EU (x:ByteArray) (z:Zb) (j:Nat):Prop where
 FA:z.Al.length<=j
 Al:∀p∈z.Al,Jy p.at_/\Jy p.Aj/\(Qn p.Bo=true\/p.Bo=Zk.z0)
 w:z.waits.length < 1048577/\∀v∈z.waits,Jy v
 s:z.A3.length < 1048577/\∀v∈z.A3,Jy v
 ne:z.Al≠[]->L8 x≠[]
theorem EU.n {x:ByteArray} {z:Zb} {j:Nat} (h:EU x z j) (hj:j<=1048577):MV z:=by
 refine⟨by have:=h.FA;omega,h.w.1,h.s.1,λp hp=>?_,λv hv=>(h.w.2 v hv).r,λv hv=>(h.s.2 v hv).r⟩;obtain⟨a,b,c⟩:=h.Al p hp;rcases c with c|c
 .exact Yb4 ⟨a,b,c⟩
 .refine⟨⟨a.r,b.r,?_⟩,?_⟩
  .rw[c];exact⟨⟨by decide,by decide⟩,λv hv=>by simp at hv⟩
  .rw[c];show ([]:List Int).length < _;simp
theorem sQ {x:ByteArray} {z:Zb} {j:Nat} (h:EU x z j) (hj:j<=1048577):∃r,(if (!((Hv (JF z) z.Al).toList == x.toList))=true then some (Zb.z0,false) else some (z,true))=some r/\OL x r/\(L1 x z->r=(z,true)):=by
 rw[Ka];unfold Hv;by_cases K1:z.Al.all (λp=>Qn p.Bo)=true
 .rw[Ah K1,Wh (L8 (JF z)++z.Al.flatMap F9),show L8 (JF z)++z.Al.flatMap F9=OK z from rfl]
  have eC:∀p∈z.Al,Qn p.Bo=true:=by simpa using K1
  by_cases he:OK z=L8 x
  .rw[decide_eq_true he,Ai (by simp)]
   exact⟨_,rfl,.inr ⟨rfl,⟨λp hp=>⟨(h.Al p hp).1,(h.Al p hp).2.1,eC p hp⟩,by have:=h.FA;show z.Al.length < _;omega,h.w,h.s,he.symm⟩⟩,λ_=>rfl⟩
  .rw[decide_eq_false he,Ah (by simp)]
   exact⟨_,rfl,.inl rfl,λhh=>absurd hh.text.symm he⟩
 .have Yh:z.Al≠[]:=λe=>K1 (by rw[e];rfl)
  have hx:=h.ne Yh;rw[Ai K1,FM,decide_eq_false (λe=>hx e.symm),Ah (by simp)];exact⟨_,rfl,.inl rfl,λhh=>absurd (by rw[Cb];exactλp hp=>(hh.reqs p hp).2.2) K1⟩
theorem Y0w {x:ByteArray} {z:Zb} (h:L1 x z):EU x z z.Al.length:=by
 refine⟨B4 _,λp hp=>⟨(h.reqs p hp).1,(h.reqs p hp).2.1,.inl (h.reqs p hp).2.2⟩,h.w,h.s,λYh he=>?_⟩;have:=h.text;rw[he] at this;unfold OK at this;cases hp:z.Al with
 | nil=>exact Yh hp
 | cons p ps=>
  rw[hp,FE] at this;have:=congrArg List.length this;unfold F9 at this;simp at this
theorem Yqf (z:Zb) (i:Xe):(Xe.app z i).Al.length<=z.Al.length+1:=by cases i<;>simp[Xe.app]
theorem Yd8 {vs:List ByteArray} {its:List Xe} (h:vs.map L8=its.map Xe.line) {j:Nat} (hj:j < vs.length):∃hi:j < its.length,L8 vs[j]=its[j].line:=by
 have hl:vs.length=its.length:=by simpa using congrArg List.length h
 refine⟨by omega,?_⟩;have h1:(vs.map L8)[j]?=(its.map Xe.line)[j]?:=by rw[h]
 rw[Dt,Dt,CB hj,CB (by omega)] at h1;simpa using h1
theorem Zz4 {x:ByteArray} {z:Zb} (hz:L1 x z) (Iv:z.Al.length<=1048577) {vs:List ByteArray} {its:List Xe} (h:vs.map L8=its.map Xe.line) (hs:∀v∈vs,v.size<=1048576) (ok:∀i∈its,i.ok) (hl:vs.length<=1048577):∀(m j:Nat) (y:Zb),j<=vs.length->vs.length - j < m->y.Al.length<=j->(its.drop j).foldl Xe.app y=z->
  Q4 x m y vs (vs.length:Int) (j:Int)=some (z,true):=by
 have hil:vs.length=its.length:=by simpa using congrArg List.length h
 intro m
 induction m with
 | zero=>intro j y _ h;omega
 | succ m ih=>
  intro j y hj hm hy hf;show Jw x (Q4 x m) y vs (vs.length:Int) (j:Int)=some (z,true);by_cases hc:j < vs.length
  .obtain⟨hi,hv⟩:=Yd8 h hc
   rw[S0 hc rfl hv (hs _ (B6 hc)) (ok _ (B6 hi)) (by omega),Yf (by omega)];refine ih (j+1) _ (by omega) (by omega) (by have:=Yqf y its[j];omega) ?_;rw[D5 hi,H2] at hf;exact hf
  .rw[EX (by omega)] at hf
   have hf:y=z:=hf;subst hf;unfold Jw;have eD:=Y0w hz;rw[Ai (by simpa using hc),Z45 (eD.n Iv),Ag];obtain⟨r,e1,_,e3⟩:=sQ eD Iv;rw[e1,e3 hz]
theorem Yf0 {x:ByteArray} {z:Zb} (hz:L1 x z) (Iv:z.Al.length<=1048577) {vs:List ByteArray} {its:List Xe} (h:vs.map L8=its.map Xe.line) (hs:∀v∈vs,v.size<=1048576) (ok:∀i∈its,i.ok) (hl:vs.length<=1048577):∀(m j:Nat) (y:Zb),j<=vs.length->vs.length - j < m->y.Al.length<=j->(its.drop j).foldl Xe.app y=z->
  Ro x m y vs (j:Int)=some (z,true):=by
 have hil:vs.length=its.length:=by simpa using congrArg List.length h
 intro m
 induction m with
 | zero=>intro j y _ h;omega
 | succ m ih=>
  intro j y hj hm hy hf;show Jv x (Ro x m) y vs (j:Int)=some (z,true);by_cases hc:j < vs.length
  .obtain⟨hi,hv⟩:=Yd8 h hc
   rw[S3 hc hv (hs _ (B6 hc)) (ok _ (B6 hi)) (by omega),Yf (by omega)];refine ih (j+1) _ (by omega) (by omega) (by have:=Yqf y its[j];omega) ?_;rw[D5 hi,H2] at hf;exact hf
  .rw[EX (by omega)] at hf
   have hf:y=z:=hf;subst hf;unfold Jv;have eD:=Y0w hz;rw[Ai (by simpa using hc),Z41 (eD.n Iv),Ag];obtain⟨r,e1,_,e3⟩:=sQ eD Iv;rw[e1,e3 hz]
theorem Y0m {x:ByteArray} {z:Zb} (h:L1 x z) (hx:x.size<=1048576):z.Al.length<=1048576:=by
 have hf:∀ps:List Zl,ps.length<=(ps.flatMap F9).length:=λps=>by
  induction ps with
  | nil=>simp
  | cons p ps ih=>
   rw[FE,Cw,AV];have:1<=(F9 p).length:=by unfold F9;simp
   omega
 have h1:=congrArg List.length h.text;rw[<-Z9] at h1;unfold OK at h1;rw[Cw] at h1;have:=hf z.Al;omega
theorem Ypz {z:Zb}:∀w∈(L0 z).map Xe.line,∀y∈w,y≠10:=by
 intro w hw y hy;obtain⟨i,_,rfl⟩:=Dx.1 hw;exact Y9n i y hy
theorem Ycu {x:ByteArray} {z:Zb} (h:L1 x z) (hx:x.size<=1048576):Rp x=some (z,true):=by
 have UA:=Y0m h hx;obtain⟨vs,h1,h2⟩:=Hw (x:=x) 10 (by omega);have h1:Wt x 10=some vs:=h1;have Yn:=HR h2;have hz:∀v∈vs,v.size<=1048576:=λv hv=>by have:=Jf h2 hv;omega
 have hm:vs.map L8=(L0 z++[Xe.e]).map Xe.line:=by
  rw[h2,h.text,Yma,Ys4 Ypz,Gv];rfl
 unfold Rp;rw[h1,Ag];refine Yf0 h (by omega) hm hz (λi hi=>?_) (by omega) FU 0 Zb.z0 (Cd _) (by have:=Y5;omega) (by simp) ?_
 .rcases BT.1 hi with hi|hi
  .exact Yur h i hi
  .rw[List.mem_singleton.1 hi];trivial
 .rw[L4,SB,Yac];rfl
theorem Yby {x:ByteArray} {z:Zb} (h:L1 x z) (hx:x.size<=1048576):M5 x=some (z,true):=by
 have UA:=Y0m h hx;have ht:∃y,Jh x (Zd [10])=some y/\L8 y=Lib.trimSuffix (L8 x) [10]:=by
  unfold Jh;rw[Ah (by omega)];exact⟨_,rfl,rfl⟩
 obtain⟨y,t1,t2⟩:=ht;have hy:y.size<=x.size:=by rw[Z9,t2,Z9];exact Lib.trimSuffix_le _ _
 obtain⟨vs,h1,h2⟩:=JG (x:=y) 10 (by omega);have Yn:=HR h2;have hz:∀v∈vs,v.size<=1048576:=λv hv=>by have:=Jf h2 hv;omega
 unfold M5;rw[t1,Ag,h1,Ag];rw[h.text,Yma] at t2;by_cases he:L0 z=[]
 .have hm:vs.map L8=[Xe.e].map Xe.line:=by
   rw[h2,t2,he];rfl
  refine Zz4 h (by omega) hm hz (λi hi=>by rw[List.mem_singleton.1 hi];trivial) (by omega) FU 0 Zb.z0 (Cd _) (by have:=Y5;omega) (by simp) ?_;have:=Yac z;rw[he] at this;exact this
 .have hm:vs.map L8=(L0 z).map Xe.line:=by
   rw[h2,t2,Y3l (by simpa using he),Y87,sK (by simpa using he) Ypz]
  refine Zz4 h (by omega) hm hz (Yur h) (by omega) FU 0 Zb.z0 (Cd _) (by have:=Y5;omega) (by simp) ?_;rw[L4,Yac]
theorem sR (a:List UInt8) (l:List (List UInt8)):Lib.lens (a::l)=a.length+Lib.lens l:=by simp[Lib.lens]
theorem Yz2 (c:UInt8):∀l:List UInt8,Lib.lens (Xa c l)+(Xa c l).length=l.length+1:=by
 intro l
 induction l with
 | nil=>rfl
 | cons x l ih=>
  unfold Xa;split
  .rw[sR,AV,AV];simp;omega
  .split
   .rename_i h;exact absurd h (dR c l)
   .rename_i w r h
    rw[h,sR,AV] at ih;rw[sR,AV,AV,AV];omega
theorem Y6f:∀(k:Nat) (l:List (List UInt8)),Lib.lens (l.drop k)<=Lib.lens l:=by
 intro k
 induction k with
 | zero=>intro l;simp
 | succ k ih=>
  intro l;cases l with
  | nil=>simp
  | cons a l=>rw[s9,sR];have:=ih l;omega
theorem Y63 {c:UInt8} {l:List UInt8} {k:Nat} (h:k < (Xa c l).length):(Lib.join ((Xa c l).drop k) [32]).length<=l.length:=by
 have h1:=Yz2 c l;have h2:=Y6f k (Xa c l);cases hd:(Xa c l).drop k with
 | nil=>
  have:=congrArg List.length hd;simp at this;omega
 | cons a r=>
  have hr:r.length+1=(Xa c l).length - k:=by
   have:=congrArg List.length hd;simp at this;omega
  rw[Lib.join_length];rw[hd] at h2;simp;omega
theorem Yvp {x:ByteArray} {z:Zb} {j:Nat} (h:EU x z j) {p:Zl} (hp:Jy p.at_/\Jy p.Aj/\(Qn p.Bo=true\/p.Bo=Zk.z0)) (hx:L8 x≠[]):EU x {z with Al:=z.Al++[p]} (j+1):=by
 refine⟨by have:=h.FA;simp;omega,λq hq=>?_,h.w,h.s,λ_=>hx⟩;rcases BT.1 hq with hq|hq
 .exact h.Al q hq
 .rw[List.mem_singleton.1 hq];exact hp
theorem EU.next {x:ByteArray} {z:Zb} {j:Nat} (h:EU x z j):EU x z (j+1):={h with FA:=by have:=h.FA;omega}
theorem EU.waits {x:ByteArray} {z:Zb} {j:Nat} (h:EU x z j) {l:List Int} (hl:l.length < 1048577/\∀v∈l,Jy v):EU x {z with waits:=l} (j+1):={h with FA:=by have:=h.FA;show z.Al.length<=_;omega,w:=hl}
theorem EU.A3 {x:ByteArray} {z:Zb} {j:Nat} (h:EU x z j) {l:List Int} (hl:l.length < 1048577/\∀v∈l,Jy v):EU x {z with A3:=l} (j+1):={h with FA:=by have:=h.FA;show z.Al.length<=_;omega,s:=hl}
theorem Yso (x:ByteArray):EU x Zb.z0 0:=⟨by simp,λp hp=>by simp at hp,⟨by simp,λv hv=>by simp at hv⟩,⟨by simp,λv hv=>by simp at hv⟩,λh=>absurd rfl h⟩
theorem Ypu {x a:ByteArray} {c:UInt8} {vs ws:List ByteArray} (h:vs.map L8=Xa c (L8 x)) (ha:a∈vs) (h2:ws.map L8=Xa 32 (L8 a)) (hw:2<=ws.length):L8 x≠[]:=λe=>by
 have h1:=Jf h ha;have h3:x.size=0:=by rw[Z9,e];rfl
 have h4:L8 a=[]:=by
  have:(L8 a).length=0:=by rw[<-Z9];omega
  exact Gt this
 exact Z7c h2 hw h4
theorem Ybr {x:ByteArray} (hx:x.size<=1048576):∃r,Rp x=some r/\OL x r:=by
 obtain⟨vs,h1,h2⟩:=Hw (x:=x) 10 (by omega);have h1:Wt x 10=some vs:=h1;have Yn:=HR h2;have key:∀(m j:Nat) (z:Zb),j<=vs.length->vs.length - j < m->EU x z j->∃r,Ro x m z vs (j:Int)=some r/\OL x r:=by
  intro m
  induction m with
  | zero=>intro j z _ h;omega
  | succ m ih=>
   intro j z hj hm hz;show ∃r,Jv x (Ro x m) z vs (j:Int)=some r/\_;unfold Jv;by_cases hc:j < vs.length
   .have LR:=B6 hc
    have Ww:=Jf h2 LR;obtain⟨ws,w1,w2⟩:=Hw (x:=vs[j]) 32 (by omega);have w1:Wt vs[j] 32=some ws:=w1;have hw:=HR w2;have i0:idx ws 0=some ws[0]:=Zy (k:=0) (by omega);have s1:Ys ws 1 (ws.length:Int)=some ((ws.drop 1).take (ws.length - 1)):=W9 (a:=1) (by omega) (B4 _);rw[Ah (by simpa using hc),Zy hc,Ag,w1,Ag,i0,Ag,Yf (by omega)];obtain⟨l,l1,l2,l3⟩:=Yax (ws:=(ws.drop 1).take (ws.length - 1)) (by simp;omega);have hl:l.length < 1048577:=by rw[l2];simp;omega
    split
    .rw[s1,Ag,l1,Ag]
     exact ih (j+1) _ (by omega) (by omega) (hz.waits ⟨hl,l3⟩)
    .split
     .rw[s1,Ag,l1,Ag]
      exact ih (j+1) _ (by omega) (by omega) (hz.A3 ⟨hl,l3⟩)
     .split
      .rename_i h3
       have h3:ws.length > 3:=by have:=of_decide_eq_true h3;omega
       have S1:Ys ws 1 3=some ((ws.drop 1).take (3 - 1)):=W9 (a:=1) (b:=3) (by omega) (by omega);obtain⟨d,d1,d2,d3⟩:=Yax (ws:=(ws.drop 1).take (3 - 1)) (by simp;omega);have hd:d.length=2:=by rw[d2];simp;omega
       have i1:idx ws 1=some ws[1]:=Zy (k:=1) (by omega);have i2:idx ws 2=some ws[2]:=Zy (k:=2) (by omega);have z0:=Jf w2 (B6 (l:=ws) (n:=0) (by omega));have z1:=Jf w2 (B6 (l:=ws) (n:=1) (by omega));have z2:=Jf w2 (B6 (l:=ws) (n:=2) (by omega));have hmn:∃k:Nat,k<=vs[j].size/\D3 ((vs[j].size:Nat):Int) (Zo (Zo (Zo ((ws[0]'(by omega)).size:Int) ((ws[1]'(by omega)).size:Int)) ((ws[2]'(by omega)).size:Int)) 3)=(k:Int):=by
        rw[eB (by omega)];unfold D3;split
        .exact⟨(ws[0]'(by omega)).size+(ws[1]'(by omega)).size+(ws[2]'(by omega)).size+3,by omega,by omega⟩
        .exact⟨vs[j].size,B4 _,rfl⟩
       obtain⟨k,k1,k2⟩:=hmn;obtain⟨y,y1,y2⟩:=Su (x:=vs[j]) (a:=k) (b:=vs[j].size) k1 (by rw[Z9];exact B4 _);have hy:y.size<=1048576:=by
        rw[Z9,y2,FX,eZ,<-Z9];omega
       obtain⟨q,q1,q2⟩:=Yld hy;have j0:idx d 0=some d[0]:=Zy (k:=0) (by omega);have j1:idx d 1=some d[1]:=Zy (k:=1) (by omega);have UA:=hz.FA;rw[S1,Ag,d1,Ag,i1,Ag,i2,Ag,k2,y1,Ag,q1,Ag,j0,Ag,j1,Ag,Yp (by simp;omega) (by simp;omega),Ag];refine ih (j+1) _ (by omega) (by omega) (Yvp hz (p:=⟨d[0],d[1],q.1⟩) ⟨d3 _ (B6 _),d3 _ (B6 _),?_⟩ (Ypu h2 LR w2 (by omega)));rcases q2 with rfl|⟨_,q3⟩
       .exact .inr rfl
       .exact .inl q3.1
      .exact ih (j+1) _ (by omega) (by omega) hz.next
   .rw[Ai (by simpa using hc),Z41 (hz.n (by omega)),Ag]
    obtain⟨r,e1,e2,_⟩:=sQ hz (by omega);exact⟨r,e1,e2⟩
 unfold Rp;rw[h1,Ag];exact key FU 0 _ (Cd _) (by have:=Y5;omega) (Yso x)
theorem Yed {x:ByteArray} (hx:x.size<=1048576):∃r,M5 x=some r/\OL x r:=by
 have ht:∃y,Jh x (Zd [10])=some y/\L8 y=Lib.trimSuffix (L8 x) [10]:=by
  unfold Jh;rw[Ah (by omega)];exact⟨_,rfl,rfl⟩
 obtain⟨y,t1,t2⟩:=ht;have hy:y.size<=x.size:=by rw[Z9,t2,Z9];exact Lib.trimSuffix_le _ _
 obtain⟨vs,h1,h2⟩:=JG (x:=y) 10 (by omega);have Yn:=HR h2;have tQ:L8 y≠[]->L8 x≠[]:=λh e=>by
  have:x.size=0:=by rw[Z9,e];rfl
  have:(L8 y).length=0:=by rw[<-Z9];omega
  exact h (Gt this)
 have key:∀(m j:Nat) (z:Zb),j<=vs.length->vs.length - j < m->EU x z j->∃r,Q4 x m z vs (vs.length:Int) (j:Int)=some r/\OL x r:=by
  intro m
  induction m with
  | zero=>intro j z _ h;omega
  | succ m ih=>
   intro j z hj hm hz;show ∃r,Jw x (Q4 x m) z vs (vs.length:Int) (j:Int)=some r/\_;unfold Jw;by_cases hc:j < vs.length
   .have LR:=B6 hc
    have Ww:=Jf h2 LR;obtain⟨ws,w1,w2⟩:=JG (x:=vs[j]) 32 (by omega);have hw:=HR w2;have hwz:∀w∈ws,w.size<=281474976710656:=λw Gd=>by have:=Jf w2 Gd;omega
    have i0:idx ws 0=some ws[0]:=Zy (k:=0) (by omega);have s1:Ys ws 1 (ws.length:Int)=some ((ws.drop 1).take (ws.length - 1)):=W9 (a:=1) (by omega) (B4 _);rw[Ah (by simpa using hc),Zy hc,Ag,w1,Ag,i0,Ag];have j4:∀b:Bool,∃r,J7 x (Q4 x m) z ws vs (vs.length:Int) (j:Int) b=some r/\OL x r:=λb=>by
     unfold J7;rw[Yf (by omega)];split
     .obtain⟨l,l1,l2,l3,_⟩:=Zvb (ws:=(ws.drop 1).take (ws.length - 1)) (by simp;omega) λw Gd=>hwz w (FV (FW Gd))
      have hl:l.1.length < 1048577:=by simp at l3;omega
      rw[s1,Ag,l1,Ag];split
      .exact⟨_,rfl,.inl rfl⟩
      .rw[i0,Ag]
       split
       .exact ih (j+1) _ (by omega) (by omega) (hz.waits ⟨hl,l2⟩)
       .exact ih (j+1) _ (by omega) (by omega) (hz.A3 ⟨hl,l2⟩)
     .exact ih (j+1) _ (by omega) (by omega) hz.next
    have j2:∀b:Bool,(b=true->3 < ws.length)->∃r,Q6 x (Q4 x m) z ws vs (vs.length:Int) (j:Int) b=some r/\OL x r:=λb hb=>by
     unfold Q6;split
     .rename_i Jl
      have h3:=hb Jl;have S1:Ys ws 1 3=some ((ws.drop 1).take (3 - 1)):=W9 (a:=1) (b:=3) (by omega) (by omega);have s3:Ys ws 3 (ws.length:Int)=some ((ws.drop 3).take (ws.length - 3)):=W9 (a:=3) (by omega) (B4 _);have ht3:(ws.drop 3).take (ws.length - 3)=ws.drop 3:=D6 (by simp);obtain⟨d,d1,d2,_,d4⟩:=Zvb (ws:=(ws.drop 1).take (3 - 1)) (by simp;omega) λw Gd=>hwz w (FV (FW Gd));have Gf:(Lib.join ((ws.drop 3).map L8) (L8 (Zd [32]))).length<=1048576:=by
       rw[Z4,List.map_drop,w2];have:=Y63 (c:=32) (l:=L8 vs[j]) (k:=3) (by rw[<-w2];simpa using h3);rw[<-Z9] at this;omega
      obtain⟨q,q1,q2⟩:=Yk2 (x:=⟨(Lib.join ((ws.drop 3).map L8) (L8 (Zd [32]))).toArray⟩) (by rw[Z9,Wh (Lib.join _ _)];exact Gf);rw[S1,Ag,d1,Ag,s3,Ag,ht3,MH (by simp;omega) (by omega),Ag,q1,Ag];unfold ZZ;rw[Yf (by omega)];by_cases hd:d.2=true
      .rw[Ai (by simp[hd])]
       by_cases hq:q.2=true
       .have Is:d.1.length=2:=by rw[d4 hd];simp;omega
        have j0:idx d.1 0=some d.1[0]:=Zy (k:=0) (by omega);have j1:idx d.1 1=some d.1[1]:=Zy (k:=1) (by omega);have UA:=hz.FA;rw[Ai (by simp[hq]),j0,Ag,j1,Ag,Yp (by simp;omega) (by simp;omega),Ag];refine ih (j+1) _ (by omega) (by omega) (Yvp hz (p:=⟨d.1[0],d.1[1],q.1⟩) ⟨d2 _ (B6 _),d2 _ (B6 _),?_⟩ (tQ (Ypu h2 LR w2 (by omega))));rcases q2 with rfl|⟨_,q3⟩
        .exact .inr rfl
        .exact .inl q3.1
       .rw[Ah (by simp[hq])]
        exact⟨_,rfl,.inl rfl⟩
      .rw[Ah (by simp[hd]),Ah rfl]
       exact⟨_,rfl,.inl rfl⟩
     .rw[i0,Ag]
      split
      .exact j4 true
      .exact j4 _
    split
    .exact j2 _ λh=>by have:=of_decide_eq_true h;omega
    .exact j2 false λh=>by cases h
   .rw[Ai (by simpa using hc),Z45 (hz.n (by omega)),Ag]
    obtain⟨r,e1,e2,_⟩:=sQ hz (by omega);exact⟨r,e1,e2⟩
 unfold M5;rw[t1,Ag,h1,Ag];exact key FU 0 _ (Cd _) (by have:=Y5;omega) (Yso x)
theorem Ykn {x:ByteArray} (hx:x.size<=1048576):∃r,Rp x=some r/\M5 x=some r/\OL x r:=by
 obtain⟨r,h1,h2⟩:=Ybr hx;obtain⟨q,h3,h4⟩:=Yed hx;refine⟨r,h1,?_,h2⟩;rcases h2 with rfl|⟨hr,hc⟩
 .rcases h4 with rfl|⟨hq,hd⟩
  .exact h3
  .rw[Ycu hd hx] at h1
   injection h1 with h1;injection h1 with _ h1;cases h1
 .rw[Yby hc hx]
  obtain⟨r1,r2⟩:=r;simp only at hr;rw[hr]
def Hx:List Zt->Zf->Nat->Zf×Int
 | [],m,_=>(m,-1)
 | d::r,m,k=>if d.Ar=1 then Hx r m (k+1) else if (Qv m d.write d.addr d.size d.value).2.2=d.Ar/\(Qv m d.write d.addr d.size d.value).2.1=d.value then Hx r (Qv m d.write d.addr d.size d.value).1 (k+1) else (m,(k:Int))
theorem Y17 {m:Zf} {d:Zt} (h:Ec m) (h1:¬d.Ar=1) (h2:(Qv m d.write d.addr d.size d.value).2.2=d.Ar):Ec (Qv m d.write d.addr d.size d.value).1:=by
 by_cases ha:X4 d.addr d.size=true
 .exact (Z9g h ha).1
 .exfalso
  have:(Qv m d.write d.addr d.size d.value).2.2=1:=by
   unfold Qv;rw[Ai (by simp[ha])]
  exact h1 (h2.symm.trans this)
theorem Yb7:∀(l:List Zt) (m:Zf) (k:Nat),Ec m->(Hx l m k).2=-1\/(0<=(Hx l m k).2/\(Hx l m k).2 < (k+l.length:Nat)):=by
 intro l
 induction l with
 | nil=>intro m k _;exact .inl rfl
 | cons d l ih=>
  intro m k h;unfold Hx;split
  .have:=ih m (k+1) h;simp only[AV];omega
  .split
   .rename_i h1 h2
    have:=ih _ (k+1) (Y17 h h1 h2.1);simp only[AV];omega
   .right;simp only[AV];omega
theorem Yy1 (l:List Zt) (hl:l.length < 1048577):pX l=some (Hx l (Zf.mk (List.replicate 192 0) (Zm.mk (List.replicate 4 0) 0 [])) 0):=by
 unfold pX;rw[Yba,Ag];have key:∀(k f:Nat) (m:Zf),k<=l.length->l.length - k < f->Ec m->bL l f m (k:Int)=some (Hx (l.drop k) m k):=by
  intro k f
  induction f generalizing k with
  | zero=>intro _ _ h;omega
  | succ f ih=>
   intro m hk hf hm;show zG l (bL l f) m k=_;unfold zG;by_cases hc:k < l.length
   .rw[D5 hc,Ah (by simpa using hc),Zy hc,Ag,Yf (by omega)]
    unfold Hx;by_cases h1:l[k].Ar=1
    .rw[Ah h1,Ah (by simpa using h1)]
     exact ih (k+1) m (by omega) (by omega) hm
    .rw[Ai h1,Ai (by simpa using h1),Yc2 _ _ _ _ hm,Ag]
     by_cases h2:(Qv m l[k].write l[k].addr l[k].size l[k].value).2.2=l[k].Ar
     .rw[Ai (by simpa using h2)]
      by_cases h3:(Qv m l[k].write l[k].addr l[k].size l[k].value).2.1=l[k].value
      .rw[Ai (by simpa using h3),Ah ⟨h2,h3⟩]
       exact ih (k+1) _ (by omega) (by omega) (Y17 hm h1 h2)
      .rw[Ah (by simpa using h3),Ai (λh=>h3 h.2)]
     .rw[Ah (by simpa using h2),Ai (λh=>h2 h.1)]
   .rw[UG (by omega),Ai (by simpa using hc)]
    rfl
 exact key 0 FU _ (Cd _) (by have:=Y5;omega) Uz
theorem Yy8 (l:List Zt) (hl:l.length < 1048577):l9 l=some (Hx l (Zf.mk (List.replicate 192 0) (Zm.mk (List.replicate 4 0) 0 [])) 0):=by
 unfold l9;rw[Yam,Ag];have key:∀(k f:Nat) (m:Zf),k<=l.length->l.length - k < f->Ec m->ZI l f m (k:Int)=some (Hx (l.drop k) m k):=by
  intro k f
  induction f generalizing k with
  | zero=>intro _ _ h;omega
  | succ f ih=>
   intro m hk hf hm;show yZ l (ZI l f) m k=_;unfold yZ l8;by_cases hc:k < l.length
   .rw[D5 hc,Ah (by simpa using hc),Zy hc,Ag,Yf (by omega)]
    unfold Hx;by_cases h1:l[k].Ar=1
    .rw[Ah h1,Ah (by simpa using h1)]
     exact ih (k+1) m (by omega) (by omega) hm
    .rw[Ai h1,Ai (by simpa using h1),Z2i _ _ _ _ hm,Ag]
     by_cases h2:(Qv m l[k].write l[k].addr l[k].size l[k].value).2.2=l[k].Ar
     .rw[Ai (by simpa using h2)]
      by_cases h3:(Qv m l[k].write l[k].addr l[k].size l[k].value).2.1=l[k].value
      .rw[Ai (by simpa using h3),Ah ⟨h2,h3⟩]
       exact ih (k+1) _ (by omega) (by omega) (Y17 hm h1 h2)
      .rw[Ah (by simpa using h3),Ai (λh=>h3 h.2)]
     .rw[Ah (by simpa using h2),Ah rfl,Ai (λh=>h2 h.1)]
   .rw[UG (by omega),Ai (by simpa using hc)]
    rfl
 exact key 0 FU _ (Cd _) (by have:=Y5;omega) Uz
theorem Yp2 (m:Zg) (k:Int):-1<=Xn m k/\Xn m k < 512:=by
 have hm:∀x∈Ki (Ak m.queue 0).addr (Ak m.queue 0).size (Ak m.queue 0).Az,0<=x/\x < 512:=λx hx=>(cI hx).2;unfold Xn;generalize Ki (Ak m.queue 0).addr (Ak m.queue 0).size (Ak m.queue 0).Az=l at hm ⊢;split
 .unfold Ak
  rw[OR];cases h:l[k.toNat]? with
  | none=>exact⟨by show (-1:Int)<=0;decide,by show (0:Int) < 512;decide⟩
  | some a=>
   have:=hm a (Ep h);rw[FY];omega
 .omega
theorem Xz {x:Int} (h:-1<=x/\x < 100000):B3 x:=⟨by omega,by omega⟩
theorem Ycj {b:Za} (h:CV b) (s:Zb) (hn:b.now < 4000):(Dr b s).2.B7:=by
 have dI:=h.now;have h1:=rW h s;have e1:=dH b s;have hI:Yz (Wb b s).now (Wb b s):=by rw[e1.1];exact h1
 have h2:=rR s (by rw[e1.1];exact h.now.1) hI;have hr:(if Lv b.Aa=true then (Xt (Z0 (Wb b s) s).1 s).1 else -1)=-1\/Zn (Z0 (Wb b s) s).1.Ae (Xt (Z0 (Wb b s) s).1 s).1=true/\(if Lv b.Aa=true then (Xt (Z0 (Wb b s) s).1 s).1 else -1)=(Xt (Z0 (Wb b s) s).1 s).1:=by
  split
  .rename_i hr
   have e3:=Yk0 (Wb b s) s;have e4:(Wb b s).Aa=b.Aa:=e1.2.2.2.2.2.2.1;have:=Y3i h2.1 s (h2.2 (by rw[e3.1,e4];exact hr));rcases this.C0 with hg|hg
   .exact .inl hg
   .exact .inr ⟨hg.1,rfl⟩
  .exact .inl rfl
 have Qd:=Km h2.1.Ae;have ha:=Yp2 (Ak b.m b.addr.Aj) b.addr.Ao;have hd:=Yp2 (Ak b.m b.Aa.Aj) b.Aa.Ao;have F8:b.addr.live=true->0<=b.addr.Aj/\b.addr.Aj < 4:=λhl=>by
  have:=X0 (h.alive hl).1;have:=Km h.Ae;omega
 have Ht:b.Aa.live=true->0<=b.Aa.Aj/\b.Aa.Aj < 4:=λhl=>by
  have:=X0 (h.B9 hl).1;have:=Km h.Ae;omega
 rw[Y5m];refine⟨Xz ?_,Xz ?_,Xz ?_,Xz ?_,Xz ?_,Xz ?_⟩
 .show -1<=b.now/\b.now < 100000;omega
 .show -1<=(if b.addr.live=true then b.addr.Aj else -1)/\(if b.addr.live=true then b.addr.Aj else -1) < 100000
  split
  .rename_i hl;have:=F8 hl;omega
  .omega
 .show -1<=(if b.addr.live=true then Xn (Ak b.m b.addr.Aj) b.addr.Ao else -1)/\(if b.addr.live=true then Xn (Ak b.m b.addr.Aj) b.addr.Ao else -1) < 100000
  split<;>omega
 .show -1<=(if b.Aa.live=true then b.Aa.Aj else -1)/\(if b.Aa.live=true then b.Aa.Aj else -1) < 100000
  split
  .rename_i hl;have:=Ht hl;omega
  .omega
 .show -1<=(if b.Aa.live=true then Xn (Ak b.m b.Aa.Aj) b.Aa.Ao else -1)/\(if b.Aa.live=true then Xn (Ak b.m b.Aa.Aj) b.Aa.Ao else -1) < 100000
  split<;>omega
 .show -1<=(if Lv b.Aa=true then (Xt (Z0 (Wb b s) s).1 s).1 else -1)/\(if Lv b.Aa=true then (Xt (Z0 (Wb b s) s).1 s).1 else -1) < 100000
  rcases hr with hr|⟨hr,e⟩
  .rw[hr];omega
  .rw[e];have:=X0 hr;omega
theorem Yif {b:Za} (h:CV b) {d:Zt} (hd:d∈b.log):d.B7:=by
 obtain⟨h1,h2,h3,h4,h5,h6⟩:=h.log.1 d hd;have hn:=h.now;have hc:=Km h.Ae;have hw:=X0 h2;refine⟨Xz ?_,Xz ?_,Xz ?_,?_⟩
 .omega
 .omega
 .have:=Jm h3;omega
 .simp only[Xw,Bg,Bj] at h5
  have:=Uj d.size;exact⟨by omega,by omega⟩
theorem sS (x:ByteArray) (l:List UInt8):((x.toList == (Zd l).toList)=true)=(L8 x=l):=by rw[Ka,Bj,Z4]
theorem S4 (x:ByteArray):((x.toList == ByteArray.empty.toList)=true)=(L8 x=[]):=by rw[Ka,Bj,FM]
theorem Ywi (x:ByteArray):((!(x.toList == ByteArray.empty.toList))=true)=¬(L8 x=[]):=by rw[Ka,FM];simp
theorem Yyz (xs:List ByteArray) (y:ByteArray) (hl:xs.length < 1000):∃n,KW xs y=some n/\(n < 0↔∀x∈xs,L8 x≠L8 y):=by
 have key:∀(m k:Nat),k<=xs.length->xs.length - k < m->(∀x∈xs.take k,L8 x≠L8 y)->∃n,NW xs y m (k:Int)=some n/\(n < 0↔∀x∈xs,L8 x≠L8 y):=by
  intro m
  induction m with
  | zero=>intro k _ h;omega
  | succ m ih=>
   intro k hk hm Ct;show ∃n,NV xs y (NW xs y m) (k:Int)=some n/\_;unfold NV;by_cases hc:k < xs.length
   .rw[Ah (by simpa using hc),Zy hc,Ag,Yf (by omega),Ka]
    by_cases he:L8 xs[k]=L8 y
    .rw[Ah (by simpa using he)]
     exact⟨_,rfl,λh=>by omega,λh=>absurd he (h _ (B6 hc))⟩
    .rw[Ai (by simpa using he)]
     refine ih (k+1) (by omega) (by omega) λx hx=>?_;rw[List.take_succ_eq_append_getElem hc] at hx;rcases BT.1 hx with hx|hx
     .exact Ct x hx
     .rw[List.mem_singleton.1 hx];exact he
   .rw[Ai (by simpa using hc)]
    rw[D6 (by omega)] at Ct;exact⟨_,rfl,λ_=>Ct,λ_=>by omega⟩
 exact key FU 0 (Cd _) (by have:=Y5;omega) (by simp)
def GS (t:ByteArray):Prop:=t.size<=100000/\∀c∈L8 t,c≠10
theorem GS.str {l:List UInt8} (h:l.length<=100000/\∀c∈l,c≠10):GS (Zd l):=⟨by rw[Z5];exact h.1,h.2⟩
theorem GS.mk {l:List UInt8} (h:l.length<=100000/\∀c∈l,c≠10):GS ⟨l.toArray⟩:=⟨by rw[Z9];exact h.1,h.2⟩
theorem FB (v:Int):∀c∈Lib.itoa v,c≠10:=λc h=>JI h (.inr (.inr rfl))
theorem GS.dec {v:Int} (h:B3 v):GS (Zz v):=⟨by have:=Xo h;omega,FB v⟩
theorem GS.dash {v:Int} (h:B3 v):GS (DQ v):=by
 unfold DQ;split
 .exact .str (by decide)
 .exact .dec h
theorem Ytv (x:Int):∀c∈L8 (FT x),c≠10:=by
 unfold FT
 repeat' split
 all_goals decide
theorem Y83 (x:Int):∀c∈L8 (JE x),c≠10:=by
 unfold JE
 repeat' split
 all_goals decide
theorem eE {x:Int}:∀c∈L8 (DQ x),c≠10:=by
 unfold DQ;split
 .decide
 .exact FB x
theorem Xs {a b:List UInt8} (ha:∀c∈a,c≠10) (hb:∀c∈b,c≠10):∀c∈a++b,c≠10:=λc h=>(BT.1 h).elim (ha c) (hb c)
theorem Y7n (d:Zt):∀c∈Gr d,c≠10:=by
 unfold Gr;refine Xs (Xs (Xs (Xs (Xs (Xs (Xs (Xs (Xs (Xs (FB _) ?_) (FB _)) ?_) ?_) ?_) (FB _)) ?_) (FB _)) ?_) (Ytv _)
 .decide
 .decide
 .split<;>decide
 .decide
 .decide
 .decide
theorem Y77 (w:Zq):∀c∈Hu w,c≠10:=by
 unfold Hu Sr;refine Xs (Xs (Xs (Xs (Xs (Xs (Xs (Xs (Xs (Xs (Xs (Xs (Xs (Xs (Xs (Xs (FB _) ?_) (Y83 _)) ?_) eE) ?_) eE) ?_) eE) ?_) eE) ?_) ?_) ?_) (Ytv _)) ?_) eE
 all_goals first|decide|(split<;>decide)
theorem Y7o {w:Zq} (h:w.B7):(Hu w).length<=300:=by
 have h1:=K5 h.A4;have h2:=Ja h.Aj;have h3:=Ja h.addr;have h4:=Ja h.from_;have h5:=Ja h.Aa;have h6:=Ja h.C0;have h7:=dQ w.Ar;have h8:=Z8j w.kind;rw[Z9] at h2 h3 h4 h5 h6 h7 h8;unfold Hu Sr;simp only[Cw,AV,Bq];split<;>simp<;>omega
def UB:Zf:=Zf.mk (List.replicate 192 0) (Zm.mk (List.replicate 4 0) 0 [])
def eF (b:Za):ByteArray:=if b.log=[] then Zd [45] else (⟨(Gr (Ak b.log ((b.log.length:Int) - 1))).toArray⟩++Zd [32,111,102,32])++Zz (b.log.length:Int)
def MZ (s:Zb) (b:Za) (x:ByteArray):ByteArray×Za:=
 if L8 x=[115,116,101,112] then (if b.now=4000 then (Zd [101,110,100],b) else (⟨(Hu (Dr b s).2).toArray⟩,(Dr b s).1))
 else if L8 x=[111,117,116] then (Zz (MU b s).2,(MU b s).1)
 else if L8 x=[105,100,108,101] then (if FR b=true then Zd [121,101,115] else Zd [110,111],b)
 else if L8 x=[111,107] then (DQ (Hx b.log UB 0).2,b)
 else (eF b,b)
theorem sT {b:Za} (h:CV b) (s:Zb):CV (MU b s).1/\B3 (MU b s).2:=by
 unfold MU;split
 .have:=Xa5 s _ h rfl
  have hn:=this.1.now;have hb:=h.now;exact⟨this.1,Xz ⟨by show -1<=(Ed s (4000 - b.now).toNat b).now - b.now;omega,by show (Ed s (4000 - b.now).toNat b).now - b.now < _;omega⟩⟩
 .exact⟨h,Xz ⟨by show (-1:Int)<=0;decide,by show (0:Int) < 100000;decide⟩⟩
theorem sU {b:Za} (h:CV b):b.log.length < 5000:=by
 have:=sC (by have:=h.now;omega) h.log;have:=h.now;omega
theorem Y8u {b:Za} (h:CV b):GS (eF b):=by
 have hl:=sU h;unfold eF;split
 .exact .str (by decide)
 .rename_i Yh
  have hp:0 < b.log.length:=Cv.2 Yh;have hd:=Yif h (Gj (xs:=b.log) (i:=(b.log.length:Int) - 1) (by omega) (by omega));have h1:=sG hd;have h2:=Xo (Xz (x:=(b.log.length:Int)) (by omega));refine⟨?_,?_⟩
  .rw[Y3,Y3,Z5,Z9,Wh]
   simp only[AV,Bq];omega
  .rw[Wd,Wd,Wh,Z4,Yw]
   exact Xs (Xs (Y7n _) (by decide)) (FB _)
theorem Y7p {s:Zb} {b:Za} (h:CV b) (x:ByteArray):GS (MZ s b x).1/\CV (MZ s b x).2:=by
 have hn:=h.now;have hl:=sU h;unfold MZ
 repeat' split
 .exact⟨.str (by decide),h⟩
 .have hs:=Ycj h s (by omega)
  exact⟨.mk ⟨by have:=Y7o hs;omega,Y77 _⟩,(rY h s (by omega)).1⟩
 .exact⟨.dec (sT h s).2,(sT h s).1⟩
 .exact⟨.str (by decide),h⟩
 .exact⟨.str (by decide),h⟩
 .have:=Yb7 b.log UB 0 Uz
  exact⟨.dash (Xz (by omega)),h⟩
 .exact⟨Y8u h,h⟩
theorem Y6r (c:Zh) {s:Zb} {b:Za} (h:CV b) (hs:s.sm) (x:ByteArray):pZ c s b x=some ((MZ s b x).1,⟨c,s,some (MZ s b x).2⟩):=by
 have hn:=h.now;have Dw:=h.sm;have hl:=sU h;unfold pZ MZ;simp only[sS,Bj];by_cases h1:L8 x=[115,116,101,112]
 .rw[Ah h1,Ah h1]
  by_cases h2:b.now=4000
  .rw[Ah h2,Ah h2]
  .rw[Ai h2,Ai h2,Ydf h hs (by omega),Ag,Yq1 (Ycj h s (by omega))]
   rfl
 .rw[Ai h1,Ai h1]
  by_cases h2:L8 x=[111,117,116]
  .rw[Ah h2,Ah h2,Yxr Dw hs,Ag,Ho (sT h s).2]
   rfl
  .rw[Ai h2,Ai h2]
   by_cases h3:L8 x=[105,100,108,101]
   .rw[Ah h3,Ah h3,Yf5 Dw.ml,Ag]
    cases FR b<;>rfl
   .rw[Ai h3,Ai h3]
    by_cases h4:L8 x=[111,107]
    .have ha:=Yb7 b.log UB 0 Uz
     rw[Ah h4,Ah h4,Yy1 b.log (by omega),Ag,show (Zf.mk (List.replicate 192 0) (Zm.mk (List.replicate 4 0) 0 []))=UB from rfl,U4 (Xz (by omega))];rfl
    .rw[Ai h4,Ai h4]
     unfold eF;by_cases h5:b.log=[]
     .rw[Ah h5,Ah (by rw[h5];rfl)]
     .have hp:0 < b.log.length:=Cv.2 h5
      have hd:=Yif h (Gj (xs:=b.log) (i:=(b.log.length:Int) - 1) (by omega) (by omega));have h1:=sG hd;have h2:=Xo (Xz (x:=(b.log.length:Int)) (by omega));have h6:(⟨(Gr (Ak b.log ((b.log.length:Int) - 1))).toArray⟩:ByteArray).size<=100:=by rw[Z9,Wh];exact h1
      rw[Ai h5,Ai (by omega),Xb (by omega) (by omega),Xm (by omega) (by omega),Ag,Yq6 hd,Ag,Wr (by rw[Z5];simp only[AV,Bq];omega),Ag,Ho (Xz (by omega)),Ag,Wr (by rw[Y3,Z5];simp only[AV,Bq];omega)];rfl
def Hy (d:Z3):Zx:=Zx.mk d.Ae d.script (d.DM.getD Za.z0) d.DM.isSome
def OM (x:ByteArray):Prop:=L8 x=[115,116,101,112]\/L8 x=[111,117,116]\/L8 x=[105,100,108,101]\/L8 x=[111,107]\/L8 x=[108,111,103]
instance (x:ByteArray):Decidable (OM x):=by unfold OM;infer_instance
def eG (c:Zh):ByteArray:=if Yr c=true then ⟨(DR c).toArray⟩ else Zd [110,111,110,101]
def Na (d:Z3) (x:ByteArray):ByteArray×Z3:=
 if L8 x=[110,101,119] then (if Yr d.Ae=true then (Zd [111,107],{d with DM:=some (De d.Ae)}) else (Zd [110,111],d))
 else if L8 x=[99,111,110,102] then (eG d.Ae,d)
 else if OM x then (match d.DM with
  | none=>(Zd [110,111,110,101],d)
  | some b=>((MZ d.script b x).1,{d with DM:=some (MZ d.script b x).2}))
 else (Zd [119,104,97,116],d)
structure FC (n:Nat) (d:Z3):Prop where
 Ae:d.Ae.Ab.length < 1048577
 Al:d.script.Al.length<=4000*n
 reqs:∀p∈d.script.Al,p.Bo.sm
 waits:d.script.waits.length < 1048577
 A3:d.script.A3.length < 1048577
 JB:∀w∈d.script.waits,-9223372036854775808<=w/\w < 9223372036854775808
 DM:∀b,d.DM=some b->CV b
theorem FC.sm {n:Nat} {d:Z3} (h:FC n d) (hn:n<=100):d.script.sm:=⟨by have:=h.Al;omega,h.reqs,h.waits,h.A3,h.JB⟩
theorem FC.mono {n m:Nat} {d:Z3} (h:FC n d) (hn:n<=m):FC m d:={h with Al:=by have:=h.Al;omega}
theorem eH (m:Ze):∀c∈mW m,c≠10:=by
 unfold mW;split
 .exact Xs (Xs (Xs (Xs (FB _) (by decide)) (FB _)) (by decide)) (FB _)
 .exact FB _
theorem Y7a {c:Zh} (h:Yr c=true):GS ⟨(DR c).toArray⟩:=by
 obtain⟨hq,hw,hr,hs,hk,hn,hm⟩:=dV h;have i1:=K5 (Xz (x:=c.Av) (by omega));have i2:=K5 (Xz (x:=c.As) (by omega));have i3:=K5 (Xz (x:=c.An) (by omega));have i4:=K5 (Xz (x:=c.Ap) (by omega));have i5:=K5 (Xz (x:=c.Am) (by omega));have key:∀l:List Ze,(∀m∈l,m∈c.Ab)->(l.flatMap λm=>[32]++mW m).length<=63*l.length/\∀y∈l.flatMap λm=>[32]++mW m,y≠10:=by
  intro l
  induction l with
  | nil=>intro _;exact⟨by simp,λy hy=>by simp at hy⟩
  | cons m l ih=>
   intro hl;have h1:=ih λy hy=>hl y (Co _ hy);have h2:=hm m (hl m BJ);have h3:=Y1s (Xz (x:=m.weight) (by omega)) (Xz (x:=m.every) (by omega)) (Xz (x:=m.cap) (by omega));rw[FE];exact⟨by simp only[Cw,AV,Bq];omega,Xs (Xs (by decide) (eH m)) h1.2⟩
 have h1:=key c.Ab λm hm=>hm;unfold DR U9;refine .mk ⟨?_,Xs (Xs (Xs (Xs (Xs (Xs (Xs (Xs (Xs (FB _) (by decide)) (FB _)) (by decide)) (FB _)) (by decide)) (FB _)) (by decide)) (FB _)) h1.2⟩;simp only[Cw,AV,Bq] at h1 ⊢;omega
theorem Ypw (c:Zh):L8 ⟨(DR c).toArray⟩≠[]:=Ysp c
theorem Y5z {n:Nat} {d:Z3} (h:FC n d) (x:ByteArray):GS (Na d x).1/\FC n (Na d x).2:=by
 unfold Na;split
 .split
  .rename_i hc
   exact⟨.str (by decide),{h with DM:=λb hb=>by cases hb;exact Sp hc}⟩
  .exact⟨.str (by decide),h⟩
 .split
  .refine⟨?_,h⟩
   unfold eG;split
   .rename_i hc;exact Y7a hc
   .exact .str (by decide)
  .split
   .split
    .exact⟨.str (by decide),h⟩
    .rename_i b hb
     have:=Y7p (s:=d.script) (h.DM b hb) x;exact⟨this.1,{h with DM:=λb' Yx=>by cases Yx;exact this.2}⟩
   .exact⟨.str (by decide),h⟩
def UC (d:Z3) (x:ByteArray):Option (ByteArray×Z3):=match d.DM with
 | none=>aD d.Ae d.script x
 | some b=>bM d.Ae d.script b x
def UD (d:Z3) (x:ByteArray):Option (ByteArray×Z3):=match d.DM with
 | none=>nB d.Ae d.script x
 | some b=>nH d.Ae d.script b x
theorem Y25 {n:Nat} {d:Z3} (h:FC n d) (hn:n<=100) (x:ByteArray):UC d x=some (Na d x):=by
 obtain⟨c,s,o⟩:=d;have hc:=h.Ae;have hs:=h.sm hn;have hq:∀{β:Type} (a b:Option β),(if ¬L8 (if Yr c=true then (⟨(DR c).toArray⟩:ByteArray) else ByteArray.empty)=[] then a else b)=if Yr c=true then a else b:=λa b=>by
  by_cases hg:Yr c=true
  .rw[Ah hg,Ah hg,Ah (Ypw c)]
  .rw[Ai hg,Ai hg,Ai (by simp[FM])]
 cases o with
 | none=>
  unfold UC Na aD R2;simp only[sS,Ywi];by_cases h1:L8 x=[110,101,119]
  .rw[Ah h1,Ah h1,Yg1 c hc,Ag]
   unfold So;by_cases hg:Yr c=true
   .rw[Ah hg,Ah hg];rfl
   .rw[Ai hg,Ai hg];rfl
  .rw[Ai h1,Ai h1]
   by_cases h2:L8 x=[99,111,110,102]
   .rw[Ah h2,Ah h2,Zzm hc,Ag,hq]
    unfold eG;by_cases hg:Yr c=true
    .rw[Ah hg,Ah hg,Ah hg]
    .rw[Ai hg,Ai hg]
   .rw[Ai h2,Ai h2]
    unfold OM;by_cases a1:L8 x=[115,116,101,112]
    .simp[a1]
    .by_cases a2:L8 x=[111,117,116]
     .simp[a2]
     .by_cases a3:L8 x=[105,100,108,101]
      .simp[a3]
      .by_cases a4:L8 x=[111,107]
       .simp[a4]
       .by_cases a5:L8 x=[108,111,103]
        .simp[a5]
        .simp[a1,a2,a3,a4,a5]
 | some b=>
  have hb:=h.DM b rfl;unfold UC Na bM Jx;simp only[sS,Ywi];by_cases h1:L8 x=[110,101,119]
  .rw[Ah h1,Ah h1,Yg1 c hc,Ag]
   unfold So;by_cases hg:Yr c=true
   .rw[Ah hg,Ah hg];rfl
   .rw[Ai hg,Ai hg];rfl
  .rw[Ai h1,Ai h1]
   by_cases h2:L8 x=[99,111,110,102]
   .rw[Ah h2,Ah h2,Zzm hc,Ag,hq]
    unfold eG;by_cases hg:Yr c=true
    .rw[Ah hg,Ah hg,Ah hg]
    .rw[Ai hg,Ai hg]
   .rw[Ai h2,Ai h2,Y6r c hb hs x]
    unfold OM;by_cases a1:L8 x=[115,116,101,112]
    .simp[a1]
    .by_cases a2:L8 x=[111,117,116]
     .simp[a2]
     .by_cases a3:L8 x=[105,100,108,101]
      .simp[a3]
      .by_cases a4:L8 x=[111,107]
       .simp[a4]
       .by_cases a5:L8 x=[108,111,103]
        .simp[a5]
        .simp[a1,a2,a3,a4,a5]
theorem Y74 {n:Nat} {d:Z3} (h:FC n d) (hn:n<=100) (x:ByteArray):mB (Hy d) x=some (Hy (Na d x).2,(Na d x).1):=by
 obtain⟨c,s,o⟩:=d;have hc:=h.Ae;have hs:=h.sm hn;obtain⟨k,f1,f2⟩:=Yyz [(Zd [115,116,101,112]),(Zd [111,117,116]),(Zd [108,111,103]),(Zd [105,100,108,101]),(Zd [111,107])] x (by simp);simp only[Cj,HV,or_false,forall_eq_or_imp,forall_eq,Z4] at f2;have hq:∀{β:Type} (a b:Option β),(if L8 (if Yr c=true then (⟨(DR c).toArray⟩:ByteArray) else ByteArray.empty)=[] then a else b)=if Yr c=true then b else a:=λa b=>by
  by_cases hg:Yr c=true
  .rw[Ah hg,Ah hg,Ai (Ypw c)]
  .rw[Ai hg,Ai hg,Ah (by simp[FM])]
 rw[show Hy ⟨c,s,o⟩=Zx.mk c s (o.getD Za.z0) o.isSome from rfl];unfold mB Na;dsimp only;rw[f1];simp only[sS,S4,Bj,Ag];by_cases h1:L8 x=[110,101,119]
 .rw[Ah h1,Ah h1,Yxv c hc,Ag]
  unfold So;by_cases hg:Yr c=true
  .rw[Ah hg,Ah hg];rfl
  .rw[Ai hg,Ai hg];rfl
 .rw[Ai h1,Ai h1]
  by_cases h2:L8 x=[99,111,110,102]
  .rw[Ah h2,Ah h2,Ya6 hc,Ag,hq]
   unfold eG;by_cases hg:Yr c=true
   .rw[Ah hg,Ah hg,Ah hg];rfl
   .rw[Ai hg,Ai hg];rfl
  .rw[Ai h2,Ai h2]
   by_cases h3:OM x
   .have hk:¬k < 0:=λhk=>by
     have:=f2.1 hk;unfold OM at h3;rcases h3 with h3|h3|h3|h3|h3
     .exact this.1 h3.symm
     .exact this.2.1 h3.symm
     .exact this.2.2.2.1 h3.symm
     .exact this.2.2.2.2 h3.symm
     .exact this.2.2.1 h3.symm
    rw[Ai hk,Ah h3];cases o with
    | none=>rfl
    | some b=>
     have hb:=h.DM b rfl;have dI:=hb.now;have Dw:=hb.sm;have hl:=sU hb;have Yg:okB b=true:=(sE Dw).2 hb;simp only[OV,Du,Bn,if_false,FY];unfold MZ;by_cases a1:L8 x=[115,116,101,112]
     .rw[Ah a1,Ah a1,Yun Dw hs,Ag]
      by_cases a2:b.now=4000
      .rw[Ah a2,Ah a2];rfl
      .rw[Ai a2,Ai a2]
       unfold Yvv;rw[Ah ⟨Yg,a2⟩,Yrk (Ycj hb s (by omega))];rfl
     .rw[Ai a1,Ai a1]
      by_cases a2:L8 x=[111,117,116]
      .rw[Ah a2,Ah a2,Yzj Dw hs,Ag,Qk (sT hb s).2]
       rfl
      .rw[Ai a2,Ai a2]
       by_cases a3:L8 x=[105,100,108,101]
       .rw[Ah a3,Ah a3,Ys8 Dw,Ag]
        unfold Y3y;rw[Yg];cases FR b<;>rfl
       .rw[Ai a3,Ai a3]
        by_cases a4:L8 x=[111,107]
        .have ha:=Yb7 b.log UB 0 Uz
         rw[Ah a4,Ah a4,Yy8 b.log (by omega),Ag,show (Zf.mk (List.replicate 192 0) (Zm.mk (List.replicate 4 0) 0 []))=UB from rfl,U0 (Xz (by omega))];rfl
        .rw[Ai a4,Ai a4]
         unfold eF;by_cases a5:b.log=[]
         .rw[Ah a5,Ah (by rw[a5];rfl)];rfl
         .have hp:0 < b.log.length:=Cv.2 a5
          have hd:=Yif hb (Gj (xs:=b.log) (i:=(b.log.length:Int) - 1) (by omega) (by omega));have h1:=sG hd;have h2:=Xo (Xz (x:=(b.log.length:Int)) (by omega));have h6:(⟨(Gr (Ak b.log ((b.log.length:Int) - 1))).toArray⟩:ByteArray).size<=100:=by rw[Z9,Wh];exact h1
          rw[Ai a5,Ai (by omega),Xb (by omega) (by omega),Xm (by omega) (by omega),Ag,Yq4 hd,Ag,Wr (by rw[Z5];simp only[AV,Bq];omega),Ag,Qk (Xz (by omega)),Ag,Wr (by rw[Y3,Z5];simp only[AV,Bq];omega)];rfl
   .have hk:k < 0:=f2.2 (by
     unfold OM at h3;simp only[not_or] at h3;exact⟨λe=>h3.1 e.symm,λe=>h3.2.1 e.symm,λe=>h3.2.2.2.2 e.symm,λe=>h3.2.2.1 e.symm,λe=>h3.2.2.2.1 e.symm⟩)
    rw[Ah hk,Ai h3];rfl
theorem S5 (c:UInt8) (l:List UInt8):(Lib.contains l [c]=false/\∀x∈l,x≠c)\/∃w r,l=w++c::r/\(∀x∈w,x≠c)/\Lib.contains l [c]=true/\Lib.cut l [c]=(w,r,true):=by
 have h1:=Lib.index_one l c;have N3:=Lib.indexByte_ge l c;by_cases h0:Lib.indexByte l c=-1
 .have:=Lib.indexByte_none h0
  refine .inl ⟨by unfold Lib.contains;rw[h1,h0];rfl,λx hx e=>?_⟩;subst e;obtain⟨k,hk⟩:=H0 hx;exact this k hk
 .obtain⟨o,ho⟩:∃o:Nat,Lib.indexByte l c=o:=⟨(Lib.indexByte l c).toNat,by omega⟩
  obtain⟨g1,g2⟩:=Lib.indexByte_some ho;obtain⟨g3,g4⟩:=CX.1 g1;refine .inr ⟨l.take o,l.drop (o+1),?_,λx hx e=>?_,by unfold Lib.contains;rw[h1,ho];simp,by unfold Lib.cut;rw[h1,ho,Ah (by omega)];rfl⟩
  .rw[<-g4,List.getElem_cons_drop,eT]
  .subst e
   obtain⟨k,hk⟩:=H0 hx;rw[Df] at hk;split at hk
   .rename_i VU;exact g2 k VU hk
   .cases hk
def eI (c:Zh) (s:Zb) (o:Option Za) (x w:ByteArray) (v:Bool):Option (ByteArray×Z3):=
 if v=true then
  (Ya x (Zd [10])).bind λn0=>(M5 (x++Zd [10])).bind λr0=>
  if (!r0.2)=true then some (Zd [110,111],Z3.mk c s o)
  else if (w.toList == (Zd [119,97,105,116,115]).toList)=true then some (Zd [111,107],Z3.mk c {s with waits:=r0.1.waits} o)
  else if (w.toList == (Zd [115,97,121,115]).toList)=true then some (Zd [111,107],Z3.mk c {s with A3:=r0.1.A3} o)
  else (Y4 80 s.Al r0.1.Al).bind λz0=>some (Zd [111,107],Z3.mk c {s with Al:=z0} o)
 else some (Zd [119,104,97,116],Z3.mk c s o)
def ON (c:Zh) (s:Zb) (o:Option Za) (x:ByteArray):Option (ByteArray×Z3):=
 (Ru x (Zd [32])).bind λr1=>
 if (r1.1.toList == (Zd [99,111,110,102]).toList)=true then
  (Le r1.2.1).bind λr2=>if (!r2.2)=true then some (Zd [110,111],Z3.mk c s o) else some (Zd [111,107],Z3.mk r2.1 Zb.z0 none)
 else if (r1.1.toList == (Zd [119,97,105,116,115]).toList)=true then eI c s o x r1.1 (r1.1.toList == (Zd [119,97,105,116,115]).toList)
 else if (r1.1.toList == (Zd [115,97,121,115]).toList)=true then eI c s o x r1.1 (r1.1.toList == (Zd [115,97,121,115]).toList)
 else eI c s o x r1.1 (r1.1.toList == (Zd [112,111,115,116]).toList)
theorem S6 (d:Z3) (x:ByteArray):UD d x=ON d.Ae d.script d.DM x:=by
 obtain⟨c,s,o⟩:=d;cases o<;>rfl
theorem Jy.i64 {v:Int} (h:Jy v):-9223372036854775808<=v/\v < 9223372036854775808:=by
 have:=h.r;unfold Jy at h;omega
theorem Y6v {x:ByteArray} {z:Zb} (h:L1 x z):z.Al.length<=x.size:=by
 have hf:∀ps:List Zl,ps.length<=(ps.flatMap F9).length:=λps=>by
  induction ps with
  | nil=>simp
  | cons p ps ih=>
   rw[FE,Cw,AV];have:1<=(F9 p).length:=by unfold F9;simp
   omega
 have h1:=congrArg List.length h.text;rw[<-Z9] at h1;unfold OK at h1;rw[Cw] at h1;have:=hf z.Al;omega
theorem Y5x {n:Nat} {d:Z3} (h:FC n d) (hn:n<=99) {x:ByteArray} (hx:x.size<=3500) {w r:List UInt8} (hw:L8 x=w++32::r) (Ct:∀c∈w,c≠32) (Y95:Lib.cut (L8 x) [32]=(w,r,true)):
  ∃q:ByteArray×Z3,UD d x=some q/\Rq (Hy d) x=some (Hy q.2,q.1)/\GS q.1/\FC (n+1) q.2:=by
 obtain⟨c,s,o⟩:=d;have hm:FC (n+1) (Z3.mk c s o):=h.mono (by omega);have hs:=h.sm (by omega);obtain⟨ws,e1,e2⟩:=Hw (x:=x) 32 (by omega);have e1:Wt x 32=some ws:=e1;rw[hw,U6 Ct] at e2;obtain⟨a,ar,rfl⟩:∃a ar,ws=a::ar:=by
  cases ws with
  | nil=>cases e2
  | cons a ar=>exact⟨a,ar,rfl⟩
 rw[C7] at e2;injection e2 with e2 e3;have Yn:0 < ar.length:=by
  have h1:=congrArg List.length e3;rw[JL] at h1;have:=dR 32 r;have:=Cv.2 this;omega
 have Ww:x.size=w.length+1+r.length:=by rw[Z9,hw];simp;omega
 have eJ:Ru x (Zd [32])=some (⟨w.toArray⟩,⟨r.toArray⟩,true):=by
  unfold Ru;rw[Ah (by omega),show (Lib.cut x.data.toList (Zd [32]).data.toList)=(w,r,true) from Y95]
 have a0:idx (a::ar) 0=some a:=rfl;have DI:w=[99,111,110,102]->Hk x 5 (x.size:Int)=some ⟨r.toArray⟩:=λhwc=>by
  have:=Su (x:=x) (a:=5) (b:=x.size) (by rw[Ww,hwc];simp) (by rw[Z9];exact B4 _);obtain⟨y,y1,y2⟩:=this;have:y=⟨r.toArray⟩:=K3 (by
   rw[y2,hw,hwc,Wh,Ww,hwc];simp)
  rw[<-this];exact y1
 have hb:∀l,(a.toList == (Zd l).toList)=decide (w=l):=λl=>by rw[Ka,Z4,e2]
 have Ew:∀l,((⟨w.toArray⟩:ByteArray).toList == (Zd l).toList)=decide (w=l):=λl=>by rw[Ka,Z4,Wh]
 have iA:∀{β:Type} (J:Bool->β),(if decide (w=[119,97,105,116,115])=true then J (decide (w=[119,97,105,116,115])) else if decide (w=[115,97,121,115])=true then J (decide (w=[115,97,121,115])) else J (decide (w=[112,111,115,116])))=J (decide (w=[119,97,105,116,115]\/w=[115,97,121,115]\/w=[112,111,115,116])):=λJ=>by
  by_cases g2:w=[119,97,105,116,115]
  .simp[g2]
  .by_cases g3:w=[115,97,121,115]
   .simp[g3]
   .simp[g2,g3]
 have w1:Rq (Hy ⟨c,s,o⟩) x=if decide (w=[99,111,110,102])=true then ((Hk x 5 (x.size:Int)).bind λs0=>(Od s0).bind λr3=>if (!r3.2)=true then some (Hy ⟨c,s,o⟩,Zd [110,111]) else some (Zx.mk r3.1 Zb.z0 Za.z0 false,Zd [111,107]))
   else T6 (Hy ⟨c,s,o⟩) x (a::ar) (decide (w=[119,97,105,116,115]\/w=[115,97,121,115]\/w=[112,111,115,116])):=by
  unfold Rq;rw[e1,Ag,Ai (by simp only[AV,Bj];omega),a0,Ag,hb,hb,hb,hb,iA]
 have w2:UD ⟨c,s,o⟩ x=if decide (w=[99,111,110,102])=true then (Le ⟨r.toArray⟩).bind λr2=>if (!r2.2)=true then some (Zd [110,111],Z3.mk c s o) else some (Zd [111,107],Z3.mk r2.1 Zb.z0 none)
   else eI c s o x ⟨w.toArray⟩ (decide (w=[119,97,105,116,115]\/w=[115,97,121,115]\/w=[112,111,115,116])):=by
  rw[S6];unfold ON;rw[eJ,Ag,Ew,Ew,Ew,Ew,iA]
 rw[w1,w2];by_cases g1:w=[99,111,110,102]
 .rw[Ah (by simpa using g1),Ah (by simpa using g1),DI g1,Ag]
  obtain⟨q,q1,q2,q3⟩:=Yra (x:=⟨r.toArray⟩) (by rw[Z9,Wh];omega);rw[q1,q2,Ag,Ag];rcases q3 with rfl|⟨hq,hg⟩
  .exact⟨_,rfl,rfl,.str (by decide),hm⟩
  .rw[hq]
   refine⟨_,rfl,rfl,.str (by decide),⟨?_,by show ([]:List Zl).length<=_;simp,λp hp=>by simp[Zb.z0] at hp,by simp[Zb.z0],by simp[Zb.z0],λv hv=>by simp[Zb.z0] at hv,λb hb=>by cases hb⟩⟩;have:=Km hg.1;show q.1.Ab.length < _;omega
 .rw[Ai (by simpa using g1),Ai (by simpa using g1)]
  unfold T6 eI;rw[Ew,Ew];by_cases g2:w=[119,97,105,116,115]\/w=[115,97,121,115]\/w=[112,111,115,116]
  .rw[decide_eq_true g2,Ah rfl,Ah rfl,Wr (by rw[Z5];simp only[AV,Bq];omega),Ag,Ag]
   have hx1:(x++Zd [10]).size<=3600:=by rw[Y3,Z5];simp only[AV,Bq];omega
   obtain⟨q,q1,q2,q3⟩:=Ykn (x:=x++Zd [10]) (by omega);rw[q1,q2,Ag,Ag];rcases q3 with rfl|⟨hq,hg⟩
   .exact⟨_,rfl,rfl,.str (by decide),hm⟩
   .have N6:=Y6v hg
    rw[hq,a0,Ag,hb,hb];simp only[Du,Bn,if_false,Bj];by_cases g3:w=[119,97,105,116,115]
    .rw[Ah g3,Ah g3]
     exact⟨_,rfl,rfl,.str (by decide),{hm with waits:=hg.w.1,JB:=λv hv=>(hg.w.2 v hv).i64}⟩
    .rw[Ai g3,Ai g3]
     by_cases g4:w=[115,97,121,115]
     .rw[Ah g4,Ah g4]
      exact⟨_,rfl,rfl,.str (by decide),{hm with A3:=hg.s.1}⟩
     .have hp:=h.Al
      rw[Ai g4,Ai g4,show (Hy ⟨c,s,o⟩).s=s from rfl,Yp (xs:=([]:List Zl)) (by simp only[Bq];have hp:s.Al.length<=4000*n:=hp;omega) (by simp only[Bq];have hp:s.Al.length<=4000*n:=hp;omega),Ag,L3,Yp (by have hp:s.Al.length<=4000*n:=hp;omega) (by have hp:s.Al.length<=4000*n:=hp;omega),Ag,Ag];refine⟨_,rfl,rfl,.str (by decide),{hm with Al:=?_,reqs:=λp hp=>?_}⟩
      .show (s.Al++q.1.Al).length<=_
       have hp:s.Al.length<=4000*n:=hp;rw[Cw];omega
      .rcases BT.1 hp with hp|hp
       .exact h.reqs p hp
       .exact (cJ (hg.reqs p hp).2.2)
  .rw[decide_eq_false g2,Ai (by simp),Ai (by simp)]
   exact⟨_,rfl,rfl,.str (by decide),hm⟩
def Nb (d:Z3) (x:ByteArray):ByteArray×Z3:=((if Lib.contains (L8 x) [32]=true then UD d x else UC d x).getD (ByteArray.empty,d))
theorem Yp5 {n:Nat} {d:Z3} (h:FC n d) (hn:n<=99) {x:ByteArray} (hx:x.size<=3500):
  (if Lib.contains (L8 x) [32]=true then UD d x else UC d x)=some (Nb d x)/\Rq (Hy d) x=some (Hy (Nb d x).2,(Nb d x).1)/\GS (Nb d x).1/\FC (n+1) (Nb d x).2:=by
 unfold Nb;rcases S5 32 (L8 x) with⟨h1,h2⟩|⟨w,r,h1,h2,h3,h4⟩
 .rw[h1,Ai (by simp),Y25 h (by omega)]
  have ha:=Y5z h x;refine⟨rfl,?_,ha.1,ha.2.mono (by omega)⟩;obtain⟨ws,e1,e2⟩:=Hw (x:=x) 32 (by omega);have e1:Wt x 32=some ws:=e1;rw[dS h2] at e2;have hl:ws.length=1:=by simpa using congrArg List.length e2
  unfold Rq;rw[e1,Ag,Ah (by simp[hl]),Y74 h (by omega)];rfl
 .rw[h3,Ah rfl]
  obtain⟨q,q1,q2,q3,q4⟩:=Y5x h hn hx h1 h2 h4;rw[q1];exact⟨rfl,q2,q3,q4⟩
def JJ:List ByteArray->Z3->List UInt8×Z3
 | [],d=>([],d)
 | x::l,d=>if L8 x=[] then JJ l d else (L8 (Nb d x).1++[10]++(JJ l (Nb d x).2).1,(JJ l (Nb d x).2).2)
theorem Y1w {x:ByteArray} (hx:x.size<=3500):Rt x (Zd [32])=some (Lib.contains (L8 x) [32]):=by
 unfold Rt;rw[Ah (by omega)];rfl
theorem Nc {α:Type} {c:Prop} {_:Decidable c} {a b a' b':α} (h1:a=a') (h2:b=b'):ite c a b=ite c a' b':=by rw[h1,h2]
theorem sV {α β:Type} {x:Option α} {f g:α->Option β} (h:∀a,f a=g a):x.bind f=x.bind g:=by cases x with|none=>rfl|some a=>exact h a
theorem Yzp {x0:ByteArray} {vs:List ByteArray} (hz:∀v∈vs,v.size<=3500) (hl:vs.length<=61):∀(m j:Nat) (d:Z3) (out:ByteArray),j<=vs.length->vs.length - j < m->FC j d->out.size<=200000*j->
  Jp x0 m d out vs (vs.length:Int) (j:Int)=some ⟨(L8 out++(JJ (vs.drop j) d).1).toArray⟩:=by
 intro m
 induction m with
 | zero=>intro j d out _ h;omega
 | succ m ih=>
  intro j d out hj hm hd ho;show p5 x0 (Jp x0 m) d out vs (vs.length:Int) (j:Int)=_;have hu:p5 x0 (Jp x0 m) d out vs (vs.length:Int) (j:Int)=if decide ((j:Int) < (vs.length:Int))=true then ((idx vs (j:Int)).bind λa0=>if (a0.toList == ByteArray.empty.toList)=true then Jp x0 m d out vs (vs.length:Int) (Zo (j:Int) 1) else
    (Rt a0 (Zd [32])).bind λr0=>(if r0=true then UD d a0 else UC d a0).bind λq=>(Ya q.1 (Zd [10])).bind λ_=>(Ya out (q.1++Zd [10])).bind λ_=>Jp x0 m q.2 (out++(q.1++Zd [10])) vs (vs.length:Int) (Zo (j:Int) 1)) else some out:=by
   obtain⟨c,s,o⟩:=d;unfold p5;have fin:∀(z:Option (ByteArray×Z3)) (K:Z3->ByteArray->Option ByteArray),(z.bind λr1=>match r1 with
     | (z2,⟨z3,z4,none⟩)=>(Ya z2 (Zd [10])).bind λn0=>(Ya out (z2++(Zd [10]))).bind λn1=>K (Z3.mk z3 z4 none) (out++(z2++(Zd [10])))
     | (z2,⟨z3,z4,some z5⟩)=>(Ya z2 (Zd [10])).bind λn0=>(Ya out (z2++(Zd [10]))).bind λn1=>K (Z3.mk z3 z4 (some z5)) (out++(z2++(Zd [10]))))=z.bind λq=>(Ya q.1 (Zd [10])).bind λ_=>(Ya out (q.1++Zd [10])).bind λ_=>K q.2 (out++(q.1++Zd [10])):=λz K=>by
    cases z with
    | none=>rfl
    | some q=>
     obtain⟨t,c',s',o'⟩:=q;cases o'<;>rfl
   cases o with
   | none=>
    refine Nc (sV λa0=>Nc rfl (sV λr0=>?_)) rfl;cases r0 with
    | true=>exact fin (nB c s a0) λd o=>Jp x0 m d o vs (vs.length:Int) (Zo (j:Int) 1)
    | false=>exact fin (aD c s a0) λd o=>Jp x0 m d o vs (vs.length:Int) (Zo (j:Int) 1)
   | some b=>
    refine Nc (sV λa0=>Nc rfl (sV λr0=>?_)) rfl;cases r0 with
    | true=>exact fin (nH c s b a0) λd o=>Jp x0 m d o vs (vs.length:Int) (Zo (j:Int) 1)
    | false=>exact fin (bM c s b a0) λd o=>Jp x0 m d o vs (vs.length:Int) (Zo (j:Int) 1)
  rw[hu];by_cases hc:j < vs.length
  .have hv:=hz _ (B6 hc)
   rw[Ah (by simpa using hc),Zy hc,Ag,Yf (by omega),D5 hc,Ka,FM];unfold JJ;by_cases he:L8 vs[j]=[]
   .rw[Ah (by simpa using he),Ah he]
    exact ih (j+1) d out (by omega) (by omega) (hd.mono (by omega)) (by omega)
   .obtain⟨a1,a2,a3,a4⟩:=Yp5 hd (by omega) hv
    have Cc:=a3.1;rw[Ai (by simpa using he),Ai he,Y1w hv,Ag,a1,Ag,Wr (by rw[Z5];simp only[AV,Bq];omega),Ag,Wr (by rw[Y3,Z5];simp only[AV,Bq];omega),Ag,ih (j+1) _ _ (by omega) (by omega) a4 (by rw[Y3,Y3,Z5];simp only[AV,Bq];omega),Wd,Wd,Z4];simp only[List.append_assoc]
  .have e:j=vs.length:=by omega
   subst e;rw[Ai (by simp),List.drop_length];unfold JJ;rw[Gu];rfl
theorem Yyi {x0:ByteArray} {vs:List ByteArray} (hz:∀v∈vs,v.size<=3500) (hl:vs.length<=61):∀(m j:Nat) (d:Z3) (out:ByteArray),j<=vs.length->vs.length - j < m->FC j d->out.size<=200000*j->
  ZQ x0 m (Hy d) vs out (j:Int)=some ⟨(L8 out++(JJ (vs.drop j) d).1).toArray⟩:=by
 intro m
 induction m with
 | zero=>intro j d out _ h;omega
 | succ m ih=>
  intro j d out hj hm hd ho;show y5 x0 (ZQ x0 m) (Hy d) vs out (j:Int)=_;unfold y5;by_cases hc:j < vs.length
  .have hv:=hz _ (B6 hc)
   rw[Ah (by simpa using hc),Zy hc,Ag,Yf (by omega),D5 hc,Ka,FM];unfold JJ;by_cases he:L8 vs[j]=[]
   .rw[Ah (by simpa using he),Ah he]
    exact ih (j+1) d out (by omega) (by omega) (hd.mono (by omega)) (by omega)
   .obtain⟨a1,a2,a3,a4⟩:=Yp5 hd (by omega) hv
    have Cc:=a3.1;rw[Ai (by simpa using he),Ai he,a2,Ag];dsimp only;rw[Wr (by omega),Ag,Wr (by rw[Y3,Z5];simp only[AV,Bq];omega),Ag,ih (j+1) _ _ (by omega) (by omega) a4 (by rw[Y3,Y3,Z5];simp only[AV,Bq];omega),Wd,Wd,Z4];simp only[List.append_assoc]
  .have e:j=vs.length:=by omega
   subst e;rw[Ai (by simp),List.drop_length];unfold JJ;rw[Gu];rfl
def Nd (l:List UInt8):List (List UInt8):=if (Xa 10 l).getLast?=some [] then (Xa 10 l).dropLast else Xa 10 l
def OO (x:ByteArray):List UInt8:=if 3000 < x.size\/60 < (Nd (L8 x)).length then [] else (JJ ((Nd (L8 x)).map λl=>⟨l.toArray⟩) Z3.z0).1
theorem Yp8:FC 0 Z3.z0:=⟨by decide,by decide,λp hp=>(by cases hp),by decide,by decide,λw hw=>(by cases hw),λb hb=>(by cases hb)⟩
theorem Yuc {ws:List ByteArray} {ls:List (List UInt8)} (h:ws.map L8=ls):ws=ls.map λl=>⟨l.toArray⟩:=by
 subst h;rw[GY]
 conv=>lhs;rw[<-List.map_id ws]
 refine OT λa _=>?_;exact K3 rfl
theorem Yzk {α:Type} (xs:List α) (h:0 < xs.length) (hl:xs.length < 4611686018427387904):Ys xs 0 (Xd (xs.length:Int) 1)=some xs.dropLast:=by
 rw[Xb (by omega) (by omega)];unfold Ys;rw[Ah (by omega),List.dropLast_eq_take]
 congr 2
 omega
theorem Y6i {x:ByteArray} (hx:x.size<=1048576):mI x=some ⟨(OO x).toArray⟩/\p6 x=some ⟨(OO x).toArray⟩:=by
 obtain⟨ws,a1,a2⟩:=JG (x:=x) 10 (by omega);obtain⟨vs,b1,b2⟩:=Hw (x:=x) 10 (by omega);have b1:Wt x 10=some vs:=b1;have e:vs=ws:=(Yuc b2).trans (Yuc a2).symm;subst e;have Yh:=dR 10 (L8 x);have hle:=Ypt 10 (L8 x);rw[<-Z9] at hle;have Yn:vs.length=(Xa 10 (L8 x)).length:=by simpa using congrArg List.length a2
 have Mf:=Cv.2 Yh;have key:∀us:List ByteArray,us.map L8=Nd (L8 x)->RE x us=some ⟨(OO x).toArray⟩/\Rr x us=some ⟨(OO x).toArray⟩:=λus hu=>by
  have Pf:us.length=(Nd (L8 x)).length:=by simpa using congrArg List.length hu
  have hum:=Yuc hu;by_cases h1:3000 < x.size
  .have e1:decide ((x.size:Int) > 3000)=true:=by simp;omega
   have e2:OO x=[]:=Ah (.inl h1);unfold RE Rr;rw[e1,e2];exact⟨rfl,rfl⟩
  .have e1:decide ((x.size:Int) > 3000)=false:=by simp;omega
   by_cases h2:60 < (Nd (L8 x)).length
   .have e2:OO x=[]:=Ah (.inr h2)
    have e3:decide ((us.length:Int) > 60)=true:=by simp;omega
    unfold RE Rr;rw[e1,e2,e3];exact⟨rfl,rfl⟩
   .have e2:OO x=(JJ us Z3.z0).1:=by
     unfold OO;rw[Ai (by omega),<-hum]
    have e3:decide ((us.length:Int) > 60)=false:=by simp;omega
    have hz:∀v∈us,v.size<=3500:=λv hv=>by
     have h3:L8 v∈Nd (L8 x):=by rw[<-hu];exact List.mem_map_of_mem hv
     have h4:L8 v∈Xa 10 (L8 x):=by
      unfold Nd at h3;split at h3
      .exact (List.dropLast_sublist _).subset h3
      .exact h3
     have:=Yjz h4;rw[<-Z9,<-Z9] at this;omega
    have g1:=Yzp (x0:=x) hz (by omega) FU 0 Z3.z0 ByteArray.empty (Cd _) (by have:=Y5;omega) Yp8 (by decide);have g2:=Yyi (x0:=x) hz (by omega) FU 0 Z3.z0 ByteArray.empty (Cd _) (by have:=Y5;omega) Yp8 (by decide);unfold RE Rr;rw[e1,e2,e3];exact⟨g1,g2⟩
 have rQ:idx vs (Xd (vs.length:Int) 1)=some (vs[vs.length - 1]'(by omega)):=by
  rw[Xb (by omega) (by omega),show ((vs.length:Int) - 1)=((vs.length - 1:Nat):Int) by omega];exact Zy _
 have CJ:(Xa 10 (L8 x)).getLast?=some (L8 (vs[vs.length - 1]'(by omega))):=by
  rw[<-a2,List.getLast?_eq_getElem?,Dt,JL,CB (by omega)];rfl
 unfold mI p6;rw[a1,b1,Ag,Ag,rQ,Ag,Ag,Ka,FM];by_cases h:L8 (vs[vs.length - 1]'(by omega))=[]
 .rw[Ah (by simpa using h),Ah (by simpa using h),Yzk vs (by omega) (by omega),Ag,Ag]
  have:=key vs.dropLast (by
   unfold Nd;rw[Ah (by rw[CJ,h]),List.map_dropLast,a2])
  exact⟨this.2,this.1⟩
 .rw[Ai (by simpa using h),Ai (by simpa using h)]
  have:=key vs (by
   unfold Nd;rw[Ai (by rw[CJ];simpa using h),a2])
  exact⟨this.2,this.1⟩
theorem Yfw (x:ByteArray) (h:x.size<=maxLen):zI x=some true:=by
 unfold zI;by_cases h:x.size<=1048576
 .obtain⟨h1,h2⟩:=Y6i h
  rw[Ai (by simp;omega),h1,h2];simp
 .rw[Ah (by simp;omega)]
end Go.Proofs.YthdljdelfgofdaaGreatDoor.Ev
