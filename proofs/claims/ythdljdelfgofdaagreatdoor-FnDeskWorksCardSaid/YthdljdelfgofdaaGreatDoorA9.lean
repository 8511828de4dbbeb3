/- A part of the proof of FnDeskWorks: see the text YthdljdelfgofdaaGreatDoorLawFnDeskWorks for what is proved and its conditions. Conditions here: those in each line. -/
import Derived.Test.YthdljdelfgofdaaGreatDoorA8
import Derived.Lib.AtoiAllCases
import Derived.Lib.IndexBytes
import Derived.Lib.IndexLaws
import Derived.Lib.SplitLaws
set_option linter.unusedSimpArgs false
set_option linter.unusedVariables false
set_option linter.unusedSectionVars false
namespace Go.Proofs.YthdljdelfgofdaaGreatDoor.Ev
open Go Go.Proofs
theorem sT {b:Za} (s:Zb) (hn:0<=b.now) (h:Y0 b.now b):Y0 (b.now+1) (Z0 b s).1/\((Z0 b s).2.1=true->(Z0 b s).1.Aa=Zh.z0):=by
 unfold Z0;by_cases hd:b.Aa.live=false
 .rw[Aj hd]
  refine⟨h.mono,λ_=>?_⟩;have:=h.data;unfold Kz at this;rw[Ak (by simp[hd])] at this;exact this
 .have DC:b.Aa.live=true:=by simpa using hd
  have CQ:=h.data;unfold Kz at CQ;rw[Aj DC] at CQ;rw[Ak hd];by_cases hl:b.Aa.left > 0
  .rw[Aj hl]
   exact⟨(Y2h h DC hl).mono,λhx=>by cases hx⟩
  .have P2:b.Aa.left=0:=by have:=CQ.1.2.1;omega
   rw[Ak hl];by_cases h2:b.Aa.Ap≠0/\b.Aa.second=false
   .rw[Aj h2]
    exact⟨(Y3l h DC P2 h2.1).mono,λhx=>by cases hx⟩
   .rw[Ak h2]
    have LK:b.Aa.Ap≠0->b.addr.live=false:=λhr=>by
     have:b.Aa.second=true:=by
      cases hs:b.Aa.second with
      | true=>rfl
      | false=>exact absurd ⟨hr,hs⟩ h2
     exact (CQ.2.2.2 this).2.2
    have hw:=Ko h DC;have hm:=h.Bx _ hw;by_cases h3:b.Aa.Ap=2
    .rw[Aj h3]
     refine⟨?_,λ_=>?_⟩
     .refine (Yj8 h DC (LK (by omega)) {Ai b.m b.Aa.Ah with tries:=(Ai b.m b.Aa.Ah).tries+1} b.splits rfl rfl rfl rfl ⟨?_,?_⟩ rfl (λi hi=>(h.Bx i hi).split) λ_ h=>h).mono
      .have:=hm.right.tries;show 0<=(Ai b.m b.Aa.Ah).tries+1;omega
      .have:=CQ.2.1 h3;show (Ai b.m b.Aa.Ah).tries+1<=_;omega
     .unfold X4;split
      .rfl
      .split<;>rfl
    .rw[Ak h3]
     by_cases h4:b.Aa.Ap=3
     .rw[Aj h4]
      have JV:=Y7j h.Ad s b.At;refine⟨?_,λ_=>?_⟩
      .refine (Yj8 h DC (LK (by omega)) {Ai b.m b.Aa.Ah with Ax:=true} (b.splits.set b.Aa.Ah.toNat (GS b.Ad s b.At)) rfl rfl rfl rfl ⟨hm.right.tries,hm.tries⟩ (by simp) (λi hi=>?_) λh5 h6=>?_).mono
       .have hb:=X5 hw
        rw[eG _ hb.1 (by have:=h.sl;omega) (X5 hi).1];split
        .omega
        .exact (h.Bx i hi).split
       .have hb:=X5 hw
        have hh:Zm b.Ad b.Af=true:=by
         have:=h.held.2;rw[Ak h5] at this;exact this.1
        rw[eG _ hb.1 (by have:=h.sl;omega) (X5 hh).1,Ak (λe=>(CQ.2.2.1 h4).2 e.symm)];exact h6
      .unfold X4;split
       .rfl
       .split<;>rfl
     .rw[Ak h4]
      exact⟨Yyz hn h DC (by have:=CQ.1.2.2;omega) LK,λ_=>rfl⟩
theorem H3 {n:Int} {b:Za} (h:Y0 n b) (e:b.Af≠-1):Zm b.Ad b.Af=true/\Yr (Ai b.m b.Af)=true/\Ai b.splits b.Af=0/\(0<=b.held/\b.held<=b.Ad.Am):=by
 have:=h.held.2;rw[Ak e] at this;exact this
theorem sU {n:Int} {b:Za} (h:Y0 n b):Y0 n (Ym b):=by
 unfold Ym;split
 .rename_i hx
  obtain⟨hw,Np,_,_⟩:=H3 h hx.1;have hb:=X5 hw;have CO:∀i,Zm b.Ad i=true->Ai (b.m.set b.Af.toNat {Ai b.m b.Af with broken:=true}) i=if i=b.Af then {Ai b.m b.Af with broken:=true} else Ai b.m i:=λi hi=>h.Gx hw _ hi
  have Dw:∀i,Zm b.Ad i=true->(Ai (b.m.set b.Af.toNat {Ai b.m b.Af with broken:=true}) i).An=(Ai b.m i).An/\(Ai (b.m.set b.Af.toNat {Ai b.m b.Af with broken:=true}) i).done=(Ai b.m i).done/\(Ai (b.m.set b.Af.toNat {Ai b.m b.Af with broken:=true}) i).tries=(Ai b.m i).tries/\(Ai (b.m.set b.Af.toNat {Ai b.m b.Af with broken:=true}) i).Ax=(Ai b.m i).Ax:=by
   intro i hi;rw[CO i hi];split
   .rename_i e;subst e;exact⟨rfl,rfl,rfl,rfl⟩
   .exact⟨rfl,rfl,rfl,rfl⟩
  refine⟨h.Ad,?_,h.bl,h.sl,λi hi=>?_,h.Bq,h.last,h.model,h.alive,h.B9,λi hi=>?_,?_,?_,?_,h.log⟩
  .show (b.m.set b.Af.toNat _).length=_
   rw[KI];exact h.ml
  .have Y3:Zm b.Ad i=true:=hi
   have hm:=h.Bx i Y3;refine⟨?_,?_,hm.bucket,hm.split⟩
   .show Yy (Ai (b.m.set b.Af.toNat {Ai b.m b.Af with broken:=true}) i)
    rw[CO i Y3];split
    .have hr:=(h.Bx _ hw).right
     exact⟨hr.len,hr.tries,hr.reqs,λhq=>absurd (show (Ai b.m b.Af).queue=[] from hq) (Ysr Np),hr.some⟩
    .exact hm.right
   .show (Ai (b.m.set b.Af.toNat {Ai b.m b.Af with broken:=true}) i).tries<=b.Ad.Ao
    rw[(Dw i Y3).2.2.1];exact hm.tries
  .have Y3:Zm b.Ad i=true:=hi
   show (Ai (b.m.set b.Af.toNat {Ai b.m b.Af with broken:=true}) i).An - (Ai (b.m.set b.Af.toNat {Ai b.m b.Af with broken:=true}) i).done=Jw b i;rw[(Dw i Y3).1,(Dw i Y3).2.1];exact h.Dq i Y3
  .have:=h.addr
   unfold Jr at this ⊢;show if b.addr.live=true then b.addr.An=(Ai (b.m.set b.Af.toNat {Ai b.m b.Af with broken:=true}) b.addr.Ah).An - 1/\_ else _
   by_cases hl:b.addr.live=true
   .rw[Aj hl] at this ⊢
    rw[(Dw _ (GV h hl)).1];exact this
   .rw[Ak hl] at this ⊢;exact this
  .have:=h.data
   unfold Kz at this ⊢;show if b.Aa.live=true then _ else _
   by_cases hl:b.Aa.live=true
   .rw[Aj hl] at this ⊢
    have e:=Dw _ (Ko h hl);show (b.Aa.An=(Ai (b.m.set b.Af.toNat {Ai b.m b.Af with broken:=true}) b.Aa.Ah).done/\_)/\(_->(Ai (b.m.set b.Af.toNat {Ai b.m b.Af with broken:=true}) b.Aa.Ah).tries < _)/\(_->(Ai (b.m.set b.Af.toNat {Ai b.m b.Af with broken:=true}) b.Aa.Ah).Ax=false/\b.Aa.Ah≠-1)/\_;rw[e.2.1,e.2.2.1,e.2.2.2];exact⟨this.1,this.2.1,λh3=>⟨(this.2.2.1 h3).1,by have:=X5 (Ko h hl);omega⟩,this.2.2.2⟩
   .rw[Ak hl] at this ⊢;exact this
  .refine⟨λi hi Ec hk=>?_,?_⟩
   .have Y3:Zm b.Ad i=true:=hi
    have hx3:(Ai (b.m.set b.Af.toNat {Ai b.m b.Af with broken:=true}) i).An > 0:=Ec;have sV:Yr (Ai (b.m.set b.Af.toNat {Ai b.m b.Af with broken:=true}) i)=true:=hk;rw[CO i Y3] at hx3 sV;split at sV
    .simp[Yr] at sV
    .rename_i e
     rw[Ak e] at hx3;exact absurd (h.held.1 i Y3 hx3 sV).symm e
   .show if (-1:Int)=-1 then (0:Int)=0 else _
    rw[Aj rfl]
 .exact h
theorem eK (b:Za):(Ym b).Aa=b.Aa/\(Ym b).addr=b.addr/\(Ym b).At=b.At/\(Ym b).now=b.now/\(Ym b).Ad=b.Ad/\(Ym b).log=b.log/\(Ym b).model=b.model:=by
 unfold Ym;split<;>exact⟨rfl,rfl,rfl,rfl,rfl,rfl,rfl⟩
theorem Ynq {c:Zi} (h:Ys c=true) (s:Zb) (k:Int):0<=GR c s k/\GR c s k<=c.Au:=by
 have:=(W7 h).2.1;unfold GR;omega
theorem Y5d {n:Int} {b:Za} (h:Y0 n b) (s:Zb) (hl:b.addr.live=true):(0<=(GU b s b.addr).2/\(GU b s b.addr).2<=b.Ad.Au+2)/\(0<=(GU b s b.addr).1/\(GU b s b.addr).1<=3)/\
  ((GU b s b.addr).1=2->(Ai b.m b.addr.Ah).tries < b.Ad.Ao)/\((GU b s b.addr).1=3->(Ai b.m b.addr.Ah).Ax=false/\b.addr.Ah≠b.Af):=by
 have hw:=GV h hl;have hm:=(h.Bx _ hw).right;have Jm:=Ybo h hl;have UN:=Ytl hm Jm.1 Jm.2;have sS:=(Z9u (w:=(Ai (Ai b.m b.addr.Ah).queue 0).write) (v:=LJ (Ai b.m b.addr.Ah) b.addr.An) h.model UN.2.1).2.2;have hwt:=Ynq h.Ad s b.At;have S3:=(W7 h.Ad).2.1;have UM:(Em b b.addr).2.2=0\/(Em b b.addr).2.2=1:=sS;unfold GU;split
 .exact⟨by simp;omega,by simp,by simp,by simp⟩
 .refine⟨?_,?_,?_,?_⟩
  .simp only
   split<;>omega
  .simp only
   repeat' split
   all_goals omega
  .simp only
   split
   .rename_i h1;exactλ_=>h1.2.2
   .split
    .intro h2;omega
    .intro h2;omega
  .simp only
   split
   .intro h2;omega
   .split
    .rename_i h1;exactλ_=>h1.2.2
    .intro h2;omega
theorem sX {n:Int} {b:Za} (h:Y0 n b) (s:Zb) (hd:b.Aa=Zh.z0):Y0 n (Qj b s)/\(Qj b s).addr=Zh.z0:=by
 unfold Qj;by_cases hl:b.addr.live=true
 .rw[Aj hl]
  refine⟨?_,rfl⟩;have hw:=GV h hl;have ha:=Y5d h s hl;have hA:=h.addr;unfold Jr at hA;rw[Aj hl] at hA;have IA:b.Aa.live=false:=by rw[hd]
  have Y4k:(Ai b.m b.addr.Ah).An - (Ai b.m b.addr.Ah).done=1:=by
   rw[h.Dq _ hw];unfold Jw;rw[Aj ⟨hl,rfl⟩,IA];simp
  refine⟨h.Ad,h.ml,h.bl,h.sl,λi hi=>?_,h.Bq,h.last,h.model,(λhx=>by cases hx),λ_=>h.alive hl,λi hi=>?_,?_,?_,h.held,h.log⟩
  .have hm:=h.Bx i hi;exact⟨hm.right,hm.tries,hm.bucket,hm.split⟩
  .have BM:=h.Dq i hi
   rw[BM];unfold Jw;simp only[IA,hl,Bn,false_and,if_false,true_and];omega
  .unfold Jr
   simp
  .unfold Kz
   show if b.addr.live=true then _ else _
   rw[Aj hl];refine⟨⟨by show b.addr.An=_;rw[hA.1];show (Ai b.m b.addr.Ah).An - 1=(Ai b.m b.addr.Ah).done;omega,ha.1,ha.2.1⟩,ha.2.2.1,ha.2.2.2,λhs=>?_⟩;have:b.addr.second=true:=hs;rw[hA.2.2.2] at this;cases this
 .rw[Ak hl]
  refine⟨h,?_⟩;have hA:=h.addr;unfold Jr at hA;rw[Ak hl] at hA;exact hA
theorem sY (b:Za) (s:Zb):(Qj b s).now=b.now/\(Qj b s).Ad=b.Ad/\(Qj b s).log=b.log/\(Qj b s).model=b.model/\(Qj b s).m=b.m/\(Qj b s).splits=b.splits/\(Qj b s).Af=b.Af/\b.At<=(Qj b s).At/\(Qj b s).At<=b.At+1:=by
 unfold Qj;split
 .exact⟨rfl,rfl,rfl,rfl,rfl,rfl,rfl,by show b.At<=b.At+1;omega,LY _⟩
 .exact⟨rfl,rfl,rfl,rfl,rfl,rfl,rfl,LY _,by omega⟩
theorem Nq (b:Za):(Kj b).length=b.m.length:=by simp[Kj]
theorem eL {n:Int} {b:Za} (h:Y0 n b) {i:Int} (hi:Zm b.Ad i=true):Ai (Kj b) i=Jk b i:=by
 obtain⟨k,rfl,hk⟩:=dV hi;have:=h.ml;rw[Qk (by rw[Nq];omega)];simp[Kj]
structure S4 (n:Int) (b:Za) (p:Int×Int×Za):Prop where
 ok:Y0 n p.2.2
 Ah:p.1=-1\/(Zm b.Ad p.1=true/\Jk b p.1=true/\(1<=p.2.1/\p.2.1<=3))
 Ad:p.2.2.Ad=b.Ad
 m:p.2.2.m=b.m
 splits:p.2.2.splits=b.splits
 Af:p.2.2.Af=b.Af
 held:p.2.2.held=b.held
 addr:p.2.2.addr=b.addr
 data:p.2.2.Aa=b.Aa
 model:p.2.2.model=b.model
 log:p.2.2.log=b.log
 last:p.2.2.last=b.last
 now:p.2.2.now=b.now
 At:p.2.2.At=b.At
theorem UP {n:Int} {b:Za} (h:Y0 n b):S4 n b (Qg b):=by
 unfold Qg;split
 .rename_i hx
  exact⟨h,.inr ⟨(H3 h hx.1).1,hx.2,by simp⟩,rfl,rfl,rfl,rfl,rfl,rfl,rfl,rfl,rfl,rfl,rfl,rfl⟩
 .split
  .rename_i k hk
   have UQ:=List.find?_some hk;have GP:=List.mem_of_find?_eq_some hk;rw[Vu,h.ml] at GP;simp only[Eo,Bg] at UQ;have hm:=FT (c:=b.Ad) GP;have FA:=X5 hm;refine⟨?_,.inr ⟨hm,UQ.1,by simp⟩,rfl,rfl,rfl,rfl,rfl,rfl,rfl,rfl,rfl,rfl,rfl,rfl⟩;refine⟨h.Ad,h.ml,by show (b.buckets.set k _).length=_;rw[KI];exact h.bl,h.sl,λi hi=>?_,h.Bq,h.last,h.model,h.alive,h.B9,h.Dq,h.addr,h.data,h.held,h.log⟩;have LL:=h.Bx i hi;refine⟨LL.right,LL.tries,?_,LL.split⟩;show Y1 (Ai (b.buckets.set k (F6 (Ai b.buckets (k:Int)) (Ai b.Ad.Ab (k:Int))).1) i) (Ai b.Ad.Ab i)=true;have e:=eG (xs:=b.buckets) (w:=(k:Int)) (F6 (Ai b.buckets (k:Int)) (Ai b.Ad.Ab (k:Int))).1 FA.1 (by have:=h.bl;omega) (X5 hi).1;rw[N5] at e;rw[e];split
   .rename_i e2;subst e2;exact Xa6 LL.bucket (JN h.Ad hi)
   .exact LL.bucket
  .split
   .exact⟨h,.inl rfl,rfl,rfl,rfl,rfl,rfl,rfl,rfl,rfl,rfl,rfl,rfl,rfl⟩
   .have hp:=Y8u (wants:=Kj b) h.Bq (by rw[Nq,h.ml])
    refine⟨⟨h.Ad,h.ml,h.bl,h.sl,λi hi=>?_,hp.1,h.last,h.model,h.alive,h.B9,h.Dq,h.addr,h.data,h.held,h.log⟩,?_,rfl,rfl,rfl,rfl,rfl,rfl,rfl,rfl,rfl,rfl,rfl,rfl⟩
    .have LL:=h.Bx i hi;exact⟨LL.right,LL.tries,LL.bucket,LL.split⟩
    .rcases hp.2 with eM|eM
     .exact .inl eM
     .exact .inr ⟨eM.1,by rw[<-eL h eM.1];exact eM.2,by simp⟩
theorem Z97 {b:Za} {i:Int} (h:Jk b i=true):(Ai b.m i).An < Zw (Ai b.m i)/\Ai b.splits i=0/\(b.Af=-1\/b.Af=i):=by
 simp only[Jk,LF,Bg,N7,Bj] at h;exact⟨h.1,h.2.1,h.2.2⟩
theorem Y1a (m:Zg):(X8 m).queue=m.queue/\(X8 m).done=m.done/\(X8 m).tries=m.tries/\(X8 m).Ax=m.Ax/\(X8 m).broken=m.broken:=by
 unfold X8;split<;>exact⟨rfl,rfl,rfl,rfl,rfl⟩
theorem Xap {n:Int} {b:Za} (h:Y0 n b) (ha:b.addr=Zh.z0) (LK:b.Aa.second=false) {Ah B6:Int} (hw:Zm b.Ad Ah=true) (Y4l:Jk b Ah=true) (PG:1<=B6/\B6<=3):Y0 n (Sy b Ah B6):=by
 obtain⟨w1,w2,w3⟩:=Z97 Y4l;have Ck:=(h.Bx _ hw).right;have Ld:b.addr.live=false:=by rw[ha]
 have hfw:=h.Dq _ hw;have hle:(Ai b.m Ah).An - (Ai b.m Ah).done<=1:=by
  rw[hfw];unfold Jw;rw[Ld];simp only[Bn,false_and,if_false];split<;>omega
 have Jm:(X8 (Ai b.m Ah)).An=(Ai b.m Ah).An+1:=by
  unfold X8;rw[Aj ⟨w1,by omega⟩]
 have hs:=Y1a (Ai b.m Ah);have CO:∀i,Zm b.Ad i=true->Ai (b.m.set Ah.toNat (X8 (Ai b.m Ah))) i=if i=Ah then X8 (Ai b.m Ah) else Ai b.m i:=λi hi=>h.Gx hw _ hi
 have Dw:∀i,Zm b.Ad i=true->(Ai (b.m.set Ah.toNat (X8 (Ai b.m Ah))) i).queue=(Ai b.m i).queue/\(Ai (b.m.set Ah.toNat (X8 (Ai b.m Ah))) i).done=(Ai b.m i).done/\(Ai (b.m.set Ah.toNat (X8 (Ai b.m Ah))) i).tries=(Ai b.m i).tries/\(Ai (b.m.set Ah.toNat (X8 (Ai b.m Ah))) i).Ax=(Ai b.m i).Ax/\(Ai (b.m.set Ah.toNat (X8 (Ai b.m Ah))) i).broken=(Ai b.m i).broken:=λi hi=>by
  rw[CO i hi];split
  .rename_i e;subst e;exact hs
  .exact⟨rfl,rfl,rfl,rfl,rfl⟩
 have FA:=X5 hw;refine⟨h.Ad,?_,h.bl,h.sl,λi hi=>?_,h.Bq,.inr hw,h.model,λ_=>⟨hw,PG,w2⟩,h.B9,λi hi=>?_,?_,?_,?_,h.log⟩
 .show (b.m.set Ah.toNat _).length=_
  rw[KI];exact h.ml
 .have Y3:Zm b.Ad i=true:=hi
  have hm:=h.Bx i Y3;refine⟨?_,?_,hm.bucket,hm.split⟩
  .show Yy (Ai (b.m.set Ah.toNat (X8 (Ai b.m Ah))) i)
   rw[CO i Y3];split
   .exact Yzc Ck
   .exact hm.right
  .show (Ai (b.m.set Ah.toNat (X8 (Ai b.m Ah))) i).tries<=_
   rw[(Dw i Y3).2.2.1];exact hm.tries
 .have Y3:Zm b.Ad i=true:=hi
  have BM:=h.Dq i Y3;show (Ai (b.m.set Ah.toNat (X8 (Ai b.m Ah))) i).An - (Ai (b.m.set Ah.toNat (X8 (Ai b.m Ah))) i).done=Jw (Sy b Ah B6) i;rw[(Dw i Y3).2.1,CO i Y3];unfold Jw at BM ⊢;rw[Ld] at BM;simp only[Bn,false_and,if_false] at BM;show _=(if (true:Bool)=true/\Ah=i then (1:Int) else 0)+(if b.Aa.live=true/\b.Aa.Ah=i then 1 else 0);simp only[true_and];by_cases e:i=Ah
  .subst e
   rw[Aj rfl,Aj rfl,Jm];omega
  .rw[Ak e,Ak (λe2=>e e2.symm)];omega
 .unfold Jr
  show if (true:Bool)=true then (Ai b.m Ah).An=(Ai (b.m.set Ah.toNat (X8 (Ai b.m Ah))) Ah).An - 1/\_ else _
  rw[Aj rfl,CO _ hw,Aj rfl,Jm];exact⟨by omega,rfl,rfl,rfl⟩
 .have hD:=h.data
  unfold Kz at hD ⊢;show if b.Aa.live=true then _ else _
  by_cases hl:b.Aa.live=true
  .rw[Aj hl] at hD ⊢
   have e:=Dw _ (Ko h hl);show (b.Aa.An=(Ai (b.m.set Ah.toNat (X8 (Ai b.m Ah))) b.Aa.Ah).done/\_)/\(_->(Ai (b.m.set Ah.toNat (X8 (Ai b.m Ah))) b.Aa.Ah).tries < _)/\(_->(Ai (b.m.set Ah.toNat (X8 (Ai b.m Ah))) b.Aa.Ah).Ax=false/\b.Aa.Ah≠(if Yr (Ai b.m Ah)=true/\b.Af=-1 then Ah else b.Af))/\_;rw[e.2.1,e.2.2.1,e.2.2.2.1];refine⟨hD.1,hD.2.1,λh3=>⟨(hD.2.2.1 h3).1,?_⟩,λh4=>?_⟩
   .split
    .rename_i e2
     intro e3;have hp:=UL h hl;have hr:=Gt (h.Bx _ (Ko h hl)).right;have:=h.held.1 _ (Ko h hl) (by omega) (by rw[e3];exact e2.1);omega
    .exact (hD.2.2.1 h3).2
   .have:b.Aa.second=true:=h4
    rw[LK] at this;cases this
  .rw[Ak hl] at hD ⊢;exact hD
 .have hh:=h.held
  unfold Gu at hh ⊢;show (∀i,Zm b.Ad i=true->(Ai (b.m.set Ah.toNat (X8 (Ai b.m Ah))) i).An > 0->Yr (Ai (b.m.set Ah.toNat (X8 (Ai b.m Ah))) i)=true->(if Yr (Ai b.m Ah)=true/\b.Af=-1 then Ah else b.Af)=i)/\
   (if (if Yr (Ai b.m Ah)=true/\b.Af=-1 then Ah else b.Af)=-1 then (if Yr (Ai b.m Ah)=true/\b.Af=-1 then 0 else b.held)=0 else Zm b.Ad (if Yr (Ai b.m Ah)=true/\b.Af=-1 then Ah else b.Af)=true/\Yr (Ai (b.m.set Ah.toNat (X8 (Ai b.m Ah))) (if Yr (Ai b.m Ah)=true/\b.Af=-1 then Ah else b.Af))=true/\Ai b.splits (if Yr (Ai b.m Ah)=true/\b.Af=-1 then Ah else b.Af)=0/\(0<=(if Yr (Ai b.m Ah)=true/\b.Af=-1 then 0 else b.held)/\(if Yr (Ai b.m Ah)=true/\b.Af=-1 then 0 else b.held)<=b.Ad.Am))
  have Np:∀i,Zm b.Ad i=true->Yr (Ai (b.m.set Ah.toNat (X8 (Ai b.m Ah))) i)=Yr (Ai b.m i):=λi hi=>eJ (Dw i hi).1 (Dw i hi).2.2.2.2;have S3:=(W7 h.Ad).2.2.1;have NP:∀i,Zm b.Ad i=true->i≠Ah->(Ai (b.m.set Ah.toNat (X8 (Ai b.m Ah))) i).An > 0->Yr (Ai b.m i)=true->False:=by
   intro i hi e hx hk;rw[CO i hi,Ak e] at hx;have:=hh.1 i hi hx hk;have:=X5 hi;omega
  by_cases e:Yr (Ai b.m Ah)=true/\b.Af=-1
  .simp only[Aj e]
   refine⟨λi hi hx hk=>?_,?_⟩
   .by_cases e2:i=Ah
    .exact e2.symm
    .rw[Np i hi] at hk
     exact (NP i hi e2 hx hk).elim
   .rw[Ak (by omega)]
    exact⟨hw,by rw[Np _ hw];exact e.1,w2,by omega,by omega⟩
  .simp only[Ak e]
   refine⟨λi hi hx hk=>?_,?_⟩
   .rw[Np i hi] at hk
    by_cases e2:i=Ah
    .subst e2
     rcases w3 with w3|w3
     .exact absurd ⟨hk,w3⟩ e
     .exact w3
    .exact (NP i hi e2 hx hk).elim
   .have h2:=hh.2
    split
    .rename_i e2;rw[Aj e2] at h2;exact h2
    .rename_i e2
     rw[Ak e2] at h2;exact⟨h2.1,by rw[Np _ h2.1];exact h2.2.1,h2.2.2⟩
theorem Y7m {n:Int} {b:Za} (h:Y0 n b) (ha:b.addr=Zh.z0) (LK:b.Aa.second=false):Y0 n (Kk b).2:=by
 have hp:=UP h;unfold Kk;split
 .exact hp.ok
 .rename_i hx
  rcases hp.Ah with h1|h1
  .exact absurd (show (Qg b).1 < 0 by rw[h1];decide) hx
  .refine Xap hp.ok (by rw[hp.addr];exact ha) (by rw[hp.data];exact LK) (by rw[hp.Ad];exact h1.1) ?_ h1.2.2
   have:=h1.2.1;unfold Jk at this ⊢;rw[hp.m,hp.splits,hp.Af];exact this
theorem Z8d {n:Int} {b:Za} (h:Y0 n b):(Kk b).2.now=b.now/\(Kk b).2.Ad=b.Ad/\(Kk b).2.log=b.log/\(Kk b).2.model=b.model/\(Kk b).2.At=b.At/\(Kk b).2.Aa=b.Aa:=by
 have hp:=UP h;unfold Kk;split
 .exact⟨hp.now,hp.Ad,hp.log,hp.model,hp.At,hp.data⟩
 .exact⟨hp.now,hp.Ad,hp.log,hp.model,hp.At,hp.data⟩
theorem Y8t {n:Int} {b:Za} (h:Y0 n b) (s:Zb) (hd:b.Aa=Zh.z0):Y0 n (Xw b s).2/\(Xw b s).2.now=b.now/\b.At<=(Xw b s).2.At/\(Xw b s).2.At<=b.At+1/\(Xw b s).2.Ad=b.Ad/\(Xw b s).2.log=b.log/\(Xw b s).2.model=b.model:=by
 have h1:=sU h;have e1:=eK b;have h2:=sX h1 s (by rw[e1.1];exact hd);have e2:=sY (Ym b) s;have LK:(Qj (Ym b) s).Aa.second=false:=by
  unfold Qj;split
  .rename_i hl
   have hA:=h1.addr;unfold Jr at hA;rw[Aj hl] at hA;exact hA.2.2.2
  .rw[e1.1,hd]
 have h3:=Y7m h2.1 h2.2 LK;have e3:=Z8d h2.1;unfold Xw;exact⟨h3,by rw[e3.1,e2.1,e1.2.2.2.1],by rw[e3.2.2.2.2.1,<-e1.2.2.1];exact e2.2.2.2.2.2.2.2.1,by rw[e3.2.2.2.2.1,<-e1.2.2.1];exact e2.2.2.2.2.2.2.2.2,by rw[e3.2.1,e2.2.1,e1.2.2.2.2.1],by rw[e3.2.2.1,e2.2.2.1,e1.2.2.2.2.2.1],by rw[e3.2.2.2.1,e2.2.2.2.1,e1.2.2.2.2.2.2]⟩
theorem Y55 (b:Za):(Xa b).now=b.now/\(Xa b).Ad=b.Ad/\(Xa b).At=b.At/\(Xa b).log=b.log/\(Xa b).model=b.model/\(Xa b).m=b.m/\(Xa b).addr=b.addr/\(Xa b).Aa=b.Aa/\(Xa b).Af=b.Af:=⟨rfl,rfl,rfl,rfl,rfl,rfl,rfl,rfl,rfl⟩
theorem Y5y (b:Za):(Qv b).now=b.now/\(Qv b).Ad=b.Ad/\(Qv b).At=b.At/\(Qv b).log=b.log/\(Qv b).model=b.model/\(Qv b).m=b.m/\(Qv b).addr=b.addr/\(Qv b).Aa=b.Aa/\(Qv b).Af=b.Af:=by
 unfold Qv;split<;>exact⟨rfl,rfl,rfl,rfl,rfl,rfl,rfl,rfl,rfl⟩
theorem eN (b:Za) (s:Zb):(Xq b s).now=b.now/\(Xq b s).Ad=b.Ad/\(Xq b s).At=b.At/\(Xq b s).log=b.log/\(Xq b s).model=b.model/\(Xq b s).addr=b.addr/\(Xq b s).Aa=b.Aa/\(Xq b s).Af=b.Af:=by
 have h1:=Y5y (Xa (Wa b (DS s b.now)));have h2:=Y55 (Wa b (DS s b.now));have h3:=eI b (DS s b.now);unfold Xq;refine⟨?_,?_,?_,?_,?_,?_,?_,?_⟩
 .rw[h1.1,h2.1,h3.2.1]
 .rw[h1.2.1,h2.2.1,h3.1]
 .rw[h1.2.2.1,h2.2.2.1,h3.2.2.1]
 .rw[h1.2.2.2.1,h2.2.2.2.1,h3.2.2.2.1]
 .rw[h1.2.2.2.2.1,h2.2.2.2.2.1,h3.2.2.2.2.1]
 .rw[h1.2.2.2.2.2.2.1,h2.2.2.2.2.2.2.1,h3.2.2.2.2.2.2.2.1]
 .rw[h1.2.2.2.2.2.2.2.1,h2.2.2.2.2.2.2.2.1,h3.2.2.2.2.2.2.2.2.1]
 .rw[h1.2.2.2.2.2.2.2.2,h2.2.2.2.2.2.2.2.2,h3.2.2.2.2.2.1]
theorem sZ {b:Za} (h:CP b) (s:Zb):Y0 b.now (Xq b s):=Y2s (Z9t (eH h.i _))
theorem s7 (b:Za) (x:Zh):(X4 b x).now=b.now/\(X4 b x).At=b.At/\(X4 b x).Ad=b.Ad/\(X4 b x).log=b.log/\(X4 b x).model=b.model:=by
 unfold X4;split
 .exact⟨rfl,rfl,rfl,rfl,rfl⟩
 .split<;>exact⟨rfl,rfl,rfl,rfl,rfl⟩
theorem Z82 (b:Za) (s:Zb):(Z0 b s).1.now=b.now/\(Z0 b s).1.At=b.At/\(Z0 b s).1.Ad=b.Ad:=by
 unfold Z0
 repeat' split
 all_goals first
  | exact⟨rfl,rfl,rfl⟩
  | exact⟨(s7 _ _).1,(s7 _ _).2.1,(s7 _ _).2.2.1⟩
theorem s8 {b:Za} (h:CP b) (s:Zb) (hn:b.now < 4000):CP (J9 b s).1/\(J9 b s).1.now=b.now+1/\(J9 b s).1.Ad=b.Ad:=by
 have h1:=sZ h s;have e1:=eN b s;have hI:Y0 (Xq b s).now (Xq b s):=by rw[e1.1];exact h1
 have h2:=sT s (by rw[e1.1];exact h.now.1) hI;have e2:=Z82 (Xq b s) s;have hp:=h.At;have eP:=h.now;unfold J9;rw[e1.1] at h2;by_cases hr:(Z0 (Xq b s) s).2.1=true
 .rw[Aj hr]
  have h3:=Y8t h2.1 s (h2.2 hr);refine⟨?_,rfl,by show (Xw _ s).2.Ad=_;rw[h3.2.2.2.2.1,e2.2.2,e1.2.1]⟩;have h4:=h3.1;have e3:(Z0 (Xq b s) s).1.At=b.At:=by rw[e2.2.1,e1.2.2.1]
  have h5:=h3.2.2.1;have h6:=h3.2.2.2.1;generalize (Xw (Z0 (Xq b s) s).1 s).2=r at h4 h5 h6 ⊢;exact⟨h4.Ad,⟨by show 0<=b.now+1;omega,by show b.now+1<=4000;omega⟩,h4.ml,h4.bl,h4.sl,λi hi=>⟨(h4.Bx i hi).right,(h4.Bx i hi).tries,(h4.Bx i hi).bucket,(h4.Bx i hi).split⟩,h4.Bq,h4.last,h4.model,⟨by show 0<=r.At;omega,by show r.At<=b.now+1;omega⟩,h4.alive,h4.B9,h4.Dq,h4.addr,h4.data,h4.held,h4.log⟩
 .rw[Ak hr]
  refine⟨?_,rfl,by show (Z0 _ s).1.Ad=_;rw[e2.2.2,e1.2.1]⟩;have h4:=h2.1;have e3:(Z0 (Xq b s) s).1.At=b.At:=by rw[e2.2.1,e1.2.2.1]
  generalize (Z0 (Xq b s) s).1=r at h4 e3 ⊢;exact⟨h4.Ad,⟨by show 0<=b.now+1;omega,by show b.now+1<=4000;omega⟩,h4.ml,h4.bl,h4.sl,λi hi=>⟨(h4.Bx i hi).right,(h4.Bx i hi).tries,(h4.Bx i hi).bucket,(h4.Bx i hi).split⟩,h4.Bq,h4.last,h4.model,⟨by show 0<=r.At;omega,by show r.At<=b.now+1;omega⟩,h4.alive,h4.B9,h4.Dq,h4.addr,h4.data,h4.held,h4.log⟩
structure Zb.sm (s:Zb):Prop where
 Al:s.Al.length < 1048577
 reqs:∀p∈s.Al,p.Bm.sm
 waits:s.waits.length < 1048577
 A4:s.A4.length < 1048577
 JW:∀w∈s.waits,-9223372036854775808<=w/\w < 9223372036854775808
theorem s9 (l:List Int) (k:Int) (hl:l.length < 1048577):Uf l k=some (Gv l k):=by
 unfold Uf o8 Gv;by_cases h:l=[]
 .simp[h]
 .have h1:0 < l.length:=Cw.2 h
  rw[Ak (by simpa using h)];by_cases h2:k < 0
  .simp[h2]
  .have h3:0<=k % (l.length:Int):=Te _ (by omega)
   have h4:k % (l.length:Int) < (l.length:Int):=Tb _ (by omega);rw[OJ (by omega),Ag,Hy (by omega),Xm h3 h4];simp[h,h2]
theorem Yde (l:List Int) (k:Int) (hl:l.length < 1048577):ZT l k=some (Gv l k):=by
 rw[<-s9 l k hl];rfl
theorem Yum {l:List Int} {k:Int} (h:∀w∈l,-9223372036854775808<=w/\w < 9223372036854775808):-9223372036854775808<=Gv l k/\Gv l k < 9223372036854775808:=by
 unfold Gv;split
 .omega
 .rename_i hx
  have h1:l≠[]:=λe=>hx (.inl e);have h2:0 < l.length:=Cw.2 h1;exact h _ (Gn (Te _ (by omega)) (Tb _ (by omega)))
theorem Yye (c:Zi) {s:Zb} (k:Int) (hs:s.sm):pU c s k=some (GR c s k):=by
 unfold pU GR;rw[s9 _ _ hs.waits,Ag,Nf,Gp]
theorem Yym (c:Zi) {s:Zb} (k:Int) (hs:s.sm):mF c s k=some (GR c s k):=by
 unfold mF GR;rw[Yde _ _ hs.waits,Ag,Nf,Gp,Vy]
theorem Yyn {s:Zb} (k:Int) (hs:s.sm):pV s k=some (EP s k):=by
 unfold pV EP;rw[s9 _ _ hs.A4,Ag];by_cases h1:Gv s.A4 k=2
 .simp[h1]
 .by_cases h2:Gv s.A4 k=3<;>simp[h1,h2]
theorem Yz0 {s:Zb} (k:Int) (hs:s.sm):mE s k=some (EP s k):=by
 unfold mE EP;rw[Yde _ _ hs.A4,Ag];by_cases h1:Gv s.A4 k=2
 .simp[h1]
 .by_cases h2:Gv s.A4 k=3<;>simp[h1,h2]
theorem Yt2 (c:Zi) {s:Zb} (k:Int) (hs:s.sm):o9 c s k=some (GS c s k):=by
 have h:=Yum (k:=k) hs.JW;unfold o9 GS;rw[s9 _ _ hs.waits,Ag,Nf,Gp,Nf,Gp,Yj (by omega) (by omega)]
theorem Yt3 (c:Zi) {s:Zb} (k:Int) (hs:s.sm):lU c s k=some (GS c s k):=by
 have h:=Yum (k:=k) hs.JW;unfold lU GS;rw[Yde _ _ hs.waits,Ag,Nf,Gp,Gp,Yj (by omega) (by omega)]
 congr 1
 omega
theorem Yf9 {α:Type} (p:α->Bool) (xs:List α) (k:Nat) (hk:k < xs.length):(xs.take (k+1)).filter p=(xs.take k).filter p++(if p xs[k] then [xs[k]] else []):=by
 rw[List.take_succ_eq_append_getElem hk,gK];cases hq:p xs[k]<;>simp[hq]
theorem Yt5 (s:Zb) (t:Int) (hs:s.sm):oU s t=some (DS s t):=by
 unfold oU DS;have hp:=hs.Al;refine K8 (σ:=List Zo) (n:=s.Al.length) (by omega) (λk=>(s.Al.take k).filter λp=>decide (p.at_=t)) (B:=oS s t) (L:=oT s t) (λm s i=>rfl) (λk hk κ=>?_) λκ=>?_
 .unfold oS
  have Yo:((s.Al.take k).filter λp=>decide (p.at_=t)).length<=k:=LX (Ta ..) (by rw[FZ];omega);rw[Aj (by simpa using hk),Zx hk,Ag,Yf9 _ _ _ hk,Yeh _ (hs.reqs _ (B5 hk)),Ag];by_cases e:s.Al[k].at_=t
  .rw[Aj (by simpa using e),Yp (by simp only[AU,Bo];omega) (by simp only[AU,Bo];omega),Ag,Aj (decide_eq_true e)]
  .rw[Ak (by simpa using e),Ak (by simpa using e),Gb]
 .unfold oS
  rw[Ak (by simp),Fb]
theorem Ytx (s:Zb) (t:Int) (hs:s.sm):lK s t=some (DS s t):=by
 unfold lK DS;have hp:=hs.Al;refine K8 (σ:=List Zo) (n:=s.Al.length) (by omega) (λk=>(s.Al.take k).filter λp=>decide (p.at_=t)) (B:=lI s t) (L:=lJ s t) (λm s i=>rfl) (λk hk κ=>?_) λκ=>?_
 .unfold lI
  have Yo:((s.Al.take k).filter λp=>decide (p.at_=t)).length<=k:=LX (Ta ..) (by rw[FZ];omega);rw[Aj (by simpa using hk),Zx hk,Ag,Yf9 _ _ _ hk,Ycg _ (hs.reqs _ (B5 hk)),Ag];by_cases e:s.Al[k].at_=t
  .rw[Aj (by simpa using e),Yp (by simp only[AU,Bo];omega) (by simp only[AU,Bo];omega),Ag,Aj (decide_eq_true e)]
  .rw[Ak (by simpa using e),Ak (by simpa using e),Gb]
 .unfold lI
  rw[Ak (by simp),Fb]
theorem Yr9 {s:Zb} (hs:s.sm) (t:Int):(DS s t).length < 1048577/\∀p∈DS s t,p.Bm.sm:=by
 have hp:=hs.Al;refine⟨Nat.lt_of_le_of_lt (Ta ..) hp,λp hx=>hs.reqs p ?_⟩;unfold DS at hx;exact (Pp.1 hx).1
theorem Yco (b:Za) (ps:List Zo) (k:Nat) (hk:k < ps.length):Wa b (ps.take (k+1))=Q2 (Wa b (ps.take k)) ps[k]:=by
 unfold Wa;rw[List.take_succ_eq_append_getElem hk,Tc];rfl
theorem tA (c:Zi) (h:c.Ab.length < 1048577):bC c=some c/\YZ c=some c:=by
 unfold bC oK YZ;rw[Yp (by simp;omega) (by simp;omega)];exact⟨rfl,rfl⟩
theorem Yv0 (xs:List Zs) (h:xs.length < 1048577):Yz 56 [] xs=some xs:=by
 rw[Yp (by simp;omega) (by simp;omega)];rfl
theorem Yuw (xs:List Zk) (h:xs.length < 1048577):Yz 16 [] xs=some xs:=by
 rw[Yp (by simp;omega) (by simp;omega)];rfl
theorem Yg2 (b:Za) (hs:b.sm):cC b=some b:=by
 unfold cC;rw[(tA b.Ad hs.Ad).1,Ag];have:=hs.ml;refine (K8 (σ:=Za×List Zg) (n:=b.m.length) (by omega) (λk=>(b,b.m.take k)) (B:=λκ s i=>qM b (λx y i=>κ (x,y) i) s.1 s.2 i) (L:=λm s i=>cB b m s.1 s.2 i) (λm s i=>rfl) (λk hk κ=>?_) λκ=>?_:cB b FU b [] 0=some b)
 .unfold qM
  have Yo:(b.m.take k).length=k:=by rw[FZ];omega
  simp only;rw[Aj (by simpa using hk),Zx hk,Ag,dO _ (hs.Bx _ (B5 hk)),Ag,Yp (by simp only[AU,Bo];omega) (by simp only[AU,Bo];omega),Ag,<-List.take_succ_eq_append_getElem hk]
 .unfold qM qK qL
  simp only;rw[Ak (by simp),Yuw _ hs.bl,Ag,UH _ hs.sl,Ag,Zzw _ hs.model,Ag,Yv0 _ hs.log,Ag,Fb]
theorem tB (b:Za) (hs:b.sm):TC b=some b:=by
 unfold TC;rw[(tA b.Ad hs.Ad).2,Ag];have:=hs.ml;refine (K8 (σ:=Za) (n:=b.m.length) (by omega) (λk=>{b with m:=b.m.take k}) (B:=lF b) (L:=ZQ b) (λm s i=>rfl) (λk hk κ=>?_) λκ=>?_:ZQ b FU {b with m:=[]} 0=some b)
 .unfold lF
  have Yo:(b.m.take k).length=k:=by rw[FZ];omega
  simp only;rw[Aj (by simpa using hk),Zx hk,Ag,dP _ (hs.Bx _ (B5 hk)),Ag,Yp (by simp only[AU,Bo];omega) (by simp only[AU,Bo];omega),Ag,<-List.take_succ_eq_append_getElem hk]
 .unfold lF
  simp only;rw[Ak (by simp),Yuw _ hs.bl,Ag,dR _ hs.sl,Ag,Ygj _ hs.model,Ag,Yv0 _ hs.log,Ag,Fb]
theorem tC {c:Zi} {n:Int} (hn:n<=4001) {l:List Zs} (h:(∀d∈l,So c n d)/\l.Pairwise λx y=>x.A3 < y.A3):l.length<=4001:=by
 have key:∀(l:List Zs) (a:Int),(∀d∈l,a<=d.A3/\d.A3 < n)->(l.Pairwise λx y=>x.A3 < y.A3)->l≠[]->(l.length:Int)<=n - a:=by
  intro l
  induction l with
  | nil=>intro a _ _ h;exact absurd rfl h
  | cons x xs ih=>
   intro a h1 h2 _;have h3:=h1 x (BJ ..);by_cases hx:xs=[]
   .subst hx;simp;omega
   .have h4:=List.pairwise_cons.1 h2
    have:=ih (x.A3+1) (λd hd=>⟨by have:=h4.1 d hd;omega,(h1 d (Cp _ hd)).2⟩) h4.2 hx;simp only[AU];omega
 by_cases hx:l=[]
 .subst hx;simp
 .have:=key l 0 (λd hd=>(h.1 d hd).1) h.2 hx
  omega
theorem Y0.sm {n:Int} {b:Za} (h:Y0 n b) (hn:n<=4001):b.sm:=by
 have h1:=Gq h.Ad;have h2:=h.ml;have h3:=h.bl;have h4:=h.sl;have h5:=tC hn h.log;refine⟨h1,by omega,λx hx=>?_,by omega,by omega,h.model.sm,by omega⟩;obtain⟨k,hk,rfl⟩:=Pm hx;have:=(h.Bx (k:Int) (FT (by omega))).right.sm
 rwa [Qk hk] at this
theorem CP.sm {b:Za} (h:CP b):b.sm:=h.i.sm (by have:=h.now;omega)
section
variable {n:Int} {b:Za} {s:Zb}
theorem Z6g (x:Zh) (hc:Ys b.Ad=true) (hw:Zm b.Ad x.Ah=true) (CG:b.m.length=b.Ad.Ab.length) (Mk:b.buckets.length=b.Ad.Ab.length) (hr:Yy (Ai b.m x.Ah)) (S1:CF b.Bq b.Ad=true):Ue b x=some (X4 b x):=by
 obtain⟨ok,DN⟩:=Yvf hr;unfold Ue X4;rw[Wv CG hw,Ag,DN,Ag,Qm,Ag,UJ Mk hw,Ag,OQ hw,Ag,Yj3 _ (JN hc hw),Ag,Qm,Ag,Yu6 _ _ _ S1,Ag];by_cases h1:x.B6=1
 .simp[h1]
 .by_cases h2:x.B6=2<;>simp[h1,h2]
theorem Z6p (x:Zh) (hc:Ys b.Ad=true) (hw:Zm b.Ad x.Ah=true) (CG:b.m.length=b.Ad.Ab.length) (Mk:b.buckets.length=b.Ad.Ab.length) (hr:Yy (Ai b.m x.Ah)) (S1:CF b.Bq b.Ad=true):TD b x=some (X4 b x):=by
 obtain⟨ok,DN⟩:=Yvt hr;unfold TD X4;rw[Wv CG hw,Ag,DN,Ag,Qm,Ag,UJ Mk hw,Ag,OQ hw,Ag,Ykt _ (JN hc hw),Ag,Qm,Ag,Yvq _ _ _ S1,Ag];by_cases h1:x.B6=1
 .simp[h1]
 .by_cases h2:x.B6=2<;>simp[h1,h2]
theorem Yxu {m:Zg} {k:Int} (h:Yy m) (hq:m.queue≠[]) (h0:0<=k) (h1:k < Zw m):pA m k=some (LJ m k):=by
 have hl:0 < m.queue.length:=Cw.2 hq;unfold pA LJ;rw[Xm (xs:=m.queue) (by omega) (by omega),Ag];by_cases hw:(Ai m.queue 0).write=true
 .have:=Ykg h h0 h1 hw
  rw[Aj hw,Aj hw,Xm this.1 this.2];rfl
 .rw[Ak hw,Ak hw]
theorem Yjm {m:Zg} {k:Int} (h:Yy m) (hq:m.queue≠[]) (h0:0<=k) (h1:k < Zw m):ZU (Ai m.queue 0) k=some (LJ m k):=by
 unfold ZU LJ;by_cases hw:(Ai m.queue 0).write=true
 .have:=Ykg h h0 h1 hw
  rw[Ak (by simp[hw]),Aj hw,Xm this.1 this.2];rfl
 .rw[Aj (by simpa using hw),Ak hw]
theorem OU {m:Zg} {k:Int} (h0:0<=k) (h1:k < Zw m):m.queue≠[]:=by
 intro hq;unfold Zw at h1;rw[Aj hq] at h1;omega
theorem eQ {m:Zg} (hq:m.queue≠[]):idx m.queue 0=some (Ai m.queue 0):=by
 have hl:0 < m.queue.length:=Cw.2 hq;exact Xm (by omega) (by omega)
theorem Y0p (x:Zh) (hw:Zm b.Ad x.Ah=true) (CG:b.m.length=b.Ad.Ab.length) (hr:Yy (Ai b.m x.Ah)) (hm:Ef b.model) (h0:0<=x.An) (h1:x.An < Zw (Ai b.m x.Ah)):bR b x=some (Em b x):=by
 have hq:=OU h0 h1;unfold bR Em;rw[Wv CG hw,Ag,eQ hq,Ag,Sk _ hr,Ag,Yxu hr hq h0 h1,Ag,Ycr _ _ _ _ hm];rfl
theorem Ygz {m:Zg} (h:Yy m) (hp:m.An - m.done≥1):((Jo m).queue.length:Int) < (m.queue.length:Int)↔m.done+1=Zw m:=by
 have hq:=LG h (by omega);have hl:0 < m.queue.length:=Cw.2 hq;have hf:=Yc3 h hp;by_cases e:m.done+1=Zw m
 .rw[(hf.1 e).2.1];simp[e];omega
 .rw[(hf.2 e).1];simp[e]
theorem Ys3 {m:Zg} (h:Yy m) (hp:m.An - m.done≥1):(Jo m).done=0↔m.done+1=Zw m:=by
 have hb:=Gt h;have hf:=Yc3 h hp;by_cases e:m.done+1=Zw m
 .rw[(hf.1 e).2.2.2.1];simp[e]
 .rw[(hf.2 e).2.2.1];simp[e];omega
theorem Yql (x:Zh) (h1:Zm b.Ad x.Ah=true) (CG:b.m.length=b.Ad.Ab.length) (hr:Yy (Ai b.m x.Ah)) (hm:Ef b.model) (hp:(Ai b.m x.Ah).An - (Ai b.m x.Ah).done≥1) (h2:0<=x.An) (h3:x.An < Zw (Ai b.m x.Ah)) (hl:b.log.length < 1048577):pR b x=some (Nn b x):=by
 have hq:=OU h2 h3;obtain⟨ok,he⟩:=Yxg hr;unfold pR;rw[Wv CG h1,Ag,eQ hq,Ag,Sk _ hr,Ag,Y0p x h1 CG hr hm h2 h3,Ag];have hJ:∀(mo:Zf) (d:Zs),bT b x {b with model:=mo} (Ai b.m x.Ah) d=some {b with model:=mo,log:=b.log++[d],m:=b.m.set x.Ah.toNat (Jo (Ai b.m x.Ah)),Af:=if b.Af=x.Ah/\(Ai b.m x.Ah).done+1=Zw (Ai b.m x.Ah) then -1 else b.Af,held:=if b.Af=x.Ah/\(Ai b.m x.Ah).done+1=Zw (Ai b.m x.Ah) then 0 else b.held}:=by
  intro mo d;unfold bT pQ pP bS;simp only;rw[Yp (by simp only[AU,Bo];omega) (by simp only[AU,Bo];omega),Ag,he,Ag];simp only[Ag,Wv CG h1,Qm];have hi:idx b.m x.Ah=some (Ai b.m x.Ah):=Wv CG h1;by_cases e1:b.Af=x.Ah
  .by_cases e2:(Ai b.m x.Ah).done+1=Zw (Ai b.m x.Ah)
   .have e3:=(Ygz hr hp).2 e2
    simp only[decide_eq_true e1,decide_eq_true e3,if_true,Aj (And.intro e1 e2)]
   .have e3:=mt (Ygz hr hp).1 e2
    simp only[decide_eq_true e1,decide_eq_false e3,if_true,if_false,Bn,Ak (λhx:b.Af=x.Ah/\_=>e2 hx.2)]
  .simp only[decide_eq_false e1,if_false,Bn,Ak (λhx:b.Af=x.Ah/\_=>e1 hx.1)]
 unfold Nn eF;by_cases e:x.Ap=0
 .rw[Aj (decide_eq_true e),hJ]
  simp only[Aj e]
 .rw[Ak (by simpa using e)]
  have:=hJ b.model (Zs.mk b.now x.Ah (Ai (Ai b.m x.Ah).queue 0).write (Xb (Ai b.m x.Ah) x.An) (Ai (Ai b.m x.Ah).queue 0).size 0 x.Ap);refine G1 (b:=_) ?_ (this.trans ?_)
  .rfl
  .simp only[Ak e]
theorem Yzn (w:Zp) (h:Y0 b.now b) (hs:s.sm) (hn:b.now<=4000):pT b s w=some ((Z0 b s).2.1,(Z0 b s).1,if b.Aa.live=true/\¬b.Aa.left > 0 then {w with Ap:=b.Aa.Ap} else w):=by
 unfold pT Z0;by_cases hd:b.Aa.live=true
 .have DZ:¬b.Aa.live=false:=by simp[hd]
  rw[Ak (by simp[hd]),Ak DZ];have CQ:=h.data;unfold Kz at CQ;rw[Aj hd] at CQ;have hw:=Ko h hd;have Ck:=(h.Bx _ hw).right;have hp:=UL h hd;have Jm:=Yb3 h hd;have G8:=(W7 h.Ad).2.1;by_cases hl:b.Aa.left > 0
  .rw[Aj (decide_eq_true hl),Aj hl,Ak (λhx:_/\¬b.Aa.left > 0=>hx.2 hl),Xc (by omega) (by omega)]
  .rw[Ak (by simpa using hl),Ak hl,Aj (And.intro hd hl)]
   have hJf:¬(b.Aa.Ap≠0/\b.Aa.second=false)->Uj b s w false=some ((if b.Aa.Ap=2 then (X4 {b with Aa:=Zh.z0,m:=b.m.set b.Aa.Ah.toNat {Ai b.m b.Aa.Ah with tries:=(Ai b.m b.Aa.Ah).tries+1}} b.Aa,true,b.Aa.Ap)
 else if b.Aa.Ap=3 then (X4 {b with Aa:=Zh.z0,m:=b.m.set b.Aa.Ah.toNat {Ai b.m b.Aa.Ah with Ax:=true},splits:=b.splits.set b.Aa.Ah.toNat (GS b.Ad s b.At)} b.Aa,true,b.Aa.Ap)
 else (Nn {b with Aa:=Zh.z0} b.Aa,true,b.Aa.Ap):Za×Bool×Int).2.1,(if b.Aa.Ap=2 then (X4 {b with Aa:=Zh.z0,m:=b.m.set b.Aa.Ah.toNat {Ai b.m b.Aa.Ah with tries:=(Ai b.m b.Aa.Ah).tries+1}} b.Aa,true,b.Aa.Ap)
 else if b.Aa.Ap=3 then (X4 {b with Aa:=Zh.z0,m:=b.m.set b.Aa.Ah.toNat {Ai b.m b.Aa.Ah with Ax:=true},splits:=b.splits.set b.Aa.Ah.toNat (GS b.Ad s b.At)} b.Aa,true,b.Aa.Ap)
 else (Nn {b with Aa:=Zh.z0} b.Aa,true,b.Aa.Ap):Za×Bool×Int).1,{w with Ap:=b.Aa.Ap}):=by
    intro PZ;have FA:=X5 hw;have CG:=h.ml;have eR:∀x:Zg,Yy x->Yy (Ai (b.m.set b.Aa.Ah.toNat x) b.Aa.Ah):=λx hx=>by rw[dE x FA.1 (by omega)];exact hx
    have Yo:∀x:Zg,(b.m.set b.Aa.Ah.toNat x).length=b.Ad.Ab.length:=λx=>by rw[KI];exact CG
    unfold Uj;rw[Ak (by simp)];by_cases h2:b.Aa.Ap=2
    .have ht:=CQ.2.1 h2
     have VQ:=(W7 h.Ad).1;have jH:=Ck.tries;have C6:Yy {Ai b.m b.Aa.Ah with tries:=(Ai b.m b.Aa.Ah).tries+1}:=⟨Ck.len,by show 0<=(Ai b.m b.Aa.Ah).tries+1;omega,Ck.reqs,λhq=>absurd (show (Ai b.m b.Aa.Ah).queue=[] from hq) (OU Jm.1 Jm.2),Ck.some⟩;simp only[decide_eq_true h2,if_true,Aj h2,Wv CG hw,Ag,Qm,Yj (a:=(Ai b.m b.Aa.Ah).tries) (b:=1) (by omega) (by omega)];rw[Z6g (b:={b with Aa:=Zh.z0,m:=b.m.set b.Aa.Ah.toNat {Ai b.m b.Aa.Ah with tries:=(Ai b.m b.Aa.Ah).tries+1}}) b.Aa h.Ad hw (Yo _) h.bl (eR _ C6) h.Bq];rfl
    .by_cases h3:b.Aa.Ap=3
     .have hr3:Yy {Ai b.m b.Aa.Ah with Ax:=true}:=⟨Ck.len,Ck.tries,Ck.reqs,λhq=>absurd (show (Ai b.m b.Aa.Ah).queue=[] from hq) (OU Jm.1 Jm.2),Ck.some⟩
      simp only[decide_eq_false h2,decide_eq_true h3,if_true,if_false,Bn,Ak h2,Aj h3,Wv CG hw,HZ h.sl hw,Ag,Qm,Yt2 _ _ hs];rw[Z6g (b:={b with Aa:=Zh.z0,m:=b.m.set b.Aa.Ah.toNat {Ai b.m b.Aa.Ah with Ax:=true},splits:=b.splits.set b.Aa.Ah.toNat (GS b.Ad s b.At)}) b.Aa h.Ad hw (Yo _) h.bl (eR _ hr3) h.Bq];rfl
     .simp only[decide_eq_false h2,decide_eq_false h3,if_false,Bn,Ak h2,Ak h3]
      have hlog:=tC (by omega) h.log;rw[Yql (b:={b with Aa:=Zh.z0}) b.Aa hw CG Ck h.model hp Jm.1 Jm.2 (by show b.log.length < _;omega)];rfl
   by_cases h2:b.Aa.Ap≠0
   .rw[Aj (decide_eq_true h2)]
    by_cases h3:b.Aa.second=false
    .rw[Aj (And.intro h2 h3),h3]
     unfold Uj pS;rw[Aj (by rfl)];by_cases ha:b.addr.live=true
     .rw[Aj ha,Aj ha]
      have FB:=GV h ha;rw[Z6g (b:={b with Aa:={b.Aa with second:=true}}) b.addr h.Ad FB h.ml h.bl (h.Bx _ FB).right h.Bq];rfl
     .rw[Ak ha,Ak ha]
    .have h4:b.Aa.second=true:=by simpa using h3
     rw[Ak (λhx:_/\b.Aa.second=false=>h3 hx.2),h4,Du,hJf (λhx=>h3 hx.2)]
   .rw[Ak (by simpa using h2),Ak (λhx:b.Aa.Ap≠0/\_=>h2 hx.1),hJf (λhx=>h2 hx.1)]
 .rw[Aj (by simpa using hd),Aj (by simpa using hd),Ak (λhx:b.Aa.live=true/\_=>hd hx.1)]
theorem Yxm (h:Y0 b.now b) (hs:s.sm) (hn:b.now<=4000) (hd:b.Aa.live=true) (hl:¬b.Aa.left > 0) (PZ:¬(b.Aa.Ap≠0/\b.Aa.second=false)):mD b s=some (Z0 b s).1:=by
 have DZ:¬b.Aa.live=false:=by simp[hd]
 have CQ:=h.data;unfold Kz at CQ;rw[Aj hd] at CQ;have hw:=Ko h hd;have Ck:=(h.Bx _ hw).right;have hp:=UL h hd;have Jm:=Yb3 h hd;have FA:=X5 hw;have CG:=h.ml;have hq:=OU Jm.1 Jm.2;have eR:∀x:Zg,Yy x->Yy (Ai (b.m.set b.Aa.Ah.toNat x) b.Aa.Ah):=λx hx=>by rw[dE x FA.1 (by omega)];exact hx
 have Yo:∀x:Zg,(b.m.set b.Aa.Ah.toNat x).length=b.Ad.Ab.length:=λx=>by rw[KI];exact CG
 unfold mD Z0;rw[Ak DZ,Ak hl,Ak PZ,Wv CG hw,Ag];by_cases h2:b.Aa.Ap=2
 .have ht:=CQ.2.1 h2
  have VQ:=(W7 h.Ad).1;have jH:=Ck.tries;have C6:Yy {Ai b.m b.Aa.Ah with tries:=(Ai b.m b.Aa.Ah).tries+1}:=⟨Ck.len,by show 0<=(Ai b.m b.Aa.Ah).tries+1;omega,Ck.reqs,λhq=>absurd (show (Ai b.m b.Aa.Ah).queue=[] from hq) (OU Jm.1 Jm.2),Ck.some⟩;simp only[decide_eq_true h2,if_true,Aj h2,Ag,Qm,Yj (a:=(Ai b.m b.Aa.Ah).tries) (b:=1) (by omega) (by omega)];rw[Z6p (b:={b with Aa:=Zh.z0,m:=b.m.set b.Aa.Ah.toNat {Ai b.m b.Aa.Ah with tries:=(Ai b.m b.Aa.Ah).tries+1}}) b.Aa h.Ad hw (Yo _) h.bl (eR _ C6) h.Bq];rfl
 .by_cases h3:b.Aa.Ap=3
  .have hr3:Yy {Ai b.m b.Aa.Ah with Ax:=true}:=⟨Ck.len,Ck.tries,Ck.reqs,λhq=>absurd (show (Ai b.m b.Aa.Ah).queue=[] from hq) (OU Jm.1 Jm.2),Ck.some⟩
   simp only[decide_eq_false h2,decide_eq_true h3,if_true,if_false,Bn,Ak h2,Aj h3,HZ h.sl hw,Ag,Qm,Yt3 _ _ hs];rw[Z6p (b:={b with Aa:=Zh.z0,m:=b.m.set b.Aa.Ah.toNat {Ai b.m b.Aa.Ah with Ax:=true},splits:=b.splits.set b.Aa.Ah.toNat (GS b.Ad s b.At)}) b.Aa h.Ad hw (Yo _) h.bl (eR _ hr3) h.Bq];rfl
  .have hlog:=tC (by omega) h.log
   obtain⟨ok,he⟩:=Yxn Ck;have hJ:∀(mo:Zf) (d:Zs),aA b s {b with Aa:=Zh.z0,model:=mo} (Ai b.m b.Aa.Ah) d=some {b with Aa:=Zh.z0,model:=mo,log:=b.log++[d],m:=b.m.set b.Aa.Ah.toNat (Jo (Ai b.m b.Aa.Ah)),Af:=if b.Af=b.Aa.Ah/\(Ai b.m b.Aa.Ah).done+1=Zw (Ai b.m b.Aa.Ah) then -1 else b.Af,held:=if b.Af=b.Aa.Ah/\(Ai b.m b.Aa.Ah).done+1=Zw (Ai b.m b.Aa.Ah) then 0 else b.held}:=by
    intro mo d;unfold aA;simp only;rw[Yp (by simp only[AU,Bo];omega) (by simp only[AU,Bo];omega),Ag,he,Ag];simp only[Ag,Wv CG hw,Qm];by_cases e1:b.Af=b.Aa.Ah
    .by_cases e2:(Ai b.m b.Aa.Ah).done+1=Zw (Ai b.m b.Aa.Ah)
     .have e3:=(Ys3 Ck hp).2 e2
      simp only[decide_eq_true e1,decide_eq_true e3,if_true,Aj (And.intro e1 e2)]
     .have e3:=mt (Ys3 Ck hp).1 e2
      simp only[decide_eq_true e1,decide_eq_false e3,if_true,if_false,Bn,Ak (λhx:b.Af=b.Aa.Ah/\_=>e2 hx.2)]
    .simp only[decide_eq_false e1,if_false,Bn,Ak (λhx:b.Af=b.Aa.Ah/\_=>e1 hx.1)]
   simp only[decide_eq_false h2,decide_eq_false h3,if_false,Bn,Ak h2,Ak h3];rw[eQ hq,Ag,UG _ Ck,Ag];unfold Nn eF Em;by_cases e:b.Aa.Ap=0
   .rw[Aj (decide_eq_true e),Yjm Ck hq Jm.1 Jm.2,Ag,Z1t _ _ _ _ h.model,Ag,hJ]
    simp only[Aj e]
   .rw[Ak (by simpa using e)]
    have:=hJ b.model (Zs.mk b.now b.Aa.Ah (Ai (Ai b.m b.Aa.Ah).queue 0).write (Xb (Ai b.m b.Aa.Ah) b.Aa.An) (Ai (Ai b.m b.Aa.Ah).queue 0).size 0 b.Aa.Ap);refine G1 (b:=_) ?_ (this.trans ?_)
    .rfl
    .simp only[Ak e]
end
section
variable {n:Int} {b:Za} {s:Zb}
theorem Yy8 (h:Y0 n b) (hs:s.sm) (hl:b.addr.live=true):pW b s b.addr=some (GU b s b.addr):=by
 have hw:=GV h hl;have Ck:=(h.Bx _ hw).right;have Jm:=Ybo h hl;have hwt:=Ynq h.Ad s b.At;have S3:=(W7 h.Ad).2.1;unfold pW;rw[Wv h.ml hw,Ag,Sk _ Ck,Ag,Z2o,Ag];have Nl:RP b s b.addr (Ai b.m b.addr.Ah) (Yl (Xb (Ai b.m b.addr.Ah) b.addr.An)) false=some (if EP s b.At=2/\Yl (Xb (Ai b.m b.addr.Ah) b.addr.An)≠3/\(Ai b.m b.addr.Ah).tries < b.Ad.Ao then 2
  else if EP s b.At=3/\Yl (Xb (Ai b.m b.addr.Ah) b.addr.An)=2/\(Ai b.m b.addr.Ah).Ax=false/\b.addr.Ah≠b.Af then 3 else (Em b b.addr).2.2,if Yl (Xb (Ai b.m b.addr.Ah) b.addr.An)=3 then GR b.Ad s b.At+2 else GR b.Ad s b.At):=by
  unfold RP;rw[Ak (by simp),Y0p _ hw h.ml Ck h.model Jm.1 Jm.2,Ag,Yye _ _ hs,Ag,Yj (by omega) (by omega)];have eD:∀(r t:Int),bU b s b.addr (Ai b.m b.addr.Ah) (Yl (Xb (Ai b.m b.addr.Ah) b.addr.An)) r t=some (if EP s b.At=2/\Yl (Xb (Ai b.m b.addr.Ah) b.addr.An)≠3/\(Ai b.m b.addr.Ah).tries < b.Ad.Ao then 2
  else if EP s b.At=3/\Yl (Xb (Ai b.m b.addr.Ah) b.addr.An)=2/\(Ai b.m b.addr.Ah).Ax=false/\b.addr.Ah≠b.Af then 3 else r,t):=by
   intro r t;unfold bU;rw[Yyn _ hs,Ag];generalize Yl (Xb (Ai b.m b.addr.Ah) b.addr.An)=sl;have Sp:K5 b s b.addr (Ai b.m b.addr.Ah) sl r t (EP s b.At) false=some (if EP s b.At=3/\sl=2/\(Ai b.m b.addr.Ah).Ax=false/\b.addr.Ah≠b.Af then 3 else r,t):=by
    unfold K5;rw[Ak (by simp)];by_cases e1:EP s b.At=3
    .by_cases e2:sl=2
     .by_cases e3:(Ai b.m b.addr.Ah).Ax=true
      .simp[e1,e2,e3]
      .by_cases e4:b.addr.Ah=b.Af<;>simp[e1,e2,e3,e4]
     .simp[e1,e2]
    .simp[e1]
   have hJ3t:K5 b s b.addr (Ai b.m b.addr.Ah) sl r t (EP s b.At) true=some (2,t):=by
    unfold K5;rw[Aj rfl]
   by_cases e1:EP s b.At=2
   .by_cases e2:sl=3
    .rw[Aj (decide_eq_true e1),Ak (by simpa using e2),Sp,Ak (λhx:_/\sl≠3/\_=>hx.2.1 e2)]
    .by_cases e3:(Ai b.m b.addr.Ah).tries < b.Ad.Ao
     .rw[Aj (decide_eq_true e1),Aj (by simpa using e2),decide_eq_true e3,hJ3t,Aj ⟨e1,e2,e3⟩]
     .rw[Aj (decide_eq_true e1),Aj (by simpa using e2),decide_eq_false e3,Sp,Ak (λhx:_/\_/\_=>e3 hx.2.2)]
   .rw[Ak (by simpa using e1),Sp,Ak (λhx:_/\_/\_=>e1 hx.1)]
  by_cases e:Yl (Xb (Ai b.m b.addr.Ah) b.addr.An)=3
  .rw[Aj (decide_eq_true e),eD,Aj e]
  .rw[Ak (by simpa using e),eD,Ak e]
 have eS:RP b s b.addr (Ai b.m b.addr.Ah) (Yl (Xb (Ai b.m b.addr.Ah) b.addr.An)) true=some (1,0):=by
  unfold RP;rw[Aj rfl]
 unfold GU;by_cases e1:(Ai b.m b.addr.Ah).broken=true
 .rw[Aj e1,eS,Aj (.inl e1)]
 .by_cases e2:Yl (Xb (Ai b.m b.addr.Ah) b.addr.An)=0
  .rw[Ak e1,decide_eq_true e2,eS,Aj (.inr e2)]
  .rw[Ak e1,decide_eq_false e2,Nl,Ak (show ¬((Ai b.m b.addr.Ah).broken=true\/Yl (Xb (Ai b.m b.addr.Ah) b.addr.An)=0) fromλhx=>hx.elim e1 e2)]
theorem Yzy (a:Int):Yl a=0\/Yl a=1\/Yl a=2\/Yl a=3:=by
 unfold Yl
 repeat' split
 all_goals simp
theorem Y2z (h:Y0 n b) (hs:s.sm) (hp:0<=b.At/\b.At<=4000):mG b s=some (Qj b s):=by
 unfold mG Qj;by_cases hl:b.addr.live=true
 .have hw:=GV h hl
  have Ck:=(h.Bx _ hw).right;have Jm:=Ybo h hl;have hq:=OU Jm.1 Jm.2;have hwt:=Ynq h.Ad s b.At;have S3:=(W7 h.Ad).2.1;have hA:=h.addr;unfold Jr at hA;rw[Aj hl] at hA;rw[Ak (by simp[hl]),Aj hl,Wv h.ml hw,Ag,eQ hq,Ag,UG _ Ck,Ag,Ydx,Ag,Yz0 _ hs,Ag];have hsr:=Yzy (Xb (Ai b.m b.addr.Ah) b.addr.An);have S5:∀x:Zh,aB b s x=some {b with addr:=Zh.z0,Aa:=x,At:=b.At+1}:=by
   intro x;unfold aB;rw[Yj (by omega) (by omega)]
  unfold GU;by_cases e1:(Ai b.m b.addr.Ah).broken=true
  .rw[Aj e1,Aj (.inl e1)]
   unfold TJ TI TH TG Jb TF Jl;simp only[if_true,e1,Du,Bn,if_false,S5,Yh0]
   congr 2
   rw[hA.2.1]
  .have E4:(Ai b.m b.addr.Ah).broken=false:=by simpa using e1
   rw[Ak e1];generalize Hm:Yl (Xb (Ai b.m b.addr.Ah) b.addr.An)=sl at hsr;by_cases e2:sl=0
   .rw[decide_eq_true e2,Aj (.inr e2)]
    unfold TJ TI TH TG Jb TF Jl;have f1:¬sl=3:=by omega
    have f2:¬sl=1:=by omega
    have f3:¬sl=2:=by omega
    simp only[if_true,E4,f1,f2,f3,decide_false,FF,Bn,if_false,S5,Yh0]
    congr 2
    rw[hA.2.1]
   .rw[decide_eq_false e2,Ak (λhx=>hx.elim e1 e2)]
    unfold TJ;rw[Ak (by simp),Yym _ _ hs,Ag,Yjm Ck hq Jm.1 Jm.2,Ag,Z1t _ _ _ _ h.model,Ag];have UM:Wj b.model (Ai (Ai b.m b.addr.Ah).queue 0).write (Xb (Ai b.m b.addr.Ah) b.addr.An) (Ai (Ai b.m b.addr.Ah).queue 0).size (LJ (Ai b.m b.addr.Ah) b.addr.An)=Em b b.addr:=rfl;rw[UM];unfold TI TH TG Jb TF Jl;simp only[E4,FF,if_true,S5,Yj (a:=GR b.Ad s b.At) (b:=2) (by omega) (by omega)];generalize EP s b.At=sd;by_cases g1:sl=3
    .subst g1
     by_cases g2:sd=2
     .subst g2;simp
     .by_cases g3:sd=3
      .subst g3;simp
      .simp[g2,g3]
    .by_cases g4:sl=2
     .subst g4
      by_cases g2:sd=2
      .subst g2
       by_cases g5:(Ai b.m b.addr.Ah).tries < b.Ad.Ao<;>simp[g5]
      .by_cases g3:sd=3
       .subst g3
        by_cases g5:(Ai b.m b.addr.Ah).Ax=true
        .simp[g5]
        .by_cases g6:b.addr.Ah=b.Af
         .simp[g5,g6]
         .have g7:¬b.Af=b.addr.Ah:=λe=>g6 e.symm
          simp[g5,g6,g7]
       .simp[g2,g3]
     .have g8:sl=1:=by omega
      subst g8;by_cases g2:sd=2
      .subst g2
       by_cases g5:(Ai b.m b.addr.Ah).tries < b.Ad.Ao<;>simp[g5]
      .by_cases g3:sd=3
       .subst g3;simp
       .simp[g2,g3]
 .rw[Aj (by simpa using hl),Ak hl]
  have hA:=h.addr;unfold Jr at hA;rw[Ak hl] at hA;rw[<-hA]
theorem Yk4 (b:Za) (k:Nat):((List.range (k+1)).map λj:Nat=>Jk b (j:Int))=((List.range k).map λj:Nat=>Jk b (j:Int))++[Jk b (k:Int)]:=by
 rw[List.range_succ,G0];rfl
theorem tD (h:Y0 n b):b.Af=-1\/Zm b.Ad b.Af=true:=by
 by_cases e:b.Af=-1
 .exact .inl e
 .exact .inr (H3 h e).1
theorem Y54 (h:Y0 n b):qB b=some ((Qg b).1,(Qg b).2.1,(Qg b).2.2):=by
 have Yo:=Kq h.Ad;have CG:=h.ml;have M5:bY b FU (Kj b) ((Kj b).length:Int) 0=some (match (List.range b.m.length).find? (Eo b) with
  | some k=>((k:Int),1,{b with buckets:=b.buckets.set k (F6 (Ai b.buckets (k:Int)) (Ai b.Ad.Ab (k:Int))).1})
  | none=>if b.Af≠-1 then (-1,0,b) else ((F7 b.Bq b.Ad (Kj b)).2,2,{b with Bq:=(F7 b.Bq b.Ad (Kj b)).1})):=by
  rw[Nq];have key:∀(r m k:Nat),r < m->k+r=b.m.length->(∀j,j < k->Eo b j=false)->bY b m (Kj b) (b.m.length:Int) (k:Int)=some (match (List.range' k r).find? (Eo b) with
  | some k=>((k:Int),1,{b with buckets:=b.buckets.set k (F6 (Ai b.buckets (k:Int)) (Ai b.Ad.Ab (k:Int))).1})
  | none=>if b.Af≠-1 then (-1,0,b) else ((F7 b.Bq b.Ad (Kj b)).2,2,{b with Bq:=(F7 b.Bq b.Ad (Kj b)).1})):=by
   intro r
   induction r with
   | zero=>
    intro m k hm hk _;obtain⟨m,rfl⟩:∃m',m=m'+1:=⟨m - 1,by omega⟩;show bX b _ (Kj b) (b.m.length:Int) (k:Int)=_;unfold bX;rw[Ak (by simp;omega),Ytw _ _ _ h.Bq (by rw[Nq,CG]),Ag];by_cases e:b.Af=-1
    .simp[e]
    .simp[e]
   | succ r ih=>
    intro m k hm hk hj;obtain⟨m,rfl⟩:∃m',m=m'+1:=⟨m - 1,by omega⟩;show bX b _ (Kj b) (b.m.length:Int) (k:Int)=_;have CX:=FT (c:=b.Ad) (k:=k) (by omega);unfold bX;have hix:idx (Kj b) (k:Int)=some (Jk b (k:Int)):=by
     rw[Xm (by omega) (by rw[Nq];omega),eL h CX]
    rw[Aj (by simp;omega),hix,Ag,UJ h.bl CX,Ag,OQ CX,Ag,Yk2 _ (JN h.Ad CX),Ag,Qm,Ag,uM,List.find?_cons];by_cases e1:Jk b (k:Int)=true
    .by_cases e2:(F6 (Ai b.buckets (k:Int)) (Ai b.Ad.Ab (k:Int))).2=true
     .have e3:Eo b k=true:=by simp[Eo,e1,e2]
      rw[e1,Ak (by simp),Aj e2,e3];rfl
     .have e3:Eo b k=false:=by simp[Eo,e1,e2]
      rw[e1,Ak (by simp),Ak e2,e3,Ye (by omega)];exact ih m (k+1) (by omega) (by omega) (λj hj2=>by
       by_cases dT:j=k
       .subst dT;exact e3
       .exact hj j (by omega))
    .have e3:Eo b k=false:=by simp[Eo,e1]
     have e4:Jk b (k:Int)=false:=by simpa using e1
     rw[e4,Aj (by simp),e3,Ye (by omega)];exact ih m (k+1) (by omega) (by omega) (λj hj2=>by
       by_cases dT:j=k
       .subst dT;exact e3
       .exact hj j (by omega))
  have:=key b.m.length FU 0 (by have:=Y5;omega) (by omega) (λj hj=>by omega);rw[uB];simpa using this
 unfold qB;refine K8 (σ:=List Bool) (n:=b.m.length) (by omega) (λk=>(List.range k).map λj:Nat=>Jk b (j:Int)) (B:=p9 b) (L:=qA b) (λm s i=>rfl) (λk hk κ=>?_) λκ=>?_
 .have CX:=FT (c:=b.Ad) (k:=k) (by omega)
  unfold p9;have eT:∀x:Bool,Yz 1 ((List.range k).map λj:Nat=>Jk b (j:Int)) [x]=some (((List.range k).map λj:Nat=>Jk b (j:Int))++[x]):=λx=>Yp (by simp;omega) (by simp;omega);rw[Aj (by simpa using hk),Wv CG CX,Ag,Yan (h.Bx _ CX).right,Ag,HZ h.sl CX,Ag,Yk4];simp only[eT,Ag];unfold Jk;by_cases e1:LF (Ai b.m (k:Int))=true
  .by_cases e2:Ai b.splits (k:Int)=0
   .by_cases e3:b.Af=-1
    .simp[e1,e2,e3]
    .simp[e1,e2,e3]
   .simp[e1,e2]
  .simp[e1]
 .unfold p9 p8
  rw[Ak (by simp)];show (if decide (b.Af≠-1)=true then (idx (Kj b) b.Af).bind _ else _)=_;unfold Qg;by_cases e:b.Af=-1
  .rw[Ak (by simpa using e),Ak (by simp),Ak (λhx:b.Af≠-1/\_=>hx.1 e)]
   exact M5
  .have hw:=(H3 h e).1
   have FA:=X5 hw;rw[Aj (by simpa using e),Xm FA.1 (by rw[Nq];omega),Ag,eL h hw];by_cases e2:Jk b b.Af=true
   .rw[Aj e2,Aj ⟨e,e2⟩]
   .rw[Ak e2,Ak (λhx:_/\Jk b b.Af=true=>e2 hx.2)]
    exact M5
theorem Xbr {b:Za} {i:Int} (hr:Yy (Ai b.m i)) (h:Jk b i=true):(Ai b.m i).queue≠[]:=by
 have:=(Z97 h).1;have:=Gt hr;intro hq;unfold Zw at*;rw[Aj hq] at*;omega
theorem Y6c (x0:Za) (h:Y0 n b) {Ah B6:Int} (hw:Zm b.Ad Ah=true):((idx b.m Ah).bind λJX=>
  if decide (JX.An=0)=true then RQ x0 {b with addr:=(Zh.mk true Ah JX.An true B6 0 0 false)} JX Ah
  else RQ x0 {b with addr:=(Zh.mk true Ah JX.An (decide (b.last≠Ah)) B6 0 0 false)} JX Ah)=some (Ah,Sy b Ah B6):=by
 obtain⟨ok,hi⟩:=Yrb (h.Bx _ hw).right;rw[Wv h.ml hw,Ag];have hJ:∀f:Bool,RQ x0 {b with addr:=(Zh.mk true Ah (Ai b.m Ah).An f B6 0 0 false)} (Ai b.m Ah) Ah=some (Ah,{b with addr:=Zh.mk true Ah (Ai b.m Ah).An f B6 0 0 false,Af:=if Yr (Ai b.m Ah)=true/\b.Af=-1 then Ah else b.Af,held:=if Yr (Ai b.m Ah)=true/\b.Af=-1 then 0 else b.held,m:=b.m.set Ah.toNat (X8 (Ai b.m Ah)),last:=Ah}):=by
  intro f;unfold RQ qF qE;simp only[Z8s,Ag,hi,Wv h.ml hw,Qm];by_cases e1:Yr (Ai b.m Ah)=true
  .by_cases e2:b.Af=-1
   .simp only[e1,if_true,decide_eq_true e2,true_and,Aj e2]
   .simp only[e1,if_true,decide_eq_false e2,Bn,if_false,true_and,Ak e2]
  .simp only[e1,if_false,Bn,false_and]
 unfold Sy;by_cases e:(Ai b.m Ah).An=0
 .rw[Aj (decide_eq_true e),hJ,decide_eq_true e];rfl
 .rw[Ak (by simpa using e),hJ,decide_eq_false e,Vw]
end
section
variable {n:Int} {b:Za} {s:Zb}
theorem Y2x (h:Y0 n b):qG b=some ((Kk b).1,(Kk b).2):=by
 have hp:=UP h;unfold qG Kk;rw[Y54 h,Ag];by_cases e:(Qg b).1 < 0
 .rw[Aj (decide_eq_true e),Aj e]
 .rw[Ak (by simpa using e),Ak e]
  rcases hp.Ah with h1|h1
  .exact absurd (show (Qg b).1 < 0 by rw[h1];decide) e
  .exact Y6c b hp.ok (by rw[hp.Ad];exact h1.1)
theorem Y9s {c:Zk} {m:Ze} (h:Y1 c m=true):(F6 c m).2=decide (c.tokens > 0):=by
 unfold F6;by_cases hp:m.prio=true
 .have h2:=h
  unfold Y1 at h2;rw[Aj hp] at h2;simp only[Bg,Bj] at h2;by_cases e:c.tokens=0
  .simp[hp,h,e]
  .have:c.tokens > 0:=by omega
   simp[hp,h,e,this]
 .have h2:=h
  unfold Y1 at h2;rw[Ak hp] at h2;simp only[Bg,Bj] at h2;simp[hp,h2.1]
theorem Ydy (x0:Za) (h:Y0 n b) {Ah B6:Int} (hw:Zm b.Ad Ah=true) (Y4l:Jk b Ah=true):Oy x0 b (Zh.mk false Ah 0 false B6 0 0 false)=some (Sy b Ah B6):=by
 obtain⟨ok,hi⟩:=Yq9 (h.Bx _ hw).right;have hq:=Xbr (h.Bx _ hw).right Y4l;have FA:=X5 hw;unfold Oy;simp only;rw[Ak (by simp;omega),Wv h.ml hw,Ag];have hh:=tD h;have Z7:b.Af < 0↔b.Af=-1:=by
  rcases hh with hh|hh
  .omega
  .have:=X5 hh;omega
 have hJ:∀f:Bool,aF x0 b (Zh.mk true Ah (Ai b.m Ah).An f B6 0 0 false) (Ai b.m Ah)=some {b with addr:=Zh.mk true Ah (Ai b.m Ah).An f B6 0 0 false,Af:=if Yr (Ai b.m Ah)=true/\b.Af=-1 then Ah else b.Af,held:=if Yr (Ai b.m Ah)=true/\b.Af=-1 then 0 else b.held,m:=b.m.set Ah.toNat (X8 (Ai b.m Ah)),last:=Ah}:=by
  intro f;unfold aF aE mP;simp only[eQ hq,Ag,hi,Wv h.ml hw,Qm];unfold Yr;by_cases e1:(Ai (Ai b.m Ah).queue 0).lock=true
  .by_cases e2:(Ai b.m Ah).broken=true
   .simp[e1,e2]
   .by_cases e3:b.Af=-1
    .have e4:=Z7.2 e3
     simp[e1,e2,e3,hq]
    .have e4:=mt Z7.1 e3
     simp[e1,e2,e3,e4]
  .simp[e1]
 unfold Sy;by_cases e:(Ai b.m Ah).An=0
 .rw[Aj (decide_eq_true e),hJ,decide_eq_true e];rfl
 .rw[Ak (by simpa using e),hJ,decide_eq_false e,Vw]
theorem Ygf (x0:Za) (c:Za) (B6:Int):Oy x0 c (Zh.mk false (-1) 0 false B6 0 0 false)=some c:=by
 unfold Oy;rw[Aj (by simp)]
theorem Y15 (h:Y0 n b):mU b=some (Kk b).2:=by
 have Yo:=Kq h.Ad;have CG:=h.ml;have hh:=tD h;have Z7:b.Af < 0↔b.Af=-1:=by
  rcases hh with hh|hh
  .omega
  .have:=X5 hh;omega
 have hp:=UP h;have HR:∀(m:Nat) (c:Za) (Ah B6:Int) (k:Nat),0<=Ah->Rz b (m+1) c (Zh.mk false Ah 0 false B6 0 0 false) (Kj b) (k:Int)=Oy b c (Zh.mk false Ah 0 false B6 0 0 false):=by
  intro m c Ah B6 k hwho;have hn:¬Ah < 0:=by omega
  show Ry b _ c _ _ _=_;unfold Ry TL aG;simp only[decide_eq_false hn,Bn,if_false,Yh0]
 have M5:(¬(b.Af≠-1/\Jk b b.Af=true))->Rz b FU b (Zh.mk false (-1) 0 false 0 0 0 false) (Kj b) 0=some (Kk b).2:=by
  intro V9;have key:∀(r m k:Nat),r+1 < m->k+r=b.m.length->(List.range b.m.length).find? (Eo b)=(List.range' k r).find? (Eo b)->Rz b m b (Zh.mk false (-1) 0 false 0 0 0 false) (Kj b) (k:Int)=some (Kk b).2:=by
   intro r
   induction r with
   | zero=>
    intro m k hm hk Nr;obtain⟨m,rfl⟩:∃m',m=m'+1:=⟨m - 1,by omega⟩;show Ry b _ b _ (Kj b) (k:Int)=_;unfold Ry TL aG;have hf:(List.range b.m.length).find? (Eo b)=none:=by rw[Nr];rfl
    rw[Ak (by simp;omega),Ak (by simp),Aj (by simp)];have JY:Qg b=if b.Af≠-1 then (-1,0,b) else ((F7 b.Bq b.Ad (Kj b)).2,2,{b with Bq:=(F7 b.Bq b.Ad (Kj b)).1}):=by
     unfold Qg;rw[Ak V9,hf]
    by_cases e:b.Af=-1
    .rw[decide_eq_true (Z7.2 e),Aj rfl,Yug _ _ _ h.Bq (by rw[Nq,CG]),Ag]
     rw[Ak (by simpa using e)] at JY;have hw:=hp.Ah;have Yf:=hp.ok;unfold Kk;rw[JY] at hw Yf ⊢;simp only at hw Yf ⊢;rcases hw with hw|hw
     .rw[hw,Ygf,Aj (by decide)]
     .have FA:=X5 hw.1
      rw[Ak (by omega)];exact Ydy b Yf hw.1 hw.2.1
    .rw[decide_eq_false (mt Z7.1 e),Ak (by simp),Ygf]
     rw[Aj e] at JY;unfold Kk;rw[JY,Aj (show (-1:Int) < 0 by decide)]
   | succ r ih=>
    intro m k hm hk Nr;obtain⟨m,rfl⟩:∃m',m=m'+1:=⟨m - 1,by omega⟩;show Ry b _ b _ (Kj b) (k:Int)=_;have CX:=FT (c:=b.Ad) (k:=k) (by omega);have hix:idx (Kj b) (k:Int)=some (Jk b (k:Int)):=by
     rw[Xm (by omega) (by rw[Nq];omega),eL h CX]
    rw[uM,List.find?_cons] at Nr;unfold Ry TL mO;rw[Aj (by simp;omega),Aj (by simp),hix,Ag,UJ h.bl CX,Ag,Ag,OQ CX,Ag,Ylp _ (JN h.Ad CX),Ag,Qm,Ag,Ye (by omega),<-Y9s (h.Bx _ CX).bucket];by_cases e1:Jk b (k:Int)=true
    .by_cases e2:(F6 (Ai b.buckets (k:Int)) (Ai b.Ad.Ab (k:Int))).2=true
     .have e3:Eo b k=true:=by simp[Eo,e1,e2]
      rw[e3] at Nr;have JY:Qg b=((k:Int),1,{b with buckets:=b.buckets.set k (F6 (Ai b.buckets (k:Int)) (Ai b.Ad.Ab (k:Int))).1}):=by
       unfold Qg;rw[Ak V9,Nr]
      rw[Aj e1,Aj e2];obtain⟨m,rfl⟩:∃m',m=m'+1:=⟨m - 1,by omega⟩;rw[HR m _ _ _ _ (by omega)];have hw:=hp.Ah;have Yf:=hp.ok;unfold Kk;rw[JY] at hw Yf ⊢;simp only at hw Yf ⊢;rcases hw with hw|hw
      .omega
      .rw[Ak (by omega)]
       exact Ydy b Yf hw.1 hw.2.1
     .have e3:Eo b k=false:=by simp[Eo,e1,e2]
      rw[e3] at Nr;rw[Aj e1,Ak e2];exact ih m (k+1) (by omega) (by omega) Nr
    .have e3:Eo b k=false:=by simp[Eo,e1]
     rw[e3] at Nr;rw[Ak e1,Ak (by simp)];exact ih m (k+1) (by omega) (by omega) Nr
  have:=key b.m.length FU 0 (by have:=Y5;omega) (by omega) (by rw[uB]);simpa using this
 unfold mU;refine K8 (σ:=List Bool) (n:=b.m.length) (by omega) (λk=>(List.range k).map λj:Nat=>Jk b (j:Int)) (B:=mS b) (L:=mT b) (λm s i=>rfl) (λk hk κ=>?_) λκ=>?_
 .have CX:=FT (c:=b.Ad) (k:=k) (by omega)
  unfold mS;have eT:∀x:Bool,Yz 1 ((List.range k).map λj:Nat=>Jk b (j:Int)) [x]=some (((List.range k).map λj:Nat=>Jk b (j:Int))++[x]):=λx=>Yp (by simp;omega) (by simp;omega);rw[Aj (by simpa using hk),Wv CG CX,Ag,Yax (h.Bx _ CX).right,Ag,HZ h.sl CX,Ag,Yk4];simp only[eT,Ag];unfold Jk;by_cases e1:LF (Ai b.m (k:Int))=true
  .by_cases e2:Ai b.splits (k:Int)=0
   .by_cases e3:b.Af=-1
    .simp[e1,e2,e3]
    .have e4:=mt Z7.1 e3
     simp only[e1,e2,e3,e4,decide_true,decide_false,if_true,Bn,if_false,Hd,Vw]
   .simp[e1,e2]
  .simp[e1]
 .unfold mS mR mQ
  rw[Ak (by simp)];show (if decide (b.Af≥0)=true then (idx (Kj b) b.Af).bind _ else _)=_;by_cases e:b.Af=-1
  .rw[Ak (by simp;omega),Ak (by simp)]
   exact M5 λhx=>hx.1 e
  .have hw:=(H3 h e).1
   have FA:=X5 hw;rw[Aj (by simpa using FA.1),Xm FA.1 (by rw[Nq];omega),Ag,eL h hw];by_cases e2:Jk b b.Af=true
   .have JY:Qg b=(b.Af,3,b):=by
     unfold Qg;rw[Aj ⟨e,e2⟩]
    rw[Aj e2];have hfu:FU=(FU - 1)+1:=by decide
    show Rz b FU b (Zh.mk false b.Af 0 false 3 0 0 false) (Kj b) ((0:Nat):Int)=_;rw[hfu,HR _ _ _ _ _ FA.1];unfold Kk;rw[JY,Ak (by simp;omega)];exact Ydy b h hw e2
   .rw[Ak e2]
    exact M5 λhx=>e2 hx.2
theorem Y0o {α:Type} {X Y:List α} (hl:X.length=Y.length) {k:Nat} (hk:k < Y.length):idx (X.take k++Y.drop k) (k:Int)=some Y[k]/\(X.take k++Y.drop k).set k (X[k]'(by omega))=X.take (k+1)++Y.drop (k+1):=by
 have h1:(X.take k).length=k:=by rw[FZ];omega
 constructor
 .rw[Zx (by simp;omega)]
  simp[List.getElem_append_right,h1]
 .rw[List.set_append_right _ _ (by omega),h1,Nat.sub_self,D5 hk,List.set_cons_zero,List.take_succ_eq_append_getElem (show k < X.length by omega),List.append_assoc]
  rfl
def GW (c:Za) (k:Nat):Za:={c with splits:=(Xa c).splits.take k++c.splits.drop k,buckets:=(Xa c).buckets.take k++c.buckets.drop k}
theorem Y0n (c:Za):GW c 0=c:=by simp[GW]
theorem Ypu (h:Y0 n b):GW b b.Ad.Ab.length=Xa b:=by
 have h1:=h.sl;have h2:=h.bl;unfold GW Xa;simp only;rw[D6 (by simp;omega),Vl (by omega),D6 (by simp;omega),Vl (by omega),Gb,Gb]
theorem Ykr (h:Y0 n b) {k:Nat} (hk:k < b.Ad.Ab.length):idx (GW b k).splits (k:Int)=some (Ai b.splits (k:Int))/\(GW b k).splits.set k (max (Ai b.splits (k:Int) - 1) 0)=(GW b (k+1)).splits/\
  idx (GW b k).buckets (k:Int)=some (Ai b.buckets (k:Int))/\(GW b k).buckets.set k (JO (Ai b.buckets (k:Int)) (Ai b.Ad.Ab (k:Int)))=(GW b (k+1)).buckets:=by
 have h1:=h.sl;have h2:=h.bl;have m1:=Y0o (X:=(Xa b).splits) (Y:=b.splits) (by simp[Xa]) (k:=k) (by omega);have m2:=Y0o (X:=(Xa b).buckets) (Y:=b.buckets) (by simp[Xa];omega) (k:=k) (by omega);rw[Qk (by omega),Qk (by omega),Qk hk];refine⟨m1.1,?_,m2.1,?_⟩
 .have:=m1.2
  simp only[Xa,gR] at this;exact this
 .have:=m2.2
  simp only[Xa,List.getElem_zipWith] at this;exact this
end
section
variable {n:Int} {b:Za} {s:Zb}
theorem Yg9 (h:Y0 n b) (s:Zb) (hd:b.Aa=Zh.z0):Y0 n (Ym b)/\Y0 n (Qj (Ym b) s):=⟨sU h,(sX (sU h) s (by rw[(eK b).1];exact hd)).1⟩
theorem Ytc (x0:Za) (w:Zp) (h:Y0 n b) (hs:s.sm) (hd:b.Aa=Zh.z0) (hp:0<=b.At/\b.At<=4000) (hn:0<=b.now/\b.now<=4000):(if decide (b.Af≠(-1))=true then OB x0 s b w (decide (b.held=b.Ad.Am)) else OB x0 s b w false)=some ({w with C0:=(Xw b s).1},{(Xw b s).2 with now:=b.now+1}):=by
 obtain⟨h1,h2⟩:=Yg9 h s hd;have e1:=eK b;have S6:∀(c:Za) (w:Zp),Y0 n c->c.now=b.now->b4 x0 s c w=some ({w with C0:=(Kk c).1},{(Kk c).2 with now:=b.now+1}):=by
  intro c w hc hcn;unfold b4 bZ;rw[Y2x hc,Ag];simp only;rw[(Z8d hc).1,hcn,Yj (by omega) (by omega)]
 have S5:∀w:Zp,Ul x0 s (Ym b) w=some ({w with C0:=(Xw b s).1},{(Xw b s).2 with now:=b.now+1}):=by
  intro w;unfold Ul Xw;have e2:=sY (Ym b) s;by_cases hl:(Ym b).addr.live=true
  .rw[Aj hl,Yy8 h1 hs hl,Ag,Yj (by rw[e1.2.2.1];omega) (by rw[e1.2.2.1];omega)]
   have hb:Qj (Ym b) s={Ym b with addr:=Zh.z0,Aa:={(Ym b).addr with left:=(GU (Ym b) s (Ym b).addr).2,Ap:=(GU (Ym b) s (Ym b).addr).1},At:=(Ym b).At+1}:=by
    unfold Qj;rw[Aj hl]
   rw[<-hb];exact S6 _ _ h2 (by rw[e2.1,e1.2.2.2.1])
  .rw[Ak hl]
   have hb:Qj (Ym b) s=Ym b:=by
    unfold Qj;rw[Ak hl]
   rw[hb];exact S6 _ _ h1 e1.2.2.2.1
 have dX:OB x0 s b w false=Ul x0 s b w:=by unfold OB;rw[Ak (by simp)]
 by_cases e:b.Af=-1
 .have hb:Ym b=b:=by unfold Ym;rw[Ak (λhx:b.Af≠-1/\b.held=b.Ad.Am=>hx.1 e)]
  rw[Ak (by simpa using e),dX];have:=S5 w
  rwa [hb] at this
 .rw[Aj (by simpa using e)]
  by_cases e2:b.held=b.Ad.Am
  .have hb:Ym b=Y1u {b with m:=b.m.set b.Af.toNat {Ai b.m b.Af with broken:=true}}:=by unfold Ym;rw[Aj ⟨e,e2⟩]
   unfold OB bS;rw[decide_eq_true e2,Aj rfl,Wv h.ml (H3 h e).1,Ag,Qm,Ag,Ag];have:=S5 w;rw[hb] at this;exact this
  .have hb:Ym b=b:=by unfold Ym;rw[Ak (λhx:b.Af≠-1/\b.held=b.Ad.Am=>e2 hx.2)]
   rw[decide_eq_false e2,dX];have:=S5 w
   rwa [hb] at this
theorem Yts (x0:Za) (w:Zp) (h:Y0 n b) (hs:s.sm) (hd:b.Aa=Zh.z0) (hp:0<=b.At/\b.At<=4000) (hn:0<=b.now/\b.now<=4000) (hg:w.C0=-1):(if decide (b.Af≥0)=true then Oz x0 s b w (decide (b.held≥b.Ad.Am)) else Oz x0 s b w false)=some ({(Xw b s).2 with now:=b.now+1},{w with C0:=(Xw b s).1}):=by
 obtain⟨h1,h2⟩:=Yg9 h s hd;have e1:=eK b;have e2:=sY (Ym b) s;have hz:=(sX h1 s (by rw[e1.1];exact hd)).2;have S6:TN x0 s (Ym b) w=some ({(Xw b s).2 with now:=b.now+1},{w with C0:=(Xw b s).1}):=by
  unfold TN TM Xw;have I7:=Y15 h2;have hgd:=(Z8d h2).1;rw[Y2z h1 hs (by rw[e1.2.2.1];exact hp),Ag,I7,Ag];have JY:=UP h2;rw[hgd,e2.1,e1.2.2.2.1,Yj (by omega) (by omega)];unfold Kk;rcases JY.Ah with hw|hw
  .rw[Aj (show (Qg (Qj (Ym b) s)).1 < 0 by rw[hw];decide)]
   have:(Qg (Qj (Ym b) s)).2.2.addr.live=false:=by rw[JY.addr,hz]
   rw[Ak (by simp[this])];rw[show (-1,(Qg (Qj (Ym b) s)).2.2).1=w.C0 from hg.symm]
  .have FA:=X5 hw.1
   rw[Ak (show ¬(Qg (Qj (Ym b) s)).1 < 0 by omega),Aj (by rfl)];rfl
 have hh:=tD h;have Z7:b.Af≥0↔b.Af≠-1:=by
  rcases hh with hh|hh
  .omega
  .have:=X5 hh;omega
 have hJ7:Oz x0 s b w false=TN x0 s b w:=by unfold Oz;rw[Ak (by simp)]
 by_cases e:b.Af=-1
 .have hb:Ym b=b:=by unfold Ym;rw[Ak (λhx:b.Af≠-1/\b.held=b.Ad.Am=>hx.1 e)]
  rw[Ak (by simp;omega),hJ7]
  rwa [hb] at S6
 .rw[Aj (by simpa using Z7.2 e)]
  have hhe:=(H3 h e).2.2.2;by_cases e2:b.held=b.Ad.Am
  .have hb:Ym b=Y1u {b with m:=b.m.set b.Af.toNat {Ai b.m b.Af with broken:=true}}:=by unfold Ym;rw[Aj ⟨e,e2⟩]
   unfold Oz;rw[decide_eq_true (show b.held≥b.Ad.Am by omega),Aj rfl,Wv h.ml (H3 h e).1,Ag,Qm,Ag];rw[hb] at S6;exact S6
  .have hb:Ym b=b:=by unfold Ym;rw[Ak (λhx:b.Af≠-1/\b.held=b.Ad.Am=>e2 hx.2)]
   rw[decide_eq_false (show ¬b.held≥b.Ad.Am by omega),hJ7]
   rwa [hb] at S6
theorem Xbb (x0:Za) (w:Zp) (h:Y0 b.now b) (hs:s.sm) (hw:w.ready=true) (hg:w.Ap=0) (hp:0<=b.At/\b.At<=4000) (hn:0<=b.now/\b.now < 4000):
  OC x0 s b w=some (if (Z0 b s).2.1=true then ({w with Ap:=(Z0 b s).2.2,C0:=(Xw (Z0 b s).1 s).1},{(Xw (Z0 b s).1 s).2 with now:=b.now+1}) else ({w with ready:=false,Ap:=(Z0 b s).2.2},{(Z0 b s).1 with now:=b.now+1})):=by
 have hf:=sT s hn.1 h;have CK:=Z82 b s;obtain⟨w1,w2,w3,w4,w5,w6,rdy,rsp,w9⟩:=w;simp only at hw hg;subst hw;subst hg;unfold OC;rw[Yzn (Zp.mk w1 w2 w3 w4 w5 w6 true 0 w9) h hs (by omega),Ag];simp only;have eU:(if b.Aa.live=true/\¬b.Aa.left > 0 then Zp.mk w1 w2 w3 w4 w5 w6 true b.Aa.Ap w9 else Zp.mk w1 w2 w3 w4 w5 w6 true 0 w9)=Zp.mk w1 w2 w3 w4 w5 w6 true (Z0 b s).2.2 w9:=by
  unfold Z0;by_cases hd:b.Aa.live=true
  .by_cases hl:b.Aa.left > 0
   .rw[Ak (λhx:b.Aa.live=true/\¬b.Aa.left > 0=>hx.2 hl),Ak (by simp[hd]),Aj hl]
   .rw[Aj ⟨hd,hl⟩,Ak (by simp[hd]),Ak hl]
    congr 1
    split
    .rfl
    .split
     .rfl
     .split<;>rfl
  .rw[Ak (λhx:b.Aa.live=true/\¬b.Aa.left > 0=>hd hx.1),Aj (by simpa using hd)]
 rw[eU];by_cases hr:(Z0 b s).2.1=true
 .rw[Aj hr,Aj hr]
  simp only[hr];have:=Ytc x0 (Zp.mk w1 w2 w3 w4 w5 w6 true (Z0 b s).2.2 w9) hf.1 hs (hf.2 hr) (by rw[CK.2.1];exact hp) (by rw[CK.1];omega);rw[CK.1] at this;exact this
 .rw[Ak hr,Ak hr]
  unfold bZ;have C6:(Z0 b s).2.1=false:=by simpa using hr
  rw[C6,CK.1,Yj (by omega) (by omega)]
theorem Xbl (x0:Za) (w:Zp) (h:Y0 b.now b) (hs:s.sm) (hw:w.ready=true) (hg:w.Ap=0) (eV:w.C0=-1) (hp:0<=b.At/\b.At<=4000) (hn:0<=b.now/\b.now < 4000):
  O1 x0 s b w=some (if (Z0 b s).2.1=true then ({(Xw (Z0 b s).1 s).2 with now:=b.now+1},{w with Ap:=(Z0 b s).2.2,C0:=(Xw (Z0 b s).1 s).1}) else ({(Z0 b s).1 with now:=b.now+1},{w with ready:=false,Ap:=(Z0 b s).2.2})):=by
 have hf:=sT s hn.1 h;have CK:=Z82 b s;have G8:=(W7 h.Ad).2.1;obtain⟨w1,w2,w3,w4,w5,w6,rdy,rsp,w9⟩:=w;simp only at hw hg eV;subst hw;subst hg;subst eV;have hT:∀w2:Zp,w2.ready=true->w2.C0=-1->(Z0 b s).2.1=true->Kw x0 s (Z0 b s).1 w2=some ({(Xw (Z0 b s).1 s).2 with now:=b.now+1},{w2 with C0:=(Xw (Z0 b s).1 s).1}):=by
  intro w2 h1 h2 hr;unfold Kw;rw[Aj h1];have:=Yts x0 w2 hf.1 hs (hf.2 hr) (by rw[CK.2.1];exact hp) (by rw[CK.1];omega) h2;rw[CK.1] at this;exact this
 have hF:∀(c:Za) (w2:Zp),w2.ready=false->c.now=b.now->Kw x0 s c w2=some ({c with now:=b.now+1},w2):=by
  intro c w2 h1 h2;unfold Kw TM;rw[Ak (by simp[h1]),h2,Yj (by omega) (by omega)]
 unfold O1 mV;by_cases hd:b.Aa.live=true
 .have CQ:=h.data
  unfold Kz at CQ;rw[Aj hd] at CQ;rw[Aj hd];by_cases hl:b.Aa.left > 0
  .have e:Z0 b s=({b with Aa:={b.Aa with left:=b.Aa.left - 1}},false,0):=by
    unfold Z0;rw[Ak (by simp[hd]),Aj hl]
   rw[decide_eq_true hl,Aj rfl,Xc (by omega) (by omega),hF {b with Aa:={b.Aa with left:=b.Aa.left - 1}} (Zp.mk w1 w2 w3 w4 w5 w6 false 0 (-1)) rfl rfl,e,Ak (by simp)]
  .rw[decide_eq_false hl,Ak (by simp),Aj hd]
   have Y4k:¬(b.Aa.Ap≠0/\b.Aa.second=false)->O0 x0 s b (Zp.mk w1 w2 w3 w4 w5 w6 true 0 (-1)) false=some (if (Z0 b s).2.1=true then ({(Xw (Z0 b s).1 s).2 with now:=b.now+1},Zp.mk w1 w2 w3 w4 w5 w6 true (Z0 b s).2.2 (Xw (Z0 b s).1 s).1) else ({(Z0 b s).1 with now:=b.now+1},Zp.mk w1 w2 w3 w4 w5 w6 false (Z0 b s).2.2 (-1))):=by
    intro PZ;unfold O0;rw[Ak (by simp),Aj hd,Yxm h hs (by omega) hd hl PZ,Ag];have hr:(Z0 b s).2.1=true/\(Z0 b s).2.2=b.Aa.Ap:=by
     unfold Z0;rw[Ak (by simp[hd]),Ak hl,Ak PZ];split
     .exact⟨rfl,rfl⟩
     .split<;>exact⟨rfl,rfl⟩
    rw[Aj hr.1,hr.2];exact hT _ rfl rfl hr.1
   by_cases h2:b.Aa.Ap≠0
   .rw[Aj (decide_eq_true h2)]
    by_cases h3:b.Aa.second=false
    .rw[h3]
     have e:Z0 b s=(if b.addr.live then {X4 {b with Aa:={b.Aa with second:=true}} b.addr with addr:=Zh.z0} else {b with Aa:={b.Aa with second:=true}},false,b.Aa.Ap):=by
      unfold Z0;rw[Ak (by simp[hd]),Ak hl,Aj ⟨h2,h3⟩]
     have hq:∀(x y:Option (Za×Zp)),(if (Z0 b s).2.1=true then x else y)=y:=by
      intro x y;rw[e];exact Ak (by simp)
     have EI:(some (if (Z0 b s).2.1=true then ({(Xw (Z0 b s).1 s).2 with now:=b.now+1},Zp.mk w1 w2 w3 w4 w5 w6 true (Z0 b s).2.2 (Xw (Z0 b s).1 s).1) else ({(Z0 b s).1 with now:=b.now+1},Zp.mk w1 w2 w3 w4 w5 w6 false (Z0 b s).2.2 (-1))))=some ({(Z0 b s).1 with now:=b.now+1},Zp.mk w1 w2 w3 w4 w5 w6 false b.Aa.Ap (-1)):=by
      rw[show (Z0 b s).2.2=b.Aa.Ap by rw[e]];exact congrArg some (Ak (by rw[e];simp))
     refine G1 ?_ EI.symm;unfold O0;rw[Aj (by rfl),show (Z0 b s).1=(if b.addr.live then {X4 {b with Aa:={b.Aa with second:=true}} b.addr with addr:=Zh.z0} else {b with Aa:={b.Aa with second:=true}}) by rw[e]];by_cases ha:b.addr.live=true
     .rw[Aj ha,Aj ha]
      have FB:=GV h ha;rw[Z6p (b:={b with addr:=Zh.z0,Aa:={b.Aa with second:=true}}) b.addr h.Ad FB h.ml h.bl (h.Bx _ FB).right h.Bq,Ag];have er:X4 {b with addr:=Zh.z0,Aa:={b.Aa with second:=true}} b.addr={X4 {b with Aa:={b.Aa with second:=true}} b.addr with addr:=Zh.z0}:=by
       unfold X4;split
       .rfl
       .split<;>rfl
      rw[er];exact hF _ _ rfl (s7 _ _).1
     .rw[Ak ha,Ak ha]
      exact hF _ _ rfl rfl
    .have h4:b.Aa.second=true:=by simpa using h3
     rw[h4,Du];exact Y4k λhx=>h3 hx.2
   .rw[Ak (by simpa using h2)]
    exact Y4k λhx=>h2 hx.1
 .have GM:b.Aa.live=false:=by simpa using hd
  have e:Z0 b s=(b,true,0):=by unfold Z0;rw[Aj GM]
  rw[Ak hd,Ak (by simp),Ak hd];unfold O0;have:=hT (Zp.mk w1 w2 w3 w4 w5 w6 true 0 (-1)) rfl rfl (by rw[e]);rw[e] at this ⊢;rw[Ak (by simp),Ak hd,Aj rfl];simp only at this ⊢;rw[this]
theorem Xbm (x0:Za) (w:Zp) (h:Y0 b.now b) (hs:s.sm) (hw:w.ready=true) (hg:w.Ap=0) (hp:0<=b.At/\b.At<=4000) (hn:0<=b.now/\b.now < 4000):
  RR x0 s FU b w (b.splits.length:Int) 0=OC x0 s (Qv (Xa b)) w:=by
 have Yo:=Kq h.Ad;have Hm:=h.sl;rw[Hm];have:=K8 (σ:=Za×Zp×Int) (n:=b.Ad.Ab.length) (by omega) (λk=>(GW b k,w,(b.Ad.Ab.length:Int))) (B:=λκ st i=>qH x0 s (λa b c i=>κ (a,b,c) i) st.1 st.2.1 st.2.2 i) (L:=λm st i=>RR x0 s m st.1 st.2.1 st.2.2 i) (λm s i=>rfl) (r:=OC x0 s (Qv (Xa b)) w) (λk hk κ=>?_) λκ=>?_
 .simp only[Y0n] at this
  exact this
 .have CX:=FT (c:=b.Ad) hk
  obtain⟨t1,t2,t3,t4⟩:=Ykr h hk;have JV:=(h.Bx _ CX).split;have S3:=(W7 h.Ad).2.2.2;unfold qH;simp only;rw[Aj (by simpa using hk),t1,Ag,Qm,Ag,t3,Ag,show (GW b k).Ad=b.Ad from rfl,OQ CX,Ag,Yk8 _ (JN h.Ad CX),Ag,Qm,Ag,Xc (by omega) (by omega),Nf,N5,t2,t4];rfl
 .have hto:=Z9t h
  unfold qH;simp only[Ypu h];rw[Ak (by simp)];unfold Qv;by_cases e:b.Af=-1
  .rw[Ak (by simp[Xa,e]),Aj (show (Xa b).Af=-1 from e)]
  .have hh:=(H3 hto (show (Xa b).Af≠-1 from e)).2.2.2
   have hl:=(W7 h.Ad).2.2.1;have h3:(Xa b).Ad.Am=b.Ad.Am:=rfl;rw[Aj (by simp[Xa,e]),Ak (show ¬(Xa b).Af=-1 from e),Yj (by omega) (by omega),Gp]
theorem Xbn (x0:Za) (w:Zp) (h:Y0 b.now b) (hs:s.sm):R0 x0 s FU b w 0=O1 x0 s (Qv (Xa b)) w:=by
 have Yo:=Kq h.Ad;have CG:=h.ml;have:=K8 (σ:=Za×Zp) (n:=b.Ad.Ab.length) (by omega) (λk=>(GW b k,w)) (B:=λκ st i=>mX x0 s (λa b i=>κ (a,b) i) st.1 st.2 i) (L:=λm st i=>R0 x0 s m st.1 st.2 i) (λm s i=>rfl) (r:=O1 x0 s (Qv (Xa b)) w) (λk hk κ=>?_) λκ=>?_
 .simp only[Y0n] at this
  exact this
 .have CX:=FT (c:=b.Ad) hk
  obtain⟨t1,t2,t3,t4⟩:=Ykr h hk;have JV:=(h.Bx _ CX).split;have S3:=(W7 h.Ad).2.2.2;unfold mX;simp only;rw[Aj (by show decide ((k:Int) < (b.m.length:Int))=true;rw[CG];simpa using hk),t1,Ag,Qm,Ag,t3,Ag,show (GW b k).Ad=b.Ad from rfl,OQ CX,Ag,Yjw _ (JN h.Ad CX),Ag,Qm,Ag,Xc (by omega) (by omega),Nf,Int.max_comm,N5,t2,t4];rfl
 .have hto:=Z9t h
  have hh:=tD h;unfold mX;simp only[Ypu h];rw[Ak (by show ¬decide ((b.Ad.Ab.length:Int) < (b.m.length:Int))=true;rw[CG];simp)];unfold Qv;by_cases e:b.Af=-1
  .rw[Ak (by show ¬decide (b.Af≥0)=true;rw[e];simp),Aj (show (Xa b).Af=-1 from e)]
  .have hh2:=(H3 hto (show (Xa b).Af≠-1 from e)).2.2.2
   have hl:=(W7 h.Ad).2.2.1;have h3:(Xa b).Ad.Am=b.Ad.Am:=rfl;have FA:=X5 (H3 h e).1;rw[Aj (by show decide (b.Af≥0)=true;simpa using FA.1),Ak (show ¬(Xa b).Af=-1 from e),Yj (by omega) (by omega),Gp,Vy]
theorem Yy7 (h:Y0 n b):RS b s=b7 b s (F9 b):=by
 unfold RS b8 F9;by_cases ha:b.addr.live=true
 .have FB:=GV h ha
  by_cases hd:b.Aa.live=true
  .have H4:=Ko h hd
   simp only[ha,hd,if_true,Wv h.ml FB,Wv h.ml H4,Ag,Sk _ (h.Bx _ FB).right,Sk _ (h.Bx _ H4).right];by_cases hf:b.addr.first=true<;>simp[hf]
  .have GM:b.Aa.live=false:=by simpa using hd
   simp only[ha,GM,if_true,Bn,if_false,Wv h.ml FB,Ag,Sk _ (h.Bx _ FB).right];by_cases hf:b.addr.first=true<;>simp[hf]
 .have DM:b.addr.live=false:=by simpa using ha
  by_cases hd:b.Aa.live=true
  .have H4:=Ko h hd
   simp only[DM,hd,if_true,Bn,if_false,Wv h.ml H4,Ag,Sk _ (h.Bx _ H4).right]
  .have GM:b.Aa.live=false:=by simpa using hd
   simp only[DM,GM,if_true,Bn,if_false]
theorem Y56 (h:Y0 n b):lH b=some (F9 b):=by
 unfold lH ZR F9;by_cases ha:b.addr.live=true
 .have FB:=GV h ha
  by_cases hd:b.Aa.live=true
  .have H4:=Ko h hd
   simp only[ha,hd,if_true,Wv h.ml FB,Wv h.ml H4,Ag,UG _ (h.Bx _ FB).right,UG _ (h.Bx _ H4).right];by_cases hf:b.addr.first=true<;>simp[hf]
  .have GM:b.Aa.live=false:=by simpa using hd
   simp only[ha,GM,if_true,Bn,if_false,Wv h.ml FB,Ag,UG _ (h.Bx _ FB).right];by_cases hf:b.addr.first=true<;>simp[hf]
 .have DM:b.addr.live=false:=by simpa using ha
  by_cases hd:b.Aa.live=true
  .have H4:=Ko h hd
   simp only[DM,hd,if_true,Bn,if_false,Wv h.ml H4,Ag,UG _ (h.Bx _ H4).right]
  .have GM:b.Aa.live=false:=by simpa using hd
   simp only[DM,GM,if_true,Bn,if_false]
theorem Xbc (x0:Za) (w:Zp) (h:Y0 n b) (ps:List Zo) (Tr:ps.length < 1048577/\∀p∈ps,p.Bm.sm):b6 x0 s FU b w ps (ps.length:Int) 0=RR x0 s FU (Wa b ps) w ((Wa b ps).splits.length:Int) 0:=by
 have Z7:=Gq h.Ad;have:=K8 (σ:=Za×Zp×List Zo×Int) (n:=ps.length) (by omega) (λk=>(Wa b (ps.take k),w,ps,(ps.length:Int))) (B:=λκ st i=>qI x0 s (λa b c d i=>κ (a,b,c,d) i) st.1 st.2.1 st.2.2.1 st.2.2.2 i) (L:=λm st i=>b6 x0 s m st.1 st.2.1 st.2.2.1 st.2.2.2 i) (λm s i=>rfl) (r:=RR x0 s FU (Wa b ps) w ((Wa b ps).splits.length:Int) 0) (λk hk κ=>?_) λκ=>?_
 .exact this
 .have hI:=eH h (ps.take k)
  have hc:=(eI b (ps.take k)).1;rw[Yco b ps k hk];generalize Wa b (ps.take k)=c at hI hc ⊢;unfold qI Q2;simp only;rw[Aj (by simpa using hk),Zx hk,Ag,LC _ _ (by rw[hc];exact Z7),Ag];by_cases e:Zm c.Ad ps[k].Ah=true
  .obtain⟨ok,hp⟩:=Ys2 (r:=ps[k].Bm) (hI.Bx _ e).right (Tr.2 _ (B5 hk))
   rw[Aj e,Aj e,Wv hI.ml e,Ag,hp,Ag,Qm,Ag]
  .rw[Ak e,Ak e]
 .unfold qI
  simp only;rw[Ak (by simp),Fb]
theorem Xam (x0:Za) (w:Zp) (h:Y0 n b) (ps:List Zo) (Tr:ps.length < 1048577/\∀p∈ps,p.Bm.sm):aH x0 s FU b w ps 0=R0 x0 s FU (Wa b ps) w 0:=by
 have Z7:=Gq h.Ad;have:=K8 (σ:=Za×Zp×List Zo) (n:=ps.length) (by omega) (λk=>(Wa b (ps.take k),w,ps)) (B:=λκ st i=>mY x0 s (λa b c i=>κ (a,b,c) i) st.1 st.2.1 st.2.2 i) (L:=λm st i=>aH x0 s m st.1 st.2.1 st.2.2 i) (λm s i=>rfl) (r:=R0 x0 s FU (Wa b ps) w 0) (λk hk κ=>?_) λκ=>?_
 .exact this
 .have hI:=eH h (ps.take k)
  have hc:=(eI b (ps.take k)).1;rw[Yco b ps k hk];generalize Wa b (ps.take k)=c at hI hc ⊢;unfold mY Q2;simp only;rw[Aj (by simpa using hk),Zx hk,Ag,eC hI.ml (by rw[hc];exact Z7),Ag];by_cases e:Zm c.Ad ps[k].Ah=true
  .obtain⟨ok,hp⟩:=Yua (r:=ps[k].Bm) (hI.Bx _ e).right (Tr.2 _ (B5 hk))
   rw[Aj e,Aj e,Wv hI.ml e,Ag,hp,Ag,Qm,Ag]
  .rw[Ak e,Ak e]
 .unfold mY
  simp only;rw[Ak (by simp),Fb]
end
theorem Yeb {b:Za} {s:Zb} (h:CP b) (hs:s.sm) (hn:b.now < 4000):RS b s=some ((J9 b s).2,(J9 b s).1):=by
 have hP:=eH h.i (DS s b.now);have hc:=eI b (DS s b.now);have hp:=h.At;have PN:=h.now;have hO:=sZ h s;have eO:=eN b s;rw[Yy7 h.i];unfold b7;rw[Yt5 _ _ hs,Ag,Xbc b (F9 b) h.i _ (Yr9 hs _)];have hP2:Y0 (Wa b (DS s b.now)).now (Wa b (DS s b.now)):=by rw[hc.2.1];exact hP
 rw[Xbm b (F9 b) hP2 hs rfl rfl (by rw[hc.2.2.1];omega) (by rw[hc.2.1];omega)];have PC:Y0 (Xq b s).now (Xq b s):=by rw[eO.1];exact hO
 show OC b s (Xq b s) (F9 b)=_;rw[Xbb b (F9 b) PC hs rfl rfl (by rw[eO.2.2.1];omega) (by rw[eO.1];omega),eO.1];unfold J9;split<;>rfl
theorem Yb4 {b:Za} {s:Zb} (h:CP b) (hs:s.sm) (hn:b.now < 4000):aI b s=some ((J9 b s).1,(J9 b s).2):=by
 have hP:=eH h.i (DS s b.now);have hc:=eI b (DS s b.now);have hp:=h.At;have PN:=h.now;have hO:=sZ h s;have eO:=eN b s;unfold aI;rw[tB b h.sm,Ag,Y56 h.i,Ag,Ytx _ _ hs,Ag,Xam b (F9 b) h.i _ (Yr9 hs _)];have hP2:Y0 (Wa b (DS s b.now)).now (Wa b (DS s b.now)):=by rw[hc.2.1];exact hP
 rw[Xbn b (F9 b) hP2 hs];have PC:Y0 (Xq b s).now (Xq b s):=by rw[eO.1];exact hO
 show O1 b s (Xq b s) (F9 b)=_;rw[Xbl b (F9 b) PC hs rfl rfl rfl (by rw[eO.2.2.1];omega) (by rw[eO.1];omega),eO.1];unfold J9;split<;>rfl
def okB (b:Za):Bool:=(Lx b).getD false
theorem tE {b:Za} (hs:b.sm):okB b=true↔CP b:=by
 obtain⟨r,-,h2,h3⟩:=Yi1 b hs;unfold okB;rw[h2];exact h3
theorem eW {b:Za} (hs:b.sm):Ur b=some (okB b):=by
 obtain⟨r,h1,h2,h3⟩:=Yi1 b hs;unfold okB;rw[h1,h2];rfl
theorem Y3p {b:Za} (hs:b.sm):Lx b=some (okB b):=by
 obtain⟨r,h1,h2,h3⟩:=Yi1 b hs;unfold okB;rw[h2];rfl
def Yu5 (b:Za) (s:Zb):Za×Zp:=if okB b=true/\b.now≠4000 then J9 b s else (b,Zp.z0)
def Wf (c:Zi):Za:={Za.z0 with Ad:=c,m:=List.replicate c.Ab.length Zg.z0,buckets:=c.Ab.map LD,splits:=List.replicate c.Ab.length 0,Af:=-1,last:=-1,model:=Zf.mk (List.replicate 192 0) (Zl.mk (List.replicate 4 0) 0 [])}
def S7 (c:Zi):Za×Bool:=if Ys c=true then (Wf c,true) else (Za.z0,false)
theorem Yx8:zM=some (Zl.mk (List.replicate 4 0) 0 []):=rfl
theorem Ya3:ZA=some (Zf.mk (List.replicate 192 0) (Zl.mk (List.replicate 4 0) 0 [])):=by
 unfold ZA;rw[show (192:Int)=((192:Nat):Int) from rfl,Yue (by decide) (by decide),Ag,Yx8];rfl
theorem Yat:bD=some (Zf.mk (List.replicate 192 0) (Zl.mk (List.replicate 4 0) 0 [])):=by
 unfold bD
 first
 | rfl
 | (rw[show (192:Int)=((192:Nat):Int) from rfl,Yue (by decide) (by decide),Ag];rfl)
def DT (c:Zi) (k:Nat):Za:={Wf c with m:=List.replicate k Zg.z0,buckets:=(c.Ab.take k).map LD,splits:=List.replicate k 0}
theorem Yoy (c:Zi) {k:Nat} (hk:k < c.Ab.length):DT c (k+1)={DT c k with m:=(DT c k).m++[Zg.z0],buckets:=(DT c k).buckets++[LD c.Ab[k]],splits:=(DT c k).splits++[0]}:=by
 unfold DT;simp only[List.replicate_succ'];rw[List.take_succ_eq_append_getElem hk,G0];rfl
theorem Yvu (c:Zi):DT c c.Ab.length=Wf c:=by
 unfold DT;rw[Fb];rfl
theorem Yg8 (c:Zi) (hl:c.Ab.length < 1048577):bE c=some (S7 c):=by
 unfold bE S7;rw[U8 c hl,Ag];by_cases h:Ys c=true
 .rw[h,Ak (by simp),(tA c hl).1,Ag,Yat,Ag,Aj rfl]
  rw[<-Yvu c];refine K8 (σ:=Za) (n:=c.Ab.length) (by omega) (DT c) (B:=oM c) (L:=oN c) (λm s i=>rfl) (λk hk κ=>?_) λκ=>?_
  .unfold oM
   have e1:(DT c k).m.length=k:=by simp[DT]
   have e2:(DT c k).buckets.length=k:=by simp[DT];omega
   have e3:(DT c k).splits.length=k:=by simp[DT]
   rw[Aj (by simpa using hk),Zx hk,Ag,Yp (by simp only[AU,Bo];omega) (by simp only[AU,Bo];omega),Ag,Yoo,Ag,Yp (by simp only[AU,Bo];omega) (by simp only[AU,Bo];omega),Ag,Yp (by simp only[AU,Bo];omega) (by simp only[AU,Bo];omega),Ag,Yoy c hk]
  .unfold oM
   rw[Ak (by simp)]
 .simp[h]
theorem Yw7 (c:Zi) (hl:c.Ab.length < 1048577):Rp c=some (S7 c):=by
 unfold Rp S7;rw[Se c hl,Ag];by_cases h:Ys c=true
 .rw[h,Ak (by simp),(tA c hl).2,Ag,Ya3,Ag,Aj rfl]
  rw[<-Yvu c];refine K8 (σ:=Za) (n:=c.Ab.length) (by omega) (DT c) (B:=kL c) (L:=kM c) (λm s i=>rfl) (λk hk κ=>?_) λκ=>?_
  .unfold kL
   have e1:(DT c k).m.length=k:=by simp[DT]
   have e2:(DT c k).buckets.length=k:=by simp[DT];omega
   have e3:(DT c k).splits.length=k:=by simp[DT]
   rw[Aj (by simpa using hk),Yp (by simp only[AU,Bo];omega) (by simp only[AU,Bo];omega),Ag,Zx hk,Ag,Yn6,Ag,Yp (by simp only[AU,Bo];omega) (by simp only[AU,Bo];omega),Ag,Yp (by simp only[AU,Bo];omega) (by simp only[AU,Bo];omega),Ag,Yoy c hk]
  .unfold kL
   rw[Ak (by simp)]
 .simp[h]
theorem Y9f (c:Zi) (i:Int):Jw (Wf c) i=0:=rfl
theorem tF (c:Zi) {i:Int} (h:Zm c i=true):Ai (Wf c).m i=Zg.z0:=by
 obtain⟨k,rfl,hk⟩:=dV h;have GP:k < (Wf c).m.length:=by simpa [Wf] using hk
 rw[Qk GP];simp[Wf]
theorem Y8l:Yy Zg.z0:=⟨by decide,by decide,λr hr=>absurd hr (by simp[Zg.z0]),λ_=>⟨rfl,rfl,rfl,rfl,rfl⟩,λh=>absurd rfl h⟩
theorem UR:Ef (Zf.mk (List.replicate 192 0) (Zl.mk (List.replicate 4 0) 0 [])):=⟨gI,by show (List.replicate 192 (0:Int)).all DP=true;rw[List.all_replicate];rfl,⟨rfl,by show ∀v∈List.replicate 4 (0:Int),Y8 v 2=true;decide,by show Y8 0 2=true;decide,by show 0<=4;decide,λv hv=>absurd hv (by show ¬v∈([]:List Int);simp)⟩⟩
theorem Y6t {c:Zi} (h:Ys c=true):CP (Wf c):=by
 have hl:=Kq h;have Dn:Zm c 0=true:=by simp only[Zm,Bj];omega
 have Hm:0 < Jf c:=by
  have:=dF c;simp only[Ys,Bg,Bj] at h;omega
 have G8:=W7 h;have e0:(0:Int)<=0:=LY 0;refine⟨h,⟨e0,by show (0:Int)<=4000;omega⟩,by simp[Wf],by simp[Wf],by simp[Wf],λi hi=>⟨by rw[tF c hi];exact Y8l,?_,?_,?_⟩,?_,.inl rfl,?_,⟨e0,e0⟩,λhx=>absurd hx (by simp[Wf,Za.z0,Zh.z0]),λhx=>absurd hx (by simp[Wf,Za.z0,Zh.z0]),λi hi=>?_,?_,?_,⟨λi hi hb=>?_,?_⟩,λd hd=>absurd hd (by simp[Wf,Za.z0]),?_⟩
 .rw[tF c hi]
  show (0:Int)<=c.Ao;exact G8.1.1
 .obtain⟨k,rfl,hk⟩:=dV hi
  have GP:k < (Wf c).buckets.length:=by simpa [Wf] using hk
  have hk:k < c.Ab.length:=hk;have hm:=JN h hi;show Y1 (Ai (Wf c).buckets k) (Ai c.Ab k)=true;rw[Qk hk] at hm ⊢;rw[Qk GP];have:(Wf c).buckets[k]=LD c.Ab[k]:=by simp[Wf]
  rw[this];exact Xby hm ⟨Hm,λhp=>List.countP_pos_iff.2 ⟨_,B5 hk,hp⟩⟩
 .obtain⟨k,rfl,hk⟩:=dV hi
  have GP:k < (Wf c).splits.length:=by simpa [Wf] using hk
  rw[Qk GP];have:(Wf c).splits[k]=0:=by simp[Wf]
  rw[this];exact⟨e0,by show (0:Int)<=c.Ar;omega⟩
 .show CF Ya.z0 c=true
  unfold CF;have:=U9 c 0;simp[h,Dn,Ya.z0,this.1]
 .exact UR
 .rw[tF c hi,Y9f];rfl
 .unfold Jr
  rw[Ak (by simp[Wf,Za.z0,Zh.z0])];rfl
 .unfold Kz
  rw[Ak (by simp[Wf,Za.z0,Zh.z0])];rfl
 .rw[tF c hi] at hb
  exact absurd hb (by decide)
 .show if (-1:Int)=-1 then (0:Int)=0 else _
  rw[Aj rfl]
 .exact List.Pairwise.nil
def ER (b:Za):Bool:=b.m.all λm=>decide (m.queue=[])
def Y3d (b:Za):Bool:=okB b&&ER b
theorem Yf7 {b:Za} (hl:b.m.length < 1048577):cH b=some (ER b):=by
 unfold cH Q9 Kr;have e:∀a:Zg,cG a=some (!decide (a.queue=[])):=by
  intro a;unfold cG;by_cases h:a.queue=[]
  .simp[h]
  .have:=Cw.2 h
   simp only[h,decide_false,FF];exact congrArg some (decide_eq_true (by omega))
 rcases Z9a b.m (by omega) cG (λm=>decide (m.queue=[])) (λa _=>e a) (Wm b.m) (λm i=>rfl) with⟨h1,h2⟩|⟨k,hk,h2,h3,-⟩
 .rw[h2]
  unfold ER;rw[h1];rfl
 .rw[h2]
  have:ER b=false:=by
   unfold ER;rw[List.all_eq_false];exact⟨_,B5 hk,by rw[h3];simp⟩
  rw[this];simp
theorem Yvc {α U:Type} (xs:List α) (hl:xs.length < 4611686018427387904) (c:α->Bool) {no:Option U} (fin:Option U) (L:Nat->Int->Option U)
  (hL:∀m i,L (m+1) i=if decide (i < (xs.length:Int))=true then (idx xs i).bind λa=>if c a=true then no else L m (Zn i 1) else fin):L FU 0=if xs.any c=true then no else fin:=by
 have key:∀(m k:Nat),k<=xs.length->xs.length - k < m->L m (k:Int)=if (xs.drop k).any c=true then no else fin:=by
  intro m
  induction m with
  | zero=>intro k _ h;omega
  | succ m ih=>
   intro k hk hm;rw[hL];by_cases hc:k < xs.length
   .rw[Aj (by simpa using hc),Zx hc,Ag,Ye (by omega),ih (k+1) (by omega) (by omega),D5 hc,N8]
    by_cases h:c xs[k]=true
    .simp[h]
    .simp[h]
   .rw[Ak (by simpa using hc),Vl (by omega)]
    simp
 have:=key FU 0 (Cf _) (by have:=Y5;omega);simpa using this
theorem Ypm (b:Za):(b.m.any λa=>decide ((a.queue.length:Int) > 0))=!ER b:=by
 unfold ER;rw[List.not_all_eq_any_not]
 congr 1
 funext a
 by_cases h:a.queue=[]
 .simp[h]
 .have:=Cw.2 h
  simp only[h,decide_false,FF];exact decide_eq_true (by omega)
theorem Ys6 {b:Za} (hs:b.sm):Z52 b=some (Y3d b):=by
 unfold Z52;have hl:=hs.ml;rw[Yvc b.m (by omega) (λa=>decide ((a.queue.length:Int) > 0)) ((Lx b).bind λr601=>some r601) (Zur b) (λm i=>rfl),Ypm,Y3p hs];unfold Y3d;cases ER b<;>simp
theorem Y0f {a n:Int} (h0:0<=a) (hn:0 < n):0<=K0 a n/\K0 a n < n:=by
 unfold K0;rw[Vd3 h0];exact⟨Te _ (by omega),Tb _ hn⟩
theorem eX {y:Int} (h:(Lit.int .u8 y).wf=true):0<=y/\y<=255:=by
 simp[Lit.wf,IntKind.min,IntKind.max,IntKind.signed,IntKind.bits] at h;omega
theorem Bool.S8 {b:Bool} (h:¬b=true):b=false:=by simpa using h
def LM (x:Zh):Bool:=!x.live||(decide (x.left<=0)&&(decide (x.Ap=0)||x.second))
def eY (x:Zh):Int:=if x.live=true/\x.left<=0 then x.Ap else 0
theorem Yl7 (b:Za) (s:Zb):(Z0 b s).2.1=LM b.Aa/\(Z0 b s).2.2=eY b.Aa:=by
 unfold Z0 LM eY;by_cases hd:b.Aa.live=false
 .rw[Aj hd];simp[hd]
 .have GM:b.Aa.live=true:=by simpa using hd
  rw[Ak hd,GM];by_cases hl:b.Aa.left > 0
  .rw[Aj hl,Ak (by omega)]
   simp;omega
  .rw[Ak hl,Aj (show true=true/\b.Aa.left<=0 from⟨rfl,by omega⟩)]
   have CI:b.Aa.left<=0:=by omega
   by_cases hs:b.Aa.Ap≠0/\b.Aa.second=false
   .rw[Aj hs]
    simp[hs.1,hs.2]
   .rw[Ak hs]
    have:(decide (b.Aa.Ap=0)||b.Aa.second)=true:=by
     by_cases h0:b.Aa.Ap=0
     .simp[h0]
     .have:¬b.Aa.second=false:=λh=>hs ⟨h0,h⟩
      simpa [h0] using this
    rw[this];simp only[CI,decide_true,KK,Du,Vw]
    repeat' split
    all_goals exact⟨rfl,rfl⟩
theorem Xar (b:Za) (s:Zb):J9 b s=if LM b.Aa=true then
  ({(Xw (Z0 (Xq b s) s).1 s).2 with now:=b.now+1},{F9 b with Ap:=eY b.Aa,C0:=(Xw (Z0 (Xq b s) s).1 s).1})
 else ({(Z0 (Xq b s) s).1 with now:=b.now+1},{F9 b with ready:=false,Ap:=eY b.Aa}):=by
 unfold J9;have h:=Yl7 (Xq b s) s;have e:=eN b s;rw[e.2.2.2.2.2.2.1] at h;rw[h.1,h.2]
structure Y0g (b:Za) (r:Int×Za):Prop where
 splits:r.2.splits=b.splits
 C0:r.1=-1\/(Zm b.Ad r.1=true/\Ai b.splits r.1=0/\(r.2.Af=r.1\/r.2.Af=-1))
 some:r.1=-1\/(Ai b.m r.1).queue≠[]
 held:r.2.Af=-1\/r.2.held < b.Ad.Am
theorem Y13 (b:Za):(Ym b).splits=b.splits/\(Ym b).Ad=b.Ad/\((Ym b).Af=-1\/((Ym b).Af=b.Af/\(Ym b).held=b.held/\b.held≠b.Ad.Am)):=by
 unfold Ym;split
 .exact⟨rfl,rfl,.inl rfl⟩
 .rename_i h
  refine⟨rfl,rfl,?_⟩;by_cases h1:b.Af=-1
  .exact .inl h1
  .exact .inr ⟨rfl,rfl,λh2=>h ⟨h1,h2⟩⟩
theorem Y10 (b:Za) (s:Zb):(Qj b s).held=b.held:=by
 unfold Qj;split<;>rfl
theorem Y2p {n:Int} {b:Za} (h:Y0 n b) (hh:b.Af=-1\/b.held < b.Ad.Am):Y0g b (Kk b):=by
 have hp:=UP h;have S3:=W7 h.Ad;unfold Kk;split
 .rename_i hx
  exact⟨hp.splits,.inl rfl,.inl rfl,by rw[hp.Af,hp.held];exact hh⟩
 .rename_i hx
  rcases hp.Ah with h1|⟨h1,h2,h3⟩
  .exact absurd (show (Qg b).1 < 0 by rw[h1];decide) hx
  .have hw:=Z97 h2
   have hq:(Ai b.m (Qg b).1).queue≠[]:=by
    intro hq;have:=(h.Bx _ h1).right.none hq;have h5:=hw.1;unfold Zw at h5;rw[Aj hq] at h5;omega
   refine⟨hp.splits,.inr ⟨h1,hw.2.1,?_⟩,.inr hq,?_⟩
   .show (if _ then (Qg b).1 else (Qg b).2.2.Af)=_\/(if _ then (Qg b).1 else (Qg b).2.2.Af)=-1
    split
    .exact .inl rfl
    .rw[hp.Af];exact hw.2.2.symm
   .show (if _ then (Qg b).1 else (Qg b).2.2.Af)=_\/(if _ then 0 else (Qg b).2.2.held) < _
    split
    .exact .inr (by omega)
    .rw[hp.Af,hp.held];exact hh
theorem Y2k {n:Int} {b:Za} (h:Y0 n b) (s:Zb) (hd:b.Aa=Zh.z0):Y0g b (Xw b s):=by
 have h1:=sU h;have e1:=eK b;have m1:=Y13 b;have h2:=sX h1 s (by rw[e1.1];exact hd);have e2:=sY (Ym b) s;have S3:=W7 h.Ad;have hb:(Qj (Ym b) s).Af=-1\/(Qj (Ym b) s).held < (Qj (Ym b) s).Ad.Am:=by
  rw[e2.2.2.2.2.2.2.1,Y10,e2.2.1,m1.2.1];rcases m1.2.2 with h3|⟨h3,h4,h5⟩
  .exact .inl h3
  .by_cases hz:b.Af=-1
   .exact .inl (by rw[h3,hz])
   .have:=(H3 h hz).2.2.2
    exact .inr (by rw[h4];omega)
 have h3:=Y2p h2.1 hb;unfold Xw;have hbm:∀i,Zm b.Ad i=true->(Ai (Ym b).m i).queue=(Ai b.m i).queue:=by
  intro i hi;unfold Ym;split
  .rename_i hx
   have hw:=(H3 h hx.1).1;show (Ai (b.m.set b.Af.toNat {Ai b.m b.Af with broken:=true}) i).queue=_;rw[h.Gx hw _ hi];split
   .rename_i e;rw[e]
   .rfl
  .rfl
 refine⟨by rw[h3.splits,e2.2.2.2.2.2.1,m1.1],?_,?_,?_⟩
 .have:=h3.C0
  rw[e2.2.1,m1.2.1,e2.2.2.2.2.2.1,m1.1] at this;exact this
 .have h4:=h3.C0
  have h5:=h3.some;rw[e2.2.1,m1.2.1] at h4;rcases h4 with h4|h4
  .exact .inl h4
  .rcases h5 with h5|h5
   .exact .inl h5
   .refine .inr ?_
    rw[e2.2.2.2.2.1,hbm _ h4.1] at h5;exact h5
 .have:=h3.held
  rw[e2.2.1,m1.2.1] at this;exact this
theorem Y5s (b:Za) (s:Zb):(J9 b s).2={F9 b with ready:=LM b.Aa,Ap:=eY b.Aa,C0:=if LM b.Aa=true then (Xw (Z0 (Xq b s) s).1 s).1 else -1}:=by
 rw[Xar];by_cases hr:LM b.Aa=true
 .rw[Aj hr,Aj hr,hr]
  rfl
 .rw[Ak hr,Ak hr,Bool.S8 hr]
  rfl
def LN (s:Zb):Int:=s.Al.foldl (λm p=>E7 m p.at_) (-1)
theorem Yqn (s:Zb) (hl:s.Al.length < 1048577):nD s=some (LN s):=by
 unfold nD;rw[rY (U:=Int) s.Al (by omega) (λ(p:Zo) m=>some (.inl (E7 m p.at_))) (λm=>some m) (nC s) (λm v i=>rfl) (-1)];exact Ypy _ _ (λm (p:Zo)=>E7 m p.at_) (λ_ _=>True) (λa l s _=>⟨rfl,trivial⟩) _ _ trivial
theorem Yqv (s:Zb) (hl:s.Al.length < 1048577):qW s=some (LN s):=by
 unfold qW;rw[rY (U:=Int) s.Al (by omega) (λ(p:Zo) m=>some (.inl (E7 m p.at_))) (λm=>some m) (qV s) (λm v i=>rfl) (-1)];exact Ypy _ _ (λm (p:Zo)=>E7 m p.at_) (λ_ _=>True) (λa l s _=>⟨rfl,trivial⟩) _ _ trivial
theorem Yss {b:Za} (hl:b.m.length < 1048577):nB b=some (ER b):=by
 unfold nB;rw[Yvc b.m (by omega) (λa=>decide ((a.queue.length:Int) > 0)) (some true) (nA b) (λm i=>rfl),Ypm];cases ER b<;>simp
def H5 (s:Zb) (b:Za):Prop:=b.now < 4000/\(ER b=false\/b.now<=LN s)
instance (s:Zb) (b:Za):Decidable (H5 s b):=by unfold H5;infer_instance
def CY (s:Zb):Nat->Za->Za
 | 0,b=>b
 | f+1,b=>if H5 s b then CY s f (J9 b s).1 else b
def H6 (b:Za) (s:Zb):Za×Int:=if okB b=true then (CY s (4000 - b.now).toNat b,(CY s (4000 - b.now).toNat b).now - b.now) else (b,0)
theorem Xb3 (s:Zb):∀(f:Nat) {b:Za},CP b->f=(4000 - b.now).toNat->CP (CY s f b)/\¬H5 s (CY s f b)/\b.now<=(CY s f b).now/\(CY s f b).Ad=b.Ad:=by
 intro f
 induction f with
 | zero=>
  intro b h hf;have hn:=h.now;exact⟨h,λhx=>by have:=hx.1;simp only[CY] at this;omega,LY _,rfl⟩
 | succ f ih=>
  intro b h hf;have hn:=h.now;unfold CY;split
  .rename_i hg
   have hs:=s8 h s hg.1;have:=ih hs.1 (by rw[hs.2.1];omega);rw[hs.2.1,hs.2.2] at this;exact⟨this.1,this.2.1,by omega,this.2.2.2⟩
  .rename_i hg
   exact⟨h,hg,LY _,rfl⟩
theorem Yys {b:Za} {s:Zb} (hb:b.sm) (hs:s.sm):qX b s=some (H6 b s):=by
 unfold qX H6;rw[Yg2 b hb,Ag,eW hb,Ag];by_cases h:okB b=true
 .have hP:=(tE hb).1 h
  have hN:=hP.now;rw[h,Ak (by simp),Aj rfl,Yqv s hs.Al,Ag];have hJ:∀c:Za,CP c->b.now<=c.now->cI b s c=some (c,c.now - b.now):=by
   intro c hc hn;have:=hc.now;unfold cI;rw[Yg2 _ hc.sm,Ag,Xc (by omega) (by omega)]
  have key:∀(f m:Nat) (c:Za),CP c->b.now<=c.now->f=(4000 - c.now).toNat->f < m->RU b s m c (LN s)=some (CY s f c,(CY s f c).now - b.now):=by
   intro f
   induction f with
   | zero=>
    intro m c hc hn hf hm;obtain⟨m,rfl⟩:∃k,m=k+1:=⟨m - 1,by omega⟩;have:=hc.now;show cJ b s (RU b s m) c (LN s)=_;unfold cJ;rw[Ak (by simp;omega),hJ c hc hn];rfl
   | succ f ih=>
    intro m c hc hn hf hm;obtain⟨m,rfl⟩:∃k,m=k+1:=⟨m - 1,by omega⟩;have hcn:=hc.now;have Fo:=s8 hc s (by omega);have HR:RU b s m (J9 c s).1 (LN s)=some (CY s f (J9 c s).1,(CY s f (J9 c s).1).now - b.now):=ih m _ Fo.1 (by rw[Fo.2.1];omega) (by rw[Fo.2.1];omega) (by omega);show cJ b s (RU b s m) c (LN s)=_;unfold cJ CY;have Z7:c.now < 4000:=by omega
    rw[Aj (by simpa using Z7),Yf7 hc.sm.ml,Ag];by_cases hq:ER c=true
    .rw[Ak (by simp[hq])]
     by_cases hl:c.now<=LN s
     .rw[Aj (by simpa using hl),Yeb hc hs Z7,Ag,Aj (show H5 s c from⟨Z7,.inr hl⟩)]
      exact HR
     .rw[Ak (by simpa using hl),Ak (show ¬H5 s c fromλhx=>hx.2.elim (λh1=>by rw[hq] at h1;exact absurd h1 (by decide)) hl),hJ c hc hn]
    .rw[Aj (by simpa using hq),Yeb hc hs Z7,Ag,Aj (show H5 s c from⟨Z7,.inl (by simpa using hq)⟩)]
     exact HR
  exact key _ FU b hP (LY _) rfl (by have:=Y5;omega)
 .simp[h]
theorem Yfy {b:Za} {s:Zb} (hb:b.sm) (hs:s.sm):R2 b s=some (H6 b s):=by
 unfold R2 H6;rw[tB b hb,Ag,Y3p hb,Ag];by_cases h:okB b=true
 .have hP:=(tE hb).1 h
  have hN:=hP.now;rw[h,Ak (by simp),Aj rfl];have key:∀(f m:Nat) (c:Za),CP c->b.now<=c.now->f=(4000 - c.now).toNat->f < m->R1 b s m c (c.now - b.now)=some (CY s f c,(CY s f c).now - b.now):=by
   intro f
   induction f with
   | zero=>
    intro m c hc hn hf hm;obtain⟨m,rfl⟩:∃k,m=k+1:=⟨m - 1,by omega⟩;have:=hc.now;show aJ b s (R1 b s m) c _=_;unfold aJ TO;rw[Ak (by simp;omega),Ak (by simp)];rfl
   | succ f ih=>
    intro m c hc hn hf hm;obtain⟨m,rfl⟩:∃k,m=k+1:=⟨m - 1,by omega⟩;have hcn:=hc.now;have Fo:=s8 hc s (by omega);have HR:R1 b s m (J9 c s).1 ((J9 c s).1.now - b.now)=some (CY s f (J9 c s).1,(CY s f (J9 c s).1).now - b.now):=ih m _ Fo.1 (by rw[Fo.2.1];omega) (by rw[Fo.2.1];omega) (by omega);have e1:Zn (c.now - b.now) 1=(J9 c s).1.now - b.now:=by rw[Fo.2.1,Yj (by omega) (by omega)];omega
    show aJ b s (R1 b s m) c _=_;unfold aJ TO CY;have Z7:c.now < 4000:=by omega
    rw[Aj (by simpa using Z7),Yss hc.sm.ml,Ag];by_cases hq:ER c=true
    .rw[Ak (by simp[hq]),Yqn s hs.Al,Ag]
     by_cases hl:c.now<=LN s
     .rw[Aj (by simpa using hl),Yb4 hc hs Z7,Ag,Aj (show H5 s c from⟨Z7,.inr hl⟩),e1]
      exact HR
     .rw[Ak (by simpa using hl),Ak (show ¬H5 s c fromλhx=>hx.2.elim (λh1=>by rw[hq] at h1;exact absurd h1 (by decide)) hl)]
    .rw[Aj (by simpa using hq),Aj rfl,Yb4 hc hs Z7,Ag,Aj (show H5 s c from⟨Z7,.inl (by simpa using hq)⟩),e1]
     exact HR
  have:=key _ FU b hP (LY _) rfl (by have:=Y5;omega)
  rwa [Int.sub_self] at this
 .simp[h]
theorem Yvx {b:Za} {s:Zb} (hb:b.sm) (hs:s.sm):Z57 b s=some (Yu5 b s):=by
 unfold Z57 Yu5;rw[Y3p hb,Ag];unfold zZ;by_cases h:okB b=true
 .have hP:=(tE hb).1 h
  rw[h,Ak (by simp)];by_cases hn:b.now=4000
  .rw[Aj (by simp[hn]),Ak (by simp[hn]),tB b hb]
   rfl
  .have:=hP.now
   rw[Ak (by simpa using hn),Aj ⟨rfl,hn⟩,Yb4 hP hs (by omega)];rfl
 .have h2:okB b=false:=by simpa using h
  simp[h2,tB b hb]
def Zip (x:Int):ByteArray:=if x=0 then Zc [111,107,97,121] else if x=1 then Zc [101,114,114,111,114] else if x=2 then Zc [114,101,116,114,121] else if x=3 then Zc [115,112,108,105,116] else ByteArray.empty
theorem eZ (x:Int):(Zip x).size<=5:=by
 unfold Zip
 repeat' split
 all_goals first|decide|(rw[Z3];simp)
theorem Ya0 (x:Int):ML x=some (Zip x):=by
 by_cases h0:x < 0
 .unfold ML Z2 Zip
  rw[Ak (by simp;omega),Ak (by omega),Ak (by omega),Ak (by omega),Ak (by omega)];rfl
 .by_cases h3:3 < x
  .unfold ML Z2 Zip
   rw[Aj (by simp;omega),Ag,Aj (by simp;omega),Ak (by omega),Ak (by omega),Ak (by omega),Ak (by omega)]
  .have:x=0\/x=1\/x=2\/x=3:=by omega
   rcases this with rfl|rfl|rfl|rfl<;>rfl
theorem Ya7 (x:Int):Um x=some (Zip x):=by
 have hl:Xf (([Zc [111,107,97,121],Zc [101,114,114,111,114],Zc [114,101,116,114,121],Zc [115,112,108,105,116]]:List ByteArray).length:Int) 1=3:=by rfl
 by_cases h0:x < 0
 .unfold Um RT Yn Zip
  rw[Ak (by simp;omega),Ak (by omega),Ak (by omega),Ak (by omega),Ak (by omega)];rfl
 .by_cases h3:3 < x
  .unfold Um RT Yn Zip
   rw[hl,Aj (by simp;omega),Ag,Aj (by simp;omega),Ak (by omega),Ak (by omega),Ak (by omega),Ak (by omega)];rfl
  .have:x=0\/x=1\/x=2\/x=3:=by omega
   rcases this with rfl|rfl|rfl|rfl<;>rfl
def Zs.B7 (d:Zs):Prop:=Bz d.A3/\Bz d.Ah/\Bz d.addr/\Bz d.value
def FV (d:Zs):List UInt8:=Lib.itoa d.A3++[32]++Lib.itoa d.Ah++[32]++(if d.write=true then [119,114,105,116,101] else [114,101,97,100])++[32]++Lib.itoa d.addr++[32]++Lib.itoa d.value++[32]++L8 (Zip d.Ap)
theorem tG {d:Zs} (h:d.B7):(FV d).length<=100:=by
 have h1:=Wx h.1;have h2:=Wx h.2.1;have h3:=Wx h.2.2.1;have h4:=Wx h.2.2.2;have h5:=eZ d.Ap;rw[Z5] at h5;unfold FV;simp only[Cy,AU,Bo];split<;>simp<;>omega
theorem Yrq {d:Zs} (h:d.B7):Z1w d=some ⟨(FV d).toArray⟩:=by
 have h1:=Xn h.1;have h2:=Xn h.2.1;have h3:=Xn h.2.2.1;have h4:=Xn h.2.2.2;have h5:=eZ d.Ap;have key:∀v0:ByteArray,v0.size<=6->∃r,nF d v0=some r/\L8 r=Lib.itoa d.A3++[32]++Lib.itoa d.Ah++[32]++L8 v0++Lib.itoa d.addr++[32]++Lib.itoa d.value++[32]++L8 (Zip d.Ap):=λv0 hv=>by
  unfold nF;rw[Wr h.1,Wr h.2.1,Wr h.2.2.1,Wr h.2.2.2,Ya0];simp (disch:=(simp only[Yv,Z3,AU,Bo];omega)) only[We,Ag];refine⟨_,rfl,?_⟩;simp only[Xz,Zz,Yh]
 unfold Z1w;cases hw:d.write with
 | true=>
  rw[Aj rfl];obtain⟨r,e,hr⟩:=key (Zc [119,114,105,116,101,32]) (by rw[Z3];simp);rw[e];refine congrArg some (K4 ?_);rw[hr,Zz];refine G1 ?_ (Xp (FV d)).symm;unfold FV;rw[Aj hw];simp
 | false=>
  rw[Ak (by simp)];obtain⟨r,e,hr⟩:=key (Zc [114,101,97,100,32]) (by rw[Z3];simp);rw[e];refine congrArg some (K4 ?_);rw[hr,Zz];refine G1 ?_ (Xp (FV d)).symm;unfold FV;rw[Ak (by rw[hw];simp)];simp
theorem Yqq {d:Zs} (h:d.B7):qZ d=some ⟨(FV d).toArray⟩:=by
 have hl:=tG h;have ej:Lib.join ([Zy d.A3,Zy d.Ah,(if d.write=true then Zc [119,114,105,116,101] else Zc [114,101,97,100]),Zy d.addr,Zy d.value,Zip d.Ap].map L8) (L8 (Zc [32]))=FV d:=by
  unfold FV;simp only[C7,Hf,Lib.join,List.intercalate,List.intersperse,DV,Vr,Zz,Yh];cases d.write<;>simp[Zz]
 have hw:RG d.write=some (if d.write=true then Zc [119,114,105,116,101] else Zc [114,101,97,100]):=by
  unfold RG;cases d.write<;>rfl
 unfold qZ;rw[Hz h.1,Hz h.2.1,Hz h.2.2.1,Hz h.2.2.2,Ya7,hw];simp only[Ag];rw[Nd (by simp) (by rw[ej];omega),Ag,ej]
def JZ (x:Int):ByteArray:=if x=0 then Zc [105,100,108,101] else if x=2 then Zc [102,105,114,115,116] else if x=3 then Zc [110,101,120,116] else ByteArray.empty
theorem Z8m (x:Int):(JZ x).size<=5:=by
 unfold JZ
 repeat' split
 all_goals first|decide|(rw[Z3];simp)
theorem Yq1 (x:Int):Z27 x=some (JZ x):=by
 unfold Z27 JZ;by_cases h0:x=0
 .rw[Aj (by simpa using h0),Aj h0]
 .rw[Ak (by simpa using h0),Ak h0]
  by_cases h2:x=2
  .rw[Aj (by simpa using h2),Aj h2]
  .rw[Ak (by simpa using h2),Ak h2]
   by_cases h3:x=3
   .rw[Aj (by simpa using h3),Aj h3]
   .rw[Ak (by simpa using h3),Ak h3]
theorem Yqu (x:Int):b9 x=some (JZ x):=by
 have hl:Xf (([Zc [105,100,108,101],ByteArray.empty,Zc [102,105,114,115,116],Zc [110,101,120,116]]:List ByteArray).length:Int) 1=3:=by rfl
 by_cases h0:x < 0
 .unfold b9 RT Yn JZ
  rw[Ak (by simp;omega),Ak (by omega),Ak (by omega),Ak (by omega)];rfl
 .by_cases h3:3 < x
  .unfold b9 RT Yn JZ
   rw[hl,Aj (by simp;omega),Ag,Aj (by simp;omega),Ak (by omega),Ak (by omega),Ak (by omega)];rfl
  .have:x=0\/x=1\/x=2\/x=3:=by omega
   rcases this with rfl|rfl|rfl|rfl<;>rfl
def DI (x:Int):ByteArray:=if x < 0 then Zc [45] else Zy x
theorem Jj {x:Int} (h:Bz x):(DI x).size<=20:=by
 unfold DI;split
 .rw[Z3];simp
 .exact Xn h
theorem US {x:Int} (h:Bz x):O2 x=some (DI x):=by
 unfold O2 DI;by_cases h0:x < 0
 .rw[Aj (by simpa using h0),Aj h0]
 .rw[Ak (by simpa using h0),Ak h0,Wr h];rfl
theorem UT {x:Int} (h:Bz x):MR x=some (DI x):=by
 unfold MR DI;by_cases h0:x < 0
 .rw[Aj (by simpa using h0),Aj h0]
 .rw[Ak (by simpa using h0),Ak h0,Hz h];rfl
structure Zp.B7 (w:Zp):Prop where
 A3:Bz w.A3
 Ah:Bz w.Ah
 addr:Bz w.addr
 from_:Bz w.from_
 Aa:Bz w.Aa
 C0:Bz w.C0
def S9 (b:Bool):List UInt8:=if b=true then [114,101,97,100,121] else [119,97,105,116]
def H7 (w:Zp):List UInt8:=Lib.itoa w.A3++[32]++L8 (JZ w.kind)++[32]++L8 (DI w.Ah)++[58]++L8 (DI w.addr)++[32]++L8 (DI w.from_)++[58]++L8 (DI w.Aa)++[32]++S9 w.ready++[32]++L8 (Zip w.Ap)++[32]++L8 (DI w.C0)
theorem Yq6 {w:Zp} (h:w.B7):Z2j w=some ⟨(H7 w).toArray⟩:=by
 have h1:=Xn h.A3;have h2:=Jj h.Ah;have h3:=Jj h.addr;have h4:=Jj h.from_;have h5:=Jj h.Aa;have h6:=Jj h.C0;have h7:=eZ w.Ap;have h8:=Z8m w.kind;have key:∀(v0:ByteArray) (X:List UInt8),v0.size<=1000->L8 v0++L8 (Zip w.Ap)++[32]++L8 (DI w.C0)=X->mZ w v0=some ⟨X.toArray⟩:=λv0 X hv hX=>by
  unfold mZ;rw[US h.C0,Ya0];simp (disch:=(first|omega|(simp only[Yv,Z3,AU,Bo];omega))) only[We,Ag];refine congrArg some (K4 ?_);rw[<-hX];simp only[Xz,Zz];rfl
 unfold Z2j;rw[Wr h.A3,US h.Ah,US h.addr,US h.from_,US h.Aa,Yq1];simp (disch:=(first|omega|(simp only[Yv,Z3,AU,Bo];omega))) only[We,Ag];cases hw:w.ready with
 | true=>
  rw[Aj rfl];refine key _ _ (by simp only[Yv,Z3,AU,Bo];omega) ?_;unfold H7 S9;rw[Aj hw];simp only[Xz,Zz,Yh,List.append_assoc,Io,KJ]
 | false=>
  rw[Ak (by simp)];refine key _ _ (by simp only[Yv,Z3,AU,Bo];omega) ?_;unfold H7 S9;rw[Ak (by rw[hw];simp)];simp only[Xz,Zz,Yh,List.append_assoc,Io,KJ]
theorem Yq4 {w:Zp} (h:w.B7):qJ w=some ⟨(H7 w).toArray⟩:=by
 have h1:=Xn h.A3;have h2:=Jj h.Ah;have h3:=Jj h.addr;have h4:=Jj h.from_;have h5:=Jj h.Aa;have h6:=Jj h.C0;have h7:=eZ w.Ap;have h8:=Z8m w.kind;have key:∀v0:ByteArray,L8 v0=S9 w.ready->cA w v0=some ⟨(H7 w).toArray⟩:=λv0 hv=>by
  have hv5:v0.size<=5:=by rw[Z5,hv];unfold S9;split<;>simp
  have ej:Lib.join ([Zy w.A3,JZ w.kind,DI w.Ah++Zc [58]++DI w.addr,DI w.from_++Zc [58]++DI w.Aa,v0,Zip w.Ap,DI w.C0].map L8) (L8 (Zc [32]))=H7 w:=by
   unfold H7;simp only[C7,Hf,Lib.join,List.intercalate,List.intersperse,DV,Vr,Zz,Yh,Xz,hv];simp
  have hl:(H7 w).length<=1000:=by
   rw[<-ej];simp only[C7,Hf,Lib.join,List.intercalate,List.intersperse,DV,Vr,Cy,<-Z5,Yv,Z3,Zz,AU,Bo];omega
  unfold cA;rw[Hz h.A3,UT h.Ah,UT h.addr,UT h.from_,UT h.Aa,UT h.C0,Yqu,Ya7];simp (disch:=(simp only[Yv,Z3,AU,Bo];omega)) only[We,Ag];rw[Nd (by simp) (by rw[ej];omega),Ag,ej]
 unfold qJ;cases hw:w.ready with
 | true=>rw[Aj rfl];exact key _ (by rw[hw];rfl)
 | false=>rw[Ak (by simp)];exact key _ (by rw[hw];rfl)
theorem tH {l:List Int} (hl:l.length < 1048577) (h:∀x∈l,Bz x):L2 l=some (l.map Zy):=by
 unfold L2;refine K8 (σ:=List ByteArray) (n:=l.length) (by omega) (λk=>(l.take k).map Zy) (B:=λκ st j=>nU l κ st j) (L:=λm st j=>nV l m st j) (λm s i=>rfl) (λk hk κ=>?_) λκ=>?_
 .unfold nU
  have h2:(l.take k).length<=k:=by rw[FZ];omega
  rw[Aj (by simpa using hk),Zx hk,Ag,Hz (h _ (B5 hk)),Ag,Yp (by simp;omega) (by simp;omega),Ag,List.take_succ_eq_append_getElem hk,G0];rfl
 .unfold nU
  rw[Ak (by simp),Fb]
def Wi (l:List Int):List UInt8:=l.flatMap λx=>[32]++Lib.itoa x
theorem Yj9 (l:List Int) (x:Int):Wi (l++[x])=Wi l++[32]++Lib.itoa x:=by
 unfold Wi;rw[uF];simp
theorem SA:∀{l:List Int},(∀x∈l,Bz x)->(Wi l).length<=21*l.length:=by
 intro l
 induction l with
 | nil=>intro _;simp[Wi]
 | cons d l ih=>
  intro h;have h1:=Wx (h d BJ);have h2:=ih λx hx=>h x (Cp _ hx);have e:Wi (d::l)=([32]++Lib.itoa d)++Wi l:=rfl;rw[e,Cy,Cy,AU];simp only[AU,Bo];omega
theorem Y59 (w:ByteArray) (l:List Int):Lib.join ((w::l.map Zy).map L8) [32]=L8 w++Wi l:=by
 rw[C7,Lib.join_cons]
 congr 1
 unfold Lib.joinTail Wi;rw[Hg,Hg,Vs];rfl
theorem Ysv (a:ByteArray) (ws:List ByteArray) (l:List Int):Lib.join (((a::ws)++l.map Zy).map L8) [32]=Lib.join ((a::ws).map L8) [32]++Wi l:=by
 rw[Io,C7,Lib.join_cons,C7,Lib.join_cons,List.append_assoc]
 congr 1
 unfold Lib.joinTail Wi;rw[G0,G0,List.flatten_append]
 congr 1
 rw[Hg,Hg,Vs];rfl
def GX (w:List UInt8) (l:List Int):List UInt8:=if l=[] then [] else w++Wi l++[10]
theorem Yak {w:ByteArray} {l:List Int} (hw:w.size<=100) (hl:l.length < 1048577) (h:∀x∈l,Bz x):aZ w l=some ⟨(GX (L8 w) l).toArray⟩:=by
 unfold aZ GX;cases l with
 | nil=>rw[Aj (by simp),Aj rfl];rfl
 | cons x l=>
  rw[Ak (by simp;omega),Ak (by simp),tH hl h];have hn:=SA h;have ej:Lib.join (((x::l).map Zy).map L8) (L8 (Zc [32]))=Lib.itoa x++Wi l:=by
   rw[Zz,C7,Y59,Yh]
  have en:Wi (x::l)=[32]++(Lib.itoa x++Wi l):=by unfold Wi;simp
  rw[en] at hn ⊢;have hb:(Lib.itoa x++Wi l).length<=30000000:=by rw[Cy] at hn;simp only[AU,Bo] at hn hl;omega
  rw[We (by rw[Z3];simp;omega),Ag,Ag,Nd (by simp only[KH];omega) (by rw[ej];omega),Ag,ej];have z:(⟨(Lib.itoa x++Wi l).toArray⟩:ByteArray).size=(Lib.itoa x++Wi l).length:=by rw[Z5,Xp]
  rw[We (by simp only[Yv,Z3,z,AU,Bo];omega),Ag,We (by simp only[Yv,Z3,z,AU,Bo];omega),Ag];refine congrArg some (K4 (G1 ?_ (Xp _).symm));rw[Xz,Xz,Xz,Zz,Zz,Xp (Lib.itoa x++Wi l)];simp
theorem Yc1 {w:ByteArray} {l:List Int} (hw:w.size<=100) (hl:l.length < 1048577) (h:∀x∈l,Bz x):nM w l=some ⟨(GX (L8 w) l).toArray⟩:=by
 have hn:=SA h;unfold nM GX;cases hc:l with
 | nil=>rw[Aj (by simp),Aj rfl];rfl
 | cons x r=>
  rw[<-hc,Ak (by rw[hc];simp;omega),Ak (by rw[hc];simp)];clear hc;have e0:w++(⟨(Wi (l.take 0)).toArray⟩:ByteArray)=w:=K4 (by rw[Xz,Xp (Wi (l.take 0))];simp[Wi]);have hs:∀k,(⟨(Wi (l.take k)).toArray⟩:ByteArray).size<=30000000:=λk=>by
   have h1:=SA (l:=l.take k) λx hx=>h x (FY hx);have h2:(l.take k).length<=l.length:=by rw[FZ];omega
   rw[Z5,Xp];omega
  refine G1 (congrArg (λv=>nL w l FU v 0) e0.symm) (K8 (σ:=ByteArray) (n:=l.length) (by omega) (λk=>w++(⟨(Wi (l.take k)).toArray⟩:ByteArray)) (B:=λκ st j=>nK w l κ st j) (L:=λm st j=>nL w l m st j) (λm s i=>rfl) (λk hk κ=>?_) (λκ=>?_))
  .have h1:=hs k
   have h2:=Xn (h _ (B5 hk));unfold nK;rw[Aj (by simpa using hk),We (by simp only[Yv,Z3,AU,Bo];omega),Ag,Zx hk,Ag,Wr (h _ (B5 hk)),Ag,We (by simp only[Yv,Z3,AU,Bo];omega),Ag]
   congr 1
   refine K4 ?_;rw[Xz,Xz,Xz,Xz,Zz,Xp (Wi (l.take k)),Xp (Wi (l.take (k+1))),List.take_succ_eq_append_getElem hk,Yj9,Yh];simp
  .have h1:=hs l.length
   unfold nK;rw[Ak (by simp),We (by simp only[Yv,Z3,AU,Bo];omega),Ag];refine congrArg some (K4 (G1 ?_ (Xp _).symm));rw[Xz,Xz,Zz,Xp (Wi (l.take l.length)),Fb]
def Ep (s:Int):ByteArray:=if s=0 then Zc [98,121,116,101] else if s=1 then Zc [104,97,108,102] else Zc [119,111,114,100]
def Er (b:Int):ByteArray:=if b=0 then Zc [111,110,101] else if b=1 then Zc [102,111,117,114] else if b=2 then Zc [119,114,97,112] else Zc [101,105,103,104,116]
theorem Z91 (x:Int):(Ep x).size<=5:=by
 unfold Ep
 repeat' split
 all_goals (rw[Z3];simp)
theorem Z6h (x:Int):(Er x).size<=5:=by
 unfold Er
 repeat' split
 all_goals (rw[Z3];simp)
theorem tI {r:Zj} (h:W6 r=true):idx [Zc [98,121,116,101],Zc [104,97,108,102],Zc [119,111,114,100]] r.size=some (Ep r.size)/\idx [Zc [111,110,101],Zc [102,111,117,114],Zc [119,114,97,112],Zc [101,105,103,104,116]] r.Ay=some (Er r.Ay):=by
 have hb:=(JQ h).1;have hl:=ON hb;have h2:r.Ay=0\/r.Ay=1\/r.Ay=2\/r.Ay=3:=by
  have:=hl.2;unfold Xy at this
  repeat' split at this
  all_goals omega
 have h1:r.size=0\/r.size=1\/r.size=2:=by
  have Yg:Kl r.addr r.size r.Ay≠[]:=λe=>by rw[e] at hl;simp at hl;omega
  have hn:(Xy r.Ay).toNat≠0:=by omega
  obtain⟨n,Tk⟩:=Nat.exists_eq_succ_of_ne_zero hn;have hx:¬FR r.addr r.size r.Ay < 0:=λe=>Yg (by
   unfold Kl;rw[Tk];unfold EB;rw[Aj e];rfl)
  have ha:Xv r.addr r.size=true:=by
   unfold FR at hx;by_cases hc:(Xv r.addr r.size=true/\r.addr < 512)/\Xy r.Ay≠0
   .exact hc.1.1
   .rw[Ak hc] at hx;omega
  have:=(Jq ha).1;unfold Y2 at this
  repeat' split at this
  all_goals omega
 constructor
 .rcases h1 with e|e|e<;>rw[e]<;>rfl
 .rcases h2 with e|e|e|e<;>rw[e]<;>rfl
def Ic (b:Bool):List UInt8:=if b=true then [32,108,111,99,107] else []
def DJ (b:Bool):List UInt8:=if b=true then [119,114,105,116,101] else [114,101,97,100]
def Km (r:Zj):List UInt8:=DJ r.write++[32]++L8 (Ep r.size)++[32]++L8 (Er r.Ay)++[32]++Lib.itoa r.addr++Ic r.lock++Wi r.Aa
def Zj.B7 (r:Zj):Prop:=Bz r.addr/\∀x∈r.Aa,Bz x
theorem UU {r:Zj} (h:W6 r=true):r.Aa.length<=8:=by
 have h1:=(JQ h).2.1;have h2:=OM r.Ay;split at h1<;>omega
theorem Z7p {r:Zj} (hd:r.Aa.length<=8) (hn:∀x∈r.Aa,Bz x) {v0:ByteArray} (hv:v0.size<=1000):aO r FU v0 0=some ⟨(L8 v0++Wi r.Aa).toArray⟩:=by
 have e0:v0++(⟨(Wi (r.Aa.take 0)).toArray⟩:ByteArray)=v0:=K4 (by rw[Xz,Xp (Wi (r.Aa.take 0))];simp[Wi]);have hs:∀k,(⟨(Wi (r.Aa.take k)).toArray⟩:ByteArray).size<=300:=λk=>by
  have h1:=SA (l:=r.Aa.take k) λx hx=>hn x (FY hx);have h2:(r.Aa.take k).length<=r.Aa.length:=by rw[FZ];omega
  rw[Z5,Xp];omega
 refine G1 (congrArg (λv=>aO r FU v 0) e0.symm) (K8 (σ:=ByteArray) (n:=r.Aa.length) (by omega) (λk=>v0++(⟨(Wi (r.Aa.take k)).toArray⟩:ByteArray)) (B:=λκ st j=>nI r κ st j) (L:=λm st j=>aO r m st j) (λm s i=>rfl) (λk hk κ=>?_) (λκ=>?_))
 .have h1:=hs k
  have h2:=Xn (hn _ (B5 hk));unfold nI;rw[Aj (by simpa using hk),We (by simp only[Yv,Z3,AU,Bo];omega),Ag,Zx hk,Ag,Wr (hn _ (B5 hk)),Ag,We (by simp only[Yv,Z3,AU,Bo];omega),Ag]
  congr 1
  refine K4 ?_;rw[Xz,Xz,Xz,Xz,Zz,Xp (Wi (r.Aa.take k)),Xp (Wi (r.Aa.take (k+1))),List.take_succ_eq_append_getElem hk,Yj9,Yh];simp
 .unfold nI
  rw[Ak (by simp)];refine congrArg some (K4 (G1 ?_ (Xp _).symm));rw[Xz,Xp (Wi (r.Aa.take r.Aa.length)),Fb]
theorem Yb0 {r:Zj} (hs:r.sm) (hn:r.B7):aP r=some (if W6 r=true then ⟨(Km r).toArray⟩ else ByteArray.empty):=by
 unfold aP;rw[Z9l r hs,Ag];by_cases h:W6 r=true
 .rw[Ak (by simp[h]),Aj h]
  have z1:=Z91 r.size;have z2:=Z6h r.Ay;have z3:=Xn hn.1;have hd:=UU h;have key:∀(v0:ByteArray),v0.size<=5->L8 v0=DJ r.write->nJ r v0=some ⟨(Km r).toArray⟩:=λv0 hv hw=>by
   unfold nJ;rw[(tI h).1,(tI h).2,Wr hn.1];simp (disch:=(first|omega|(simp only[Yv,Z3,AU,Bo];omega))) only[We,Ag];unfold Zvh;cases hk:r.lock with
   | true=>
    rw[Aj rfl,Z7p hd hn.2 (by simp only[Yv,Z3,AU,Bo];omega)];refine congrArg some (K4 (G1 (Xp _) (G1 ?_ (Xp _).symm)));unfold Km Ic;rw[hk,Aj rfl];simp only[Xz,Zz,Yh,hw]
   | false=>
    rw[Ak (by simp),Z7p hd hn.2 (by simp only[Yv,Z3,AU,Bo];omega)];refine congrArg some (K4 (G1 (Xp _) (G1 ?_ (Xp _).symm)));unfold Km Ic;rw[hk,Ak (by simp),Gb];simp only[Xz,Zz,Yh,hw]
  cases hw:r.write with
  | true=>rw[Aj rfl];exact key _ (by rw[Z3];simp) (by rw[hw];rfl)
  | false=>rw[Ak (by simp)];exact key _ (by rw[Z3];simp) (by rw[hw];rfl)
 .rw[Aj (by simp[h]),Ak h]
theorem Ybh {r:Zj} (hs:r.sm) (hn:r.B7):Ua r=some (if W6 r=true then ⟨(Km r).toArray⟩ else ByteArray.empty):=by
 unfold Ua;rw[sK r hs,Ag];by_cases h:W6 r=true
 .rw[Ak (by simp[h]),Aj h]
  have z1:=Z91 r.size;have z2:=Z6h r.Ay;have z3:=Wx hn.1;have hd:=UU h;have z4:=SA hn.2;rw[Z5] at z1 z2;have hw:RG r.write=some (Zc (DJ r.write)):=by
   unfold RG DJ;cases r.write<;>rfl
  have zw:(DJ r.write).length<=5:=by unfold DJ;split<;>simp
  rw[hw,Ag];unfold TY TZ;rw[Ag,(tI h).1,Ag,Ag,(tI h).2,Ag,Hz hn.1,Ag,tH (by omega) hn.2];cases hk:r.lock with
  | true=>
   have ej:Lib.join (([Zc (DJ r.write),Ep r.size,Er r.Ay,Zy r.addr,Zc [108,111,99,107]]++r.Aa.map Zy).map L8) (L8 (Zc [32]))=Km r:=by
    rw[Zz,Ysv];unfold Km Ic;rw[hk,Aj rfl]
    congr 1
    simp only[C7,Hf,Lib.join,List.intercalate,List.intersperse,DV,Vr,Zz,Yh];simp
   have hl:(Km r).length<=1000:=by
    unfold Km Ic;rw[hk,Aj rfl];simp only[Cy,AU,Bo];omega
   rw[Aj rfl,Yp (by simp) (by simp),Ag,Ag,Yp (by simp;omega) (by simp;omega),Ag];show (Qn ([Zc (DJ r.write),Ep r.size,Er r.Ay,Zy r.addr,Zc [108,111,99,107]]++r.Aa.map Zy) (Zc [32])).bind _=_;rw[Nd (by simp;omega) (by rw[ej];omega),ej];rfl
  | false=>
   have ej:Lib.join (([Zc (DJ r.write),Ep r.size,Er r.Ay,Zy r.addr]++r.Aa.map Zy).map L8) (L8 (Zc [32]))=Km r:=by
    rw[Zz,Ysv];unfold Km Ic;rw[hk,Ak (by simp),Gb]
    congr 1
    simp only[C7,Hf,Lib.join,List.intercalate,List.intersperse,DV,Vr,Zz,Yh];simp
   have hl:(Km r).length<=1000:=by
    unfold Km Ic;rw[hk,Ak (by simp)];simp only[Cy,AU,Bo];omega
   rw[Ak (by simp),Ag,Yp (by simp;omega) (by simp;omega),Ag,Nd (by simp;omega) (by rw[ej];omega),ej];rfl
 .rw[Aj (by simp[h]),Ak h]
theorem Wt (a b:ByteArray):(a.toList == b.toList)=decide (L8 a=L8 b):=by
 rw[Lib.toList_data,Lib.toList_data];by_cases h:L8 a=L8 b
 .rw[decide_eq_true h];exact beq_iff_eq.2 h
 .rw[decide_eq_false h];exact beq_eq_false_iff_ne.2 h
def D4 (p:Zo):List UInt8:=[112,111,115,116,32]++Lib.itoa p.at_++[32]++Lib.itoa p.Ah++[32]++Km p.Bm++[10]
def Zo.B7 (p:Zo):Prop:=Bz p.at_/\Bz p.Ah/\p.Bm.B7
theorem Yz6 (r:Zj):Km r≠[]:=by
 unfold Km DJ;split<;>simp
theorem tJ {r:Zj} (h:W6 r=true) (hn:r.B7):(Km r).length<=300:=by
 have z1:=Z91 r.size;have z2:=Z6h r.Ay;have z3:=Wx hn.1;have hd:=UU h;have z4:=SA hn.2;rw[Z5] at z1 z2;have zw:(DJ r.write).length<=5:=by unfold DJ;split<;>simp
 have zl:(Ic r.lock).length<=5:=by unfold Ic;split<;>simp
 unfold Km;simp only[Cy,AU,Bo];omega
theorem Ytk {r:Zj}:((⟨(Km r).toArray⟩:ByteArray).toList == ByteArray.empty.toList)=false:=by
 rw[Wt,Xp,FP];simp[Yz6]
theorem Ypt:(ByteArray.empty.toList == ByteArray.empty.toList)=true:=by rw[Wt];simp
def H8 (v0:ByteArray) (ps:List Zo):ByteArray:=if ps.all (λp=>W6 p.Bm)=true then ⟨(L8 v0++ps.flatMap D4).toArray⟩ else ByteArray.empty
theorem Ypw (v0:ByteArray):H8 v0 []=v0:=by
 unfold H8;rw[Aj (by simp)];exact K4 (by rw[Xp (L8 v0++([]:List Zo).flatMap D4)];simp)
theorem Ypv {p:Zo} {ps:List Zo} (h:¬W6 p.Bm=true) (v0:ByteArray):H8 v0 (p::ps)=ByteArray.empty:=by
 unfold H8;rw[Ak (by simp[h])]
theorem Yl9 {p:Zo} {ps:List Zo} (h:W6 p.Bm=true) {v0 v1:ByteArray} (hv:L8 v1=L8 v0++D4 p):H8 v0 (p::ps)=H8 v1 ps:=by
 unfold H8;rw[hv,DW,h,Hd,Fa,List.append_assoc]
theorem Yfq {s:Zb} (hp:s.Al.length < 1048600) (Yf:∀p∈s.Al,p.B7/\p.Bm.sm):∀(m k:Nat) (v0:ByteArray),k<=s.Al.length->s.Al.length - k < m->v0.size<=100000000+1000*k->
  nN s m v0 (k:Int)=some (H8 v0 (s.Al.drop k)):=by
 intro m
 induction m with
 | zero=>intro k v0 _ h;omega
 | succ m ih=>
  intro k v0 hk hm hv;show Znz s (nN s m) v0 (k:Int)=_;unfold Znz;by_cases hc:k < s.Al.length
  .obtain⟨⟨n1,n2,n3⟩,n4⟩:=Yf _ (B5 hc)
   have z1:=Xn n1;have z2:=Xn n2;rw[Aj (by simpa using hc),Zx hc,Ag,Yb0 n4 n3,Ag,D5 hc];by_cases hr:W6 s.Al[k].Bm=true
   .have z3:=tJ hr n3
    have z4:(⟨(Km s.Al[k].Bm).toArray⟩:ByteArray).size<=300:=by rw[Z5,Xp];exact z3
    rw[Aj hr,Ak (by rw[Ytk];simp),Wr n1,Wr n2];simp (disch:=(first|omega|(simp only[Yv,Z3,AU,Bo];omega))) only[We,Ag];rw[Ye (by omega),ih (k+1) _ (by omega) (by omega) (by simp only[Yv,Z3,AU,Bo];omega)];refine congrArg some (Yl9 hr ?_).symm;simp only[Xz,Zz,Yh,Xp (Km s.Al[k].Bm)];unfold D4;simp
   .rw[Ak hr,Aj (by rw[Ypt]),Ypv hr]
  .rw[Ak (by simpa using hc),EZ (by omega),Ypw]
theorem Yfu {s:Zb} (hp:s.Al.length < 1048600) (Yf:∀p∈s.Al,p.B7/\p.Bm.sm):∀(m k:Nat) (v0:ByteArray),k<=s.Al.length->s.Al.length - k < m->v0.size<=100000000+1000*k->
  bA s m v0 (k:Int)=some (H8 v0 (s.Al.drop k)):=by
 intro m
 induction m with
 | zero=>intro k v0 _ h;omega
 | succ m ih=>
  intro k v0 hk hm hv;show Zn2 s (bA s m) v0 (k:Int)=_;unfold Zn2;by_cases hc:k < s.Al.length
  .obtain⟨⟨n1,n2,n3⟩,n4⟩:=Yf _ (B5 hc)
   have z1:=Xn n1;have z2:=Xn n2;rw[Aj (by simpa using hc),Zx hc,Ag,Ybh n4 n3,Ag,D5 hc];by_cases hr:W6 s.Al[k].Bm=true
   .have z3:=tJ hr n3
    have z4:(⟨(Km s.Al[k].Bm).toArray⟩:ByteArray).size<=300:=by rw[Z5,Xp];exact z3
    rw[Aj hr,Ak (by rw[Ytk];simp),Hz n1,Hz n2];simp (disch:=(first|omega|(simp only[Yv,Z3,AU,Bo];omega))) only[We,Ag];rw[Ye (by omega),ih (k+1) _ (by omega) (by omega) (by simp only[Yv,Z3,AU,Bo];omega)];refine congrArg some (Yl9 hr ?_).symm;simp only[Xz,Zz,Yh,Xp (Km s.Al[k].Bm)];unfold D4;simp
   .rw[Ak hr,Aj (by rw[Ypt]),Ypv hr]
  .rw[Ak (by simpa using hc),EZ (by omega),Ypw]
structure Ns (s:Zb):Prop where
 FC:s.Al.length < 1048600
 waits:s.waits.length < 1048577
 A4:s.A4.length < 1048577
 Al:∀p∈s.Al,p.B7/\p.Bm.sm
 wn:∀x∈s.waits,Bz x
 sn:∀x∈s.A4,Bz x
def H9 (s:Zb):ByteArray:=⟨(GX [119,97,105,116,115] s.waits).toArray⟩++⟨(GX [115,97,121,115] s.A4).toArray⟩
theorem Yti {w:List UInt8} (hw:w.length<=10) {l:List Int} (hl:l.length < 1048577) (h:∀x∈l,Bz x):(GX w l).length<=30000000:=by
 have:=SA h;unfold GX;split
 .simp
 .simp only[Cy,AU,Bo];omega
theorem Yf1 {s:Zb} (h:Ns s):(⟨(GX [119,97,105,116,115] s.waits).toArray⟩:ByteArray).size<=30000000/\(⟨(GX [115,97,121,115] s.A4).toArray⟩:ByteArray).size<=30000000:=by
 rw[Z5,Z5,Xp,Xp];exact⟨Yti (by simp) h.waits h.wn,Yti (by simp) h.A4 h.sn⟩
theorem Z4t {s:Zb} (h:Ns s):Zxo s=some (H8 (H9 s) s.Al):=by
 have ⟨z1,z2⟩:=Yf1 h;unfold Zxo;rw[Yc1 (by rw[Z3];simp) h.waits h.wn,Ag,Yc1 (by rw[Z3];simp) h.A4 h.sn,Ag,Zz,Zz,We (by omega),Ag];have:=Yfq h.FC h.Al FU 0 (H9 s) (Cf _) (by have:=Y5;have:=h.FC;omega) (by unfold H9;rw[Yv];omega);exact this
theorem Z4i {s:Zb} (h:Ns s):oH s=some (H8 (H9 s) s.Al):=by
 have ⟨z1,z2⟩:=Yf1 h;unfold oH;rw[Yak (by rw[Z3];simp) h.waits h.wn,Ag,Yak (by rw[Z3];simp) h.A4 h.sn,Ag,Zz,Zz,We (by omega),Ag];have:=Yfu h.FC h.Al FU 0 (H9 s) (Cf _) (by have:=Y5;have:=h.FC;omega) (by unfold H9;rw[Yv];omega);exact this
def Y9 (c:UInt8):List UInt8->List (List UInt8)
 | []=>[[]]
 | x::l=>if x=c then []::Y9 c l else match Y9 c l with
  | []=>[[x]]
  | w::r=>(x::w)::r
theorem fA (c:UInt8) (l:List UInt8):Y9 c l≠[]:=by
 cases l with
 | nil=>simp[Y9]
 | cons x l=>
  unfold Y9;split
  .simp
  .split<;>simp
theorem OV {c:UInt8}:∀{w:List UInt8},(∀x∈w,x≠c)->∀l,Y9 c (w++c::l)=w::Y9 c l:=by
 intro w
 induction w with
 | nil=>intro _ l;simp[Y9]
 | cons x w ih=>
  intro h l;rw[Io,Y9,Ak (h x BJ),ih (λy hy=>h y (Cp _ hy)) l]
theorem fB {c:UInt8}:∀{w:List UInt8},(∀x∈w,x≠c)->Y9 c w=[w]:=by
 intro w
 induction w with
 | nil=>intro _;rfl
 | cons x w ih=>
  intro h;rw[Y9,Ak (h x BJ),ih (λy hy=>h y (Cp _ hy))]
theorem tK {c:UInt8}:∀{ws:List (List UInt8)},ws≠[]->(∀w∈ws,∀x∈w,x≠c)->Y9 c (Lib.join ws [c])=ws:=by
 intro ws
 induction ws with
 | nil=>intro h;exact absurd rfl h
 | cons w r ih=>
  intro _ h;have hw:=h w BJ;cases r with
  | nil=>rw[Lib.join_one,fB hw]
  | cons v r=>
   have e:Lib.join (w::v::r) [c]=w++c::Lib.join (v::r) [c]:=by
    rw[Lib.join_cons,Lib.join_cons];simp[Lib.joinTail]
   rw[e,OV hw,ih (by simp) λu hu=>h u (Cp _ hu)]
theorem Yo2 (c:UInt8):∀l:List UInt8,(Y9 c l).length<=l.length+1:=by
 intro l
 induction l with
 | nil=>simp[Y9]
 | cons x l ih=>
  unfold Y9;split
  .simp;omega
  .split
   .simp
   .rename_i w r h
    rw[h] at ih;simp at ih ⊢;omega
theorem Ykd {c:UInt8}:∀{l w:List UInt8},w∈Y9 c l->w.length<=l.length:=by
 intro l
 induction l with
 | nil=>intro w h;simp[Y9] at h;simp[h]
 | cons x l ih=>
  intro w h;unfold Y9 at h;split at h
  .rcases Ce.1 h with rfl|h
   .simp
   .have:=ih h;simp;omega
  .split at h
   .rename_i hs;exact absurd hs (fA c l)
   .rename_i v r hs
    rcases Ce.1 h with rfl|h
    .have:=ih (w:=v) (by rw[hs];exact BJ);simp;omega
    .have:=ih (w:=w) (by rw[hs];exact Cp _ h);simp;omega
theorem Y31 (c:UInt8):∀s:List UInt8,Lib.splitK [c] 0 (s.count c) s=Y9 c s:=by
 intro s
 induction s with
 | nil=>rfl
 | cons b l ih=>
  by_cases hb:b=c
  .subst hb
   rw[List.count_cons_self,Lib.splitK];have hi:Lib.index (b::l) [b]=0:=by
    unfold Lib.index;rw[Aj (by simp[List.isPrefixOf])]
   rw[hi,Ak (by decide),Y9,Aj rfl];show _::Lib.splitK [b] 0 (l.count b) l=_;rw[ih];rfl
  .have hc:(b::l).count c=l.count c:=List.count_cons_of_ne hb
   have hi:Lib.index (b::l) [c]=if (Lib.index l [c] == -1)=true then -1 else Lib.index l [c]+1:=by
    rw[Lib.index,Ak (by simp[List.isPrefixOf];exactλh=>hb h.symm)]
   rw[hc,Y9,Ak hb,<-ih];cases hk:l.count c with
   | zero=>rfl
   | succ k=>
    have Yg:¬(Lib.index l [c] == -1)=true:=λh=>by
     have h0:Lib.count l [c]=0:=Lib.count_miss (beq_iff_eq.1 h);rw[Lib.count_one] at h0;omega
    have hg:=Lib.index_ge l [c];have hne2:Lib.index l [c]≠-1:=λh=>Yg (beq_iff_eq.2 h);rw[Ak Yg] at hi;rw[Lib.splitK,Lib.splitK,hi,Ak Yg,Ak (by rw[beq_iff_eq];omega)];have e1:(Lib.index l [c]+1).toNat=(Lib.index l [c]).toNat+1:=by omega
    rw[e1];rfl
theorem KA {x:ByteArray} (c:UInt8) (h:x.size < 4294967281):∃ws,Ky x (Zc [c])=some ws/\ws.map L8=Y9 c (L8 x):=by
 unfold Ky;rw[Aj ⟨h,by rw[Z3];simp⟩];refine⟨_,rfl,?_⟩;have:=Lib.splitB_data (Zc [c]) 0 (Lib.countB x (Zc [c])) x;have e:Lib.countB x (Zc [c])=(L8 x).count c:=Lib.count_one c (L8 x);rw[e] at this ⊢;exact this.trans (Y31 c (L8 x))
theorem KB {x:ByteArray} {k:Nat} (h:k < (L8 x).length):GK x (k:Int)=some ((L8 x)[k].toNat:Int):=by
 have h2:k < x.size:=by rw[Z5];exact h
 unfold GK;rw[Aj (by omega),N5];have:x[k]?=some (L8 x)[k]:=by
  rw[getElem?_pos x k h2];rfl
 rw[this];rfl
theorem SB {x:ByteArray} {a b:Nat} (h1:a<=b) (h2:b<=(L8 x).length):∃y,Hs x (a:Int) (b:Int)=some y/\L8 y=((L8 x).drop a).take (b - a):=by
 unfold Hs;rw[Aj ⟨by omega,by omega,by rw[Z5,N5];exact h2⟩];exact⟨_,rfl,Lib.extract_data x _ _⟩
theorem HA {x:ByteArray} (c:UInt8) (h:x.size < 4294967281):∃ws,Wy x (c.toNat:Int)=some ws/\ws.map L8=Y9 c (L8 x):=by
 rw[Z5] at h;have key:∀(m i a:Nat) (out:List ByteArray),i<=(L8 x).length->(L8 x).length - i < m->a<=i->out.length<=a->(∀y∈((L8 x).drop a).take (i - a),y≠c)->
   ∃ws,YY x (c.toNat:Int) m out (a:Int) (i:Int)=some ws/\ws.map L8=out.map L8++Y9 c ((L8 x).drop a):=by
  intro m
  induction m with
  | zero=>intro i a out _ hm;omega
  | succ m ih=>
   intro i a out hi hm ha ho hn;show ∃ws,zJ x (c.toNat:Int) (YY x (c.toNat:Int) m) out (a:Int) (i:Int)=some ws/\_;unfold zJ;by_cases hc:i < (L8 x).length
   .rw[Aj (by rw[Z5];simpa using hc),KB hc,Ag]
    have Xag:(L8 x).drop a=((L8 x).drop a).take (i - a)++(L8 x)[i]::(L8 x).drop (i+1):=by
     have e:=(gH (i - a) ((L8 x).drop a)).symm;rw[List.drop_drop,show a+(i - a)=i by omega,D5 hc] at e;exact e
    by_cases hx:(L8 x)[i]=c
    .obtain⟨y,Cz,DL⟩:=SB (x:=x) ha hi
     rw[Aj (by rw[hx];simp),Cz,Ag,Yp (by simp;omega) (by simp;omega),Ag,Ye (by omega)];obtain⟨ws,h1,h2⟩:=ih (i+1) (i+1) (out++[y]) (by omega) (by omega) (by omega) (by simp;omega) (by simp);refine⟨ws,h1,?_⟩;rw[hx] at Xag;rw[h2,Xag,OV hn,G0,List.append_assoc,C7,Hf,DL];rfl
    .rw[Ak (by
      rw[Bj];intro he;exact hx (UInt8.toNat_inj.1 (by omega))),Ye (by omega)]
     refine ih (i+1) a out (by omega) (by omega) (by omega) ho λy hy=>?_;rw[show i+1 - a=(i - a)+1 by omega,List.take_add_one] at hy;rcases BU.1 hy with hy|hy
     .exact hn y hy
     .rw[D7,show a+(i - a)=i by omega,CB hc] at hy
      simp at hy;rw[hy];exact hx
   .have hil:i=(L8 x).length:=by omega
    obtain⟨y,Cz,DL⟩:=SB (x:=x) (a:=a) (b:=(L8 x).length) (by omega) (B2 _);rw[Ak (by rw[Z5];simpa using hc),show ((x.size:Nat):Int)=((L8 x).length:Int) by rw[Z5],Cz,Ag,Yp (by simp;omega) (by simp;omega),Ag];refine⟨_,rfl,?_⟩;have ht:((L8 x).drop a).take ((L8 x).length - a)=(L8 x).drop a:=by rw[D6 (by simp)]
    rw[hil,ht] at hn;rw[G0,C7,Hf,DL,ht,fB hn]
 obtain⟨ws,h1,h2⟩:=key FU 0 0 [] (Cf _) (by have:=Y5;omega) (B2 _) (B2 _) (by simp);exact⟨ws,h1,by simpa using h2⟩
def Qx (c:UInt8):Prop:=48<=c.toNat/\c.toNat<=57
instance (c:UInt8):Decidable (Qx c):=inferInstanceAs (Decidable (_/\_))
theorem Nt {d:Nat} (h:d < 10):(UInt8.ofNat (48+d)).toNat=48+d:=by
 rw[UInt8.toNat_ofNat'];omega
theorem Yu0:∀(k u:Nat),u < 10^(k+1)->∀c∈Lib.decDigits u,Qx c:=by
 intro k
 induction k with
 | zero=>
  intro u hu c hc;rw[Lib.decDigits,dif_pos (by omega)] at hc;rw[List.mem_singleton] at hc;subst hc;have:=Nt (d:=u) (by omega);unfold Qx;omega
 | succ k ih=>
  intro u hu c hc;rw[Lib.decDigits] at hc;split at hc
  .rw[List.mem_singleton] at hc;subst hc
   have:=Nt (d:=u) (by omega);unfold Qx;omega
  .rcases BU.1 hc with hc|hc
   .exact ih (u / 10) (by rw[Tf] at hu;omega) c hc
   .rw[List.mem_singleton] at hc;subst hc
    have:=Nt (d:=u % 10) (by omega);unfold Qx;omega
theorem Yvs (u:Nat):u < 10^(u+1):=by
 have h1:u < 2^u:=Nat.lt_two_pow_self;have h2:2^u<=10^u:=Nat.pow_le_pow_left (by omega) u;have h3:10^u<=10^(u+1):=Vn (by omega) (by omega);omega
theorem LO {u:Nat} {c:UInt8} (h:c∈Lib.decDigits u):Qx c:=Yu0 u u (Yvs u) c h
theorem Yck (u:Nat):Lib.decDigits u≠[]:=by
 rw[Lib.decDigits];split<;>simp
theorem Y0k {v:Int} {c:UInt8} (h:c∈Lib.itoa v):c=45\/Qx c:=by
 unfold Lib.itoa at h;split at h
 .rcases Ce.1 h with h|h
  .exact .inl h
  .exact .inr (LO h)
 .exact .inr (LO h)
theorem KC {v:Int} {c b:UInt8} (h:c∈Lib.itoa v) (hb:b.toNat=32\/b.toNat=58\/b.toNat=10):c≠b:=by
 rintro rfl;rcases Y0k h with rfl|h
 .rcases hb with hb|hb|hb<;>cases hb
 .unfold Qx at h;omega
theorem Yn1 (v:Int):Lib.itoa v≠[]:=by
 unfold Lib.itoa;split
 .simp
 .exact Yck _
theorem Ysd {v:Int}:∃c l,Lib.itoa v=c::l:=by
 cases h:Lib.itoa v with
 | nil=>exact absurd h (Yn1 v)
 | cons c l=>exact⟨c,l,rfl⟩
def Et (a:Nat) (c:UInt8):Nat:=if Qx c then a*10+(c.toNat - 48) else a
theorem Yyg:∀(k u:Nat),u < 10^(k+1)->(Lib.decDigits u).foldl Et 0=u:=by
 intro k
 induction k with
 | zero=>
  intro u hu;have e:=Nt (d:=u) (by omega);rw[Lib.decDigits,dif_pos (by omega)];simp only[HG,gT,Et];rw[Aj (by unfold Qx;omega)];omega
 | succ k ih=>
  intro u hu;rw[Lib.decDigits];split
  .have e:=Nt (d:=u) (by omega)
   simp only[HG,gT,Et];rw[Aj (by unfold Qx;omega)];omega
  .have e:=Nt (d:=u % 10) (by omega)
   rw[Tc,ih (u / 10) (by rw[Tf] at hu;omega)];simp only[HG,gT,Et];rw[Aj (by unfold Qx;omega)];omega
theorem fC (u:Nat):(Lib.decDigits u).foldl Et 0=u:=Yyg u u (Yvs u)
theorem tL (v:Int):(Lib.itoa v).foldl Et 0=v.natAbs:=by
 unfold Lib.itoa;split
 .rw[HG]
  show (Lib.decDigits v.natAbs).foldl Et (if Qx 45 then _ else 0)=_;rw[Ak (by unfold Qx;decide),fC]
 .rw[fC];omega
theorem Y47:∀(l1 l2:List UInt8) (a:Nat),Lib.parseUint10 a (l1++l2)=match Lib.parseUint10 a l1 with|.ok u=>Lib.parseUint10 u l2|Lib.NumEnd.syntax=>Lib.NumEnd.syntax|.range=>.range:=by
 intro l1
 induction l1 with
 | nil=>intro l2 a;rfl
 | cons c r ih=>
  intro l2 a;simp only[Io,Lib.parseUint10];split
  .split
   .rfl
   .split
    .rfl
    .exact ih l2 _
  .rfl
theorem Yv2:∀(k u:Nat),u < 10^(k+1)->u < 18446744073709551616->Lib.parseUint10 0 (Lib.decDigits u)=.ok u:=by
 intro k
 induction k with
 | zero=>
  intro u hu hb;have e:=Nt (d:=u) (by omega);rw[Lib.decDigits,dif_pos (by omega)];simp only[Lib.parseUint10];rw[Aj (by omega),Ak (by omega),Ak (by omega)]
  congr 1;omega
 | succ k ih=>
  intro u hu hb;rw[Lib.decDigits];split
  .have e:=Nt (d:=u) (by omega)
   simp only[Lib.parseUint10];rw[Aj (by omega),Ak (by omega),Ak (by omega)]
   congr 1;omega
  .have e:=Nt (d:=u % 10) (by omega)
   rw[Y47,ih (u / 10) (by rw[Tf] at hu;omega) (by omega)];simp only[Lib.parseUint10];rw[Aj (by omega),Ak (by omega),Ak (by omega)]
   congr 1;omega
theorem Y5f {v:Int} (h:Bz v):Lib.atoiAll (Lib.itoa v)=.ok v:=by
 obtain⟨h1,h2⟩:=h;have hp:∀u:Nat,u < 18446744073709551616->Lib.parseMag (Lib.decDigits u)=.ok u:=λu hu=>by
  unfold Lib.parseMag;rw[Ak (Yck u),Yv2 u u (Yvs u) hu]
 unfold Lib.itoa;split
 .rename_i hn
  rw[Lib.atoiAll_minus,hp _ (by omega)];unfold Lib.signed;simp only;rw[Ak (by omega)]
  congr 1;omega
 .rename_i hn
  obtain⟨c,l,hl⟩:∃c l,Lib.decDigits v.toNat=c::l:=by
   cases h:Lib.decDigits v.toNat with
   | nil=>exact absurd h (Yck _)
   | cons c l=>exact⟨c,l,rfl⟩
  have hd:Qx c:=LO (u:=v.toNat) (by rw[hl];exact BJ);unfold Qx at hd;rw[hl,Lib.atoiAll_plain c l (by omega) (by omega),<-hl,hp _ (by omega)];unfold Lib.signless;simp only;rw[Ak (by omega)]
  congr 1;omega
theorem UW {k u:Nat} (h:u < 10^(k+1)):(Lib.decDigits u).length<=k+1:=Z26 k u h
theorem Ylv {v d:Int} (h:-1000000000000000000 < v/\v < 1000000000000000000) (hd:18<=d):Lz (Zy v) d=some (v,true):=by
 have hr:Bz v:=⟨by omega,by omega⟩;have hz:=Xn hr;unfold Lz;have e:(Zy v).data.toList=Lib.itoa v:=rfl;rw[Aj (by omega),e,Y5f hr];simp only;rw[Aj];refine⟨trivial,?_⟩;unfold Lib.trimPrefix;by_cases hn:v < 0
 .have e2:Lib.itoa v=45::Lib.decDigits v.natAbs:=by unfold Lib.itoa;rw[Aj hn]
  have:=UW (k:=17) (u:=v.natAbs) (by omega);rw[e2,Aj (by simp[Lib.hasPrefix,List.isPrefixOf])];simp;omega
 .have e2:Lib.itoa v=Lib.decDigits v.toNat:=by unfold Lib.itoa;rw[Ak hn]
  have:=UW (k:=17) (u:=v.toNat) (by omega);rw[e2];split
  .simp;omega
  .omega
theorem Yb9 {x:ByteArray} {d:Int} (h:x.size<=281474976710656):∃r,Lz x d=some r/\(r.2=true->L8 x=Lib.itoa r.1/\Bz r.1):=by
 unfold Lz;rw[Aj h]
 match hq:Lib.atoiAll x.data.toList with
 | .ok v=>
  simp only;by_cases hc:Lib.itoa v=x.data.toList/\((Lib.trimPrefix x.data.toList [45]).length:Int)<=d
  .rw[Aj hc]
   refine⟨_,rfl,λ_=>⟨hc.1.symm,?_⟩⟩;unfold Lib.atoiAll at hq;split at hq
   .cases hq
   .simp only at hq
    split at hq
    .cases hq
    .cases hq
    .split at hq
     .cases hq
     .rename_i h1
      split at hq
      .cases hq
      .rename_i h2
       injection hq with hq;split at hq
       .rename_i h3
        have:=gM λhh=>h2 ⟨h3,hh⟩;exact⟨by show _<=v;omega,by show v<=_;omega⟩
       .rename_i h3
        have:=uL λhh=>h1 ⟨h3,hh⟩;exact⟨by show _<=v;omega,by show v<=_;omega⟩
  .rw[Ak hc];exact⟨_,rfl,λh=>by cases h⟩
 | Lib.NumEnd.syntax=>exact⟨_,rfl,λh=>by cases h⟩
 | .range=>exact⟨_,rfl,λh=>by cases h⟩
theorem Y79 (a:Int):Bz (IntKind.i64.wrap a):=by
 unfold Bz;simp[IntKind.wrap,IntKind.bits,IntKind.signed];constructor<;>omega
theorem Yuy:∀(l:List UInt8) (a k:Nat),a < 10^k->l.foldl Et a < 10^(k+l.length):=by
 intro l
 induction l with
 | nil=>intro a k h;exact h
 | cons c l ih=>
  intro a k h;rw[HG,AU,show k+(l.length+1)=(k+1)+l.length by omega];refine ih _ _ ?_;unfold Et;rw[Tf];split
  .rename_i hd;unfold Qx at hd;omega
  .omega
def ES (l:List UInt8):Nat:=l.foldl Et 0
def EC (l:List UInt8):Nat:=l.countP λc=>decide (Qx c)
theorem Y8j (l:List UInt8) (c:UInt8):ES (l++[c])=Et (ES l) c:=by unfold ES;rw[Tc];rfl
theorem Y7i (l:List UInt8) (c:UInt8):EC (l++[c])=EC l+if Qx c then 1 else 0:=by
 unfold EC;rw[List.countP_append,gQ,List.countP_nil];simp
theorem dgW {c:UInt8} (h:Qx c):MF (zB (c.toNat:Int) 48)=((c.toNat - 48:Nat):Int):=by
 unfold Qx at h;simp[MF,zB,IntKind.wrap,IntKind.bits,IntKind.signed];omega
theorem Yc4 (x:ByteArray):Js x=(if 0 < (L8 x).length then (GK x 0).bind λa=>Wn x (ES ((L8 x).take 11)) (EC ((L8 x).take 11)) (decide (a=45)) else Wn x (ES ((L8 x).take 11)) (EC ((L8 x).take 11)) false):=by
 unfold Js;have Ww:=Z5 x;have fin:∀(κ:Int->Int->Int->Option (Int×Bool)) (n k:Int) (i:Int),TP x κ n k i false=(if 0 < (L8 x).length then (GK x 0).bind λa=>Wn x n k (decide (a=45)) else Wn x n k false):=λκ n k i=>by
  unfold TP;rw[Ak (by simp),Ww];by_cases h0:0 < (L8 x).length
  .rw[Aj (by simpa using h0),Aj h0]
  .rw[Ak (by simpa using h0),Ak h0]
 have hT:((L8 x).take 11).length=min 11 (L8 x).length:=FZ;have:=K8 (σ:=Int×Int) (n:=((L8 x).take 11).length) (by omega) (λk=>((ES (((L8 x).take 11).take k):Int),(EC (((L8 x).take 11).take k):Int))) (B:=λκ st j=>nG x (λa b c=>κ (a,b) c) st.1 st.2 j) (L:=λm st j=>nH x m st.1 st.2 j) (λm s i=>rfl) (λk hk κ=>?_) (r:=(if 0 < (L8 x).length then (GK x 0).bind λa=>Wn x (ES ((L8 x).take 11)) (EC ((L8 x).take 11)) (decide (a=45)) else Wn x (ES ((L8 x).take 11)) (EC ((L8 x).take 11)) false)) λκ=>?_
 .simpa [ES,EC] using this
 .have UQ:k < (L8 x).length:=by omega
  have GP:k < 11:=by omega
  have hg:((L8 x).take 11)[k]=(L8 x)[k]:=by simp
  have e:=List.take_succ_eq_append_getElem (l:=(L8 x).take 11) hk;have hb:=Yuy (((L8 x).take 11).take k) 0 0 (by simp);have E1:10^(0+(((L8 x).take 11).take k).length)<=10^11:=Vn (by omega) (by simp;omega);have NK:ES (((L8 x).take 11).take k) < 10^11:=Hc hb E1;have vL:EC (((L8 x).take 11).take k)<=11:=by
   unfold EC;have:=Vei (p:=λc=>decide (Qx c)) (l:=((L8 x).take 11).take k);simp at this;omega
  unfold nG;rw[Aj (by rw[Ww];simpa using UQ)];unfold TP;simp only;rw[Aj (by simp;omega),KB UQ,Ag,e,Y8j,Y7i,hg];have step:∀b:Bool,(b=true↔Qx (L8 x)[k])->aK x (λa b c=>κ (a,b) c) (ES (((L8 x).take 11).take k)) (EC (((L8 x).take 11).take k)) k b=κ (((Et (ES (((L8 x).take 11).take k)) (L8 x)[k]:Nat):Int),((EC (((L8 x).take 11).take k)+if Qx (L8 x)[k] then 1 else 0:Nat):Int)) (Zn k 1):=λb hb=>by
   unfold aK Et;by_cases hd:Qx (L8 x)[k]
   .rw[Aj (hb.2 hd),Aj hd,Aj hd,KB UQ,Ag,dgW hd,Jt (by omega) (by omega),Yj (a:=_*10) (by unfold Qx at hd;omega) (by unfold Qx at hd;omega),Ye (by omega)]
    rfl
   .rw[Ak (λh=>hd (hb.1 h)),Ak hd,Ak hd];rfl
  by_cases h48:48<=(L8 x)[k].toNat
  .rw[Aj (decide_eq_true (by omega))]
   exact step _ (by unfold Qx;simp;omega)
  .rw[Ak (by rw[Bj];omega)]
   exact step _ (by unfold Qx;simp;omega)
 .unfold nG
  rw[Fb];simp only;by_cases hc:((L8 x).take 11).length < (L8 x).length
  .rw[Aj (by rw[Ww];simpa using hc),show decide (((((L8 x).take 11).length:Nat):Int) < 11)=false by simp;omega,fin]
  .rw[Ak (by rw[Ww];simpa using hc),fin]
theorem SC (l:List UInt8):ES (l.take 11) < 10^11:=by
 have hb:=Yuy (l.take 11) 0 0 (by simp);exact Hc hb (Vn (by omega) (by simp;omega))
theorem OW (x:ByteArray):∃r,Js x=some r:=by
 have Sq:=SC (L8 x);have j5:∀(v k:Int),Bz v->∃r,R3 x v k=some r:=λv k hv=>by
  unfold R3;rw[Wr hv,Ag];split
  .exact⟨_,rfl⟩
  .split
   .exact⟨_,rfl⟩
   .split<;>exact⟨_,rfl⟩
 have j4:∀b,∃r,Wn x (ES ((L8 x).take 11)) (EC ((L8 x).take 11)) b=some r:=λb=>by
  unfold Wn;split
  .exact j5 _ _ (Y79 _)
  .exact j5 _ _ ⟨by omega,by omega⟩
 rw[Yc4];split
 .rename_i h0
  rw[show (0:Int)=((0:Nat):Int) from rfl,KB h0,Ag];exact j4 _
 .exact j4 _
theorem Ykj {l:List UInt8} (h:∀c∈l,Qx c):EC l=l.length:=by
 unfold EC;rw[List.countP_eq_length];intro c hc;exact decide_eq_true (h c hc)
theorem Y6z (x:ByteArray):(x.toList == x.toList)=true:=beq_self_eq_true _
theorem Nu {v:Int} (h:-1000000000 < v/\v < 1000000000):Js (Zy v)=some (v,true):=by
 have hr:Bz v:=⟨by omega,by omega⟩;have key:∀k:Int,k<=9->(Zy v).size<=10->R3 (Zy v) v k=some (v,true):=λk hk hz=>by
  unfold R3;rw[Ak (by rw[Bj];omega),Ak (by rw[Bj];omega),Wr hr,Ag,Ak (by rw[Y6z];simp)]
 have ha:=tL v;rw[Yc4,Yh];by_cases hn:v < 0
 .have e2:Lib.itoa v=45::Lib.decDigits v.natAbs:=by unfold Lib.itoa;rw[Aj hn]
  have hl:=UW (k:=8) (u:=v.natAbs) (by omega);have ht:(Lib.itoa v).take 11=Lib.itoa v:=D6 (by rw[e2];simp;omega);have hk:EC (Lib.itoa v)=(Lib.decDigits v.natAbs).length:=by
   rw[e2];unfold EC;rw[gQ,Ak (by decide)];exact Ykj λc hc=>LO hc
  rw[Aj (by rw[e2];simp),ht,show (0:Int)=((0:Nat):Int) from rfl,KB (by rw[Yh,e2];simp),Ag];have h45:(L8 (Zy v))[0]'(by rw[Yh,e2];simp)=45:=by simp[Yh,e2]
  rw[h45];show Wn (Zy v) _ _ true=_;unfold Wn;rw[Aj rfl,show ((ES (Lib.itoa v):Nat):Int)=-v by unfold ES;rw[ha];omega,hk];have:T4 (-v)=v:=by simp[T4,IntKind.wrap,IntKind.bits,IntKind.signed];omega
  rw[this];exact key _ (by omega) (by rw[Z5,Yh,e2];simp;omega)
 .have e2:Lib.itoa v=Lib.decDigits v.toNat:=by unfold Lib.itoa;rw[Ak hn]
  have hl:=UW (k:=8) (u:=v.toNat) (by omega);have ht:(Lib.itoa v).take 11=Lib.itoa v:=D6 (by rw[e2];omega);have Yg:=Yn1 v;have M1:0 < (Lib.itoa v).length:=Cw.2 Yg;have hk:EC (Lib.itoa v)=(Lib.decDigits v.toNat).length:=by
   rw[e2];exact Ykj λc hc=>LO hc
  rw[Aj M1,ht,show (0:Int)=((0:Nat):Int) from rfl,KB (by rw[Yh];exact M1),Ag];have hd:Qx ((L8 (Zy v))[0]'(by rw[Yh];exact M1)):=by
   refine LO (u:=v.toNat) ?_;rw[<-e2];exact B5 M1
  rw[show decide ((((L8 (Zy v))[0]'(by rw[Yh];exact M1)).toNat:Int)=45)=false by unfold Qx at hd;simp;omega];unfold Wn;rw[Ak (by simp),show ((ES (Lib.itoa v):Nat):Int)=v by unfold ES;rw[ha];omega,hk];exact key _ (by omega) (by rw[Z5,Yh,e2];omega)
theorem Ya5 {ws:List ByteArray} (hl:ws.length < 1048600) (hz:∀w∈ws,w.size<=281474976710656):∃r,L0 ws=some r/\(r.2=true->r.1.length=ws.length/\∀v∈r.1,Bz v):=by
 have key:∀(m k:Nat) (out:List Int),k<=ws.length->ws.length - k < m->out.length=k->(∀v∈out,Bz v)->∃r,O5 ws m out (k:Int)=some r/\(r.2=true->r.1.length=ws.length/\∀v∈r.1,Bz v):=by
  intro m
  induction m with
  | zero=>intro k out _ h;omega
  | succ m ih=>
   intro k out hk hm ho hv;show ∃r,O4 ws (O5 ws m) out (k:Int)=some r/\_;unfold O4;by_cases hc:k < ws.length
   .obtain⟨r,h1,h2⟩:=Yb9 (d:=18) (hz _ (B5 hc))
    rw[Aj (by simpa using hc),Zx hc,Ag,h1,Ag];by_cases hr:r.2=true
    .rw[Ak (by simp[hr]),Yp (by simp;omega) (by simp;omega),Ag,Ye (by omega)]
     refine ih (k+1) _ (by omega) (by omega) (by simp;omega) λv CW=>?_;rcases BU.1 CW with CW|CW
     .exact hv v CW
     .rw[List.mem_singleton.1 CW];exact (h2 hr).2
    .rw[Aj (by simp[hr])]
     exact⟨_,rfl,λh=>by cases h⟩
   .rw[Ak (by simpa using hc)]
    exact⟨_,rfl,λ_=>⟨by show out.length=_;omega,hv⟩⟩
 exact key FU 0 [] (Cf _) (by have:=Y5;omega) rfl (by simp)
theorem UX {l:List Int} (hl:l.length < 1048600) (h:∀v∈l,-1000000000000000000 < v/\v < 1000000000000000000):L0 (l.map Zy)=some (l,true):=by
 unfold L0;refine K8 (σ:=List Int) (n:=l.length) (by omega) (λk=>l.take k) (B:=λκ st j=>O4 (l.map Zy) κ st j) (L:=λm st j=>O5 (l.map Zy) m st j) (λm s i=>rfl) (λk hk κ=>?_) λκ=>?_
 .unfold O4
  rw[Aj (by simpa using hk),Zx (by simpa using hk),Ag,gR,Ylv (h _ (B5 hk)) (by omega),Ag,Ak (by simp),Yp (by simp;omega) (by simp;omega),Ag,List.take_succ_eq_append_getElem hk]
 .unfold O4
  rw[Ak (by simp),Fb]
theorem Yol {ws:List ByteArray} {l:List Int} (h:ws.map L8=l.map Lib.itoa):ws=l.map Zy:=by
 induction ws generalizing l with
 | nil=>cases l with
  | nil=>rfl
  | cons a l=>simp at h
 | cons w ws ih=>cases l with
  | nil=>simp at h
  | cons a l=>
   simp only[C7,Vt] at h ⊢;exact⟨K4 h.1,ih h.2⟩
def mW (m:Ze):List UInt8:=if m.prio=true then Lib.itoa m.weight++[58]++Lib.itoa m.every++[58]++Lib.itoa m.cap else Lib.itoa m.weight
def UY (c:Zi):List UInt8:=Lib.itoa c.Aw++[32]++Lib.itoa c.Au++[32]++Lib.itoa c.Ao++[32]++Lib.itoa c.Ar++[32]++Lib.itoa c.Am
def DU (c:Zi):List UInt8:=UY c++c.Ab.flatMap λm=>[32]++mW m
def Kx (c:Zi):List Int:=[c.Aw,c.Au,c.Ao,c.Ar,c.Am]
def ET (c:Zi):List (List UInt8):=(Kx c).map Lib.itoa++c.Ab.map mW
theorem Z9q (c:Zi):DU c=Lib.join (ET c) [32]:=by
 unfold DU ET UY Kx;simp only[C7,Hf,Io,KJ];rw[Lib.join_cons];unfold Lib.joinTail;simp only[C7,DV,List.append_assoc,Hg,Vs];rfl
structure fD (c:Zi):Prop where
 q:1<=c.Aw/\c.Aw<=4
 w:0<=c.Au/\c.Au<=3
 r:0<=c.Ao/\c.Ao<=3
 s:1<=c.Ar/\c.Ar<=12
 k:1<=c.Am/\c.Am<=40
 n:1<=c.Ab.length/\c.Ab.length<=4
 m:∀m∈c.Ab,(1<=m.weight/\m.weight<=4)/\(-1<=m.every/\m.every<=1000)/\(0<=m.cap/\m.cap<=8)/\(m.prio=false->m.every=0/\m.cap=0)
theorem fE {c:Zi} (h:Ys c=true):fD c:=by
 have h0:=h;simp only[Ys,Bg,Bj,Cd] at h;obtain⟨⟨⟨⟨h1,h2⟩,h3⟩,h4⟩,h5⟩:=h;have hk:F5 c≠0/\1<=c.Am/\c.Am<=40:=by
  unfold Jf at h4;split at h4
  .exact absurd rfl h4
  .split at h4
   .rename_i a b;exact⟨a,b⟩
   .exact absurd rfl h4
 have hc:(0<=c.Ao/\c.Ao<=3)/\(0<=c.Au/\c.Au<=3):=by
  have:=hk.1;unfold F5 at this;split at this
  .assumption
  .exact absurd rfl this
 refine⟨h2,hc.2,hc.1,h3,hk.2,by omega,λm hm=>?_⟩;have La:=h5 m hm;have he:=Ng La;refine⟨Z54 h0 hm,⟨he.1,he.2.1⟩,he.2.2,λhp=>?_⟩;simp only[Q5,Bg,Bj,hp] at La;simpa using La.2
theorem Y3w {m:Ze} (h1:Bz m.weight) (h2:Bz m.every) (h3:Bz m.cap):(mW m).length<=62:=by
 have:=Wx h1;have:=Wx h2;have:=Wx h3;unfold mW;split<;>simp<;>omega
theorem Yay {c:Zi} (hl:c.Ab.length < 1048577):T8 c=some (if Ys c=true then ⟨(DU c).toArray⟩ else ByteArray.empty):=by
 unfold T8;rw[Se c hl,Ag];by_cases h:Ys c=true
 .obtain⟨hq,hw,hr,hs,hk,hn,hm⟩:=fE h
  have iq:Bz c.Aw:=⟨by omega,by omega⟩;have iw:Bz c.Au:=⟨by omega,by omega⟩;have ir:Bz c.Ao:=⟨by omega,by omega⟩;have tM:Bz c.Ar:=⟨by omega,by omega⟩;have ik:Bz c.Am:=⟨by omega,by omega⟩;have z1:=Xn iq;have z2:=Xn iw;have z3:=Xn ir;have z4:=Xn tM;have z5:=Xn ik;rw[Ak (by simp[h]),Aj h];simp only[Wr iq,Wr iw,Wr ir,Wr tM,Wr ik,Ag];simp (disch:=(first|omega|(simp only[Yv,Z3,AU,Bo];omega))) only[We,Ag];have key:∀(m k:Nat) (v0:ByteArray),k<=c.Ab.length->c.Ab.length - k < m->v0.size<=200+70*k->ZC c m v0 (k:Int)=some ⟨(L8 v0++(c.Ab.drop k).flatMap λm=>[32]++mW m).toArray⟩:=by
   intro m
   induction m with
   | zero=>intro k v0 _ h;omega
   | succ m ih=>
    intro k v0 hk DA hv;show zO c (ZC c m) v0 (k:Int)=_;unfold zO;by_cases hc:k < c.Ab.length
    .obtain⟨⟨m1,m2⟩,⟨m3,m4⟩,⟨m5,m6⟩,_⟩:=hm _ (B5 hc)
     have i1:Bz c.Ab[k].weight:=⟨by omega,by omega⟩;have i2:Bz c.Ab[k].every:=⟨by omega,by omega⟩;have i3:Bz c.Ab[k].cap:=⟨by omega,by omega⟩;have y1:=Xn i1;have y2:=Xn i2;have y3:=Xn i3;rw[Aj (by simpa using hc),Zx hc,Ag,Wr i1,Wr i2,Wr i3,D5 hc,Fa];simp (disch:=(first|omega|(simp only[Yv,Z3,AU,Bo];omega))) only[We,Ag];rw[Ye (by omega)];by_cases hp:c.Ab[k].prio=true
     .rw[Aj hp,ih (k+1) _ (by omega) (by omega) (by simp only[Yv,Z3,AU,Bo];omega)]
      simp only[Xz,Zz,Yh,mW,hp,if_true,List.append_assoc]
     .rw[Ak hp,ih (k+1) _ (by omega) (by omega) (by simp only[Yv,Z3,AU,Bo];omega)]
      simp only[Xz,Zz,Yh,mW,hp,if_false,List.append_assoc,Bn]
    .rw[Ak (by simpa using hc),EZ (by omega)]
     exact congrArg some (K4 (by rw[Xp (L8 v0++([]:List Ze).flatMap _)];simp))
  rw[show (0:Int)=((0:Nat):Int) from rfl,key FU 0 _ (Cf _) (by have:=Y5;omega) (by simp only[Yv,Z3,AU,Bo];omega)];simp only[Xz,Zz,Yh,LV,DU,UY]
 .rw[Aj (by simp[h]),Ak h]
theorem Zzz {c:Zi} (hl:c.Ab.length < 1048577):RA c=some (if Ys c=true then ⟨(DU c).toArray⟩ else ByteArray.empty):=by
 unfold RA;rw[U8 c hl,Ag];by_cases h:Ys c=true
 .obtain⟨hq,hw,hr,hs,hk,hn,hm⟩:=fE h
  have iq:Bz c.Aw:=⟨by omega,by omega⟩;have iw:Bz c.Au:=⟨by omega,by omega⟩;have ir:Bz c.Ao:=⟨by omega,by omega⟩;have tM:Bz c.Ar:=⟨by omega,by omega⟩;have ik:Bz c.Am:=⟨by omega,by omega⟩;rw[Ak (by simp[h]),Aj h];have hi:∀x∈Kx c,Bz x:=by
   intro x hx;unfold Kx at hx;simp only[Ce,Ip,or_false] at hx;rcases hx with rfl|rfl|rfl|rfl|rfl<;>assumption
  have e0:L2 [c.Aw,c.Au,c.Ao,c.Ar,c.Am]=some ((Kx c).map Zy):=tH (l:=Kx c) (by simp[Kx]) hi;rw[e0,Ag];have mi:∀m∈c.Ab,Bz m.weight/\Bz m.every/\Bz m.cap:=λm DA=>by
   obtain⟨⟨m1,m2⟩,⟨m3,m4⟩,⟨m5,m6⟩,_⟩:=hm m DA;exact⟨⟨by omega,by omega⟩,⟨by omega,by omega⟩,⟨by omega,by omega⟩⟩
  have hj:(Lib.join (ET c) [32]).length<=1000:=by
   rw[<-Z9q];unfold DU UY;have:=Wx iq;have:=Wx iw;have:=Wx ir;have:=Wx tM;have:=Wx ik;have hf:∀l:List Ze,(∀m∈l,m∈c.Ab)->(l.flatMap λm=>[32]++mW m).length<=63*l.length:=by
    intro l
    induction l with
    | nil=>intro _;simp
    | cons m l ih=>
     intro hh;have h1:=ih λx hx=>hh x (Cp _ hx);obtain⟨a1,a2,a3⟩:=mi m (hh m BJ);have h2:=Y3w a1 a2 a3;rw[Fa,Cy,AU];simp only[Cy,AU,Bo];omega
   have:=hf c.Ab λ_ h=>h;simp only[Cy,AU,Bo];omega
  refine K8 (σ:=List ByteArray) (n:=c.Ab.length) (by omega) (λk=>(Kx c).map Zy++(c.Ab.take k).map λm=>(⟨(mW m).toArray⟩:ByteArray)) (B:=λκ st j=>nX c κ st j) (L:=λm st j=>nY c m st j) (λm s i=>rfl) (λk W9 κ=>?_) λκ=>?_
  .unfold nX
   obtain⟨i1,i2,i3⟩:=mi _ (B5 W9);have h2:(c.Ab.take k).length<=k:=by rw[FZ];omega
   have h5:(Kx c).length=5:=rfl;rw[Aj (by simpa using W9),Zx W9,Ag,Hz i1,Ag,List.take_succ_eq_append_getElem W9,G0,<-List.append_assoc];by_cases hp:c.Ab[k].prio=true
   .have ed:L2 [c.Ab[k].weight,c.Ab[k].every,c.Ab[k].cap]=some ([c.Ab[k].weight,c.Ab[k].every,c.Ab[k].cap].map Zy):=tH (by simp) (by
     intro x hx;simp only[Ce,Ip,or_false] at hx;rcases hx with rfl|rfl|rfl<;>assumption)
    have ej:Lib.join (([c.Ab[k].weight,c.Ab[k].every,c.Ab[k].cap].map Zy).map L8) (L8 (Zc [58]))=mW c.Ab[k]:=by
     unfold mW;rw[Aj hp];simp only[C7,Hf,Yh,Zz];rw[Lib.join_cons];simp[Lib.joinTail]
    have hz:=Y3w i1 i2 i3;rw[Aj hp,ed,Ag,Nd (by simp) (by rw[ej];omega),Ag,ej,Yp (by simp;omega) (by simp;omega),Ag];rfl
   .rw[Ak hp,Yp (by simp;omega) (by simp;omega),Ag]
    have:Zy c.Ab[k].weight=⟨(mW c.Ab[k]).toArray⟩:=K4 (by rw[Yh,Xp (mW _)];unfold mW;rw[Ak hp]);rw[this];rfl
  .unfold nX
   have em:((Kx c).map Zy++(c.Ab.take c.Ab.length).map λm=>(⟨(mW m).toArray⟩:ByteArray)).map L8=ET c:=by
    rw[Fb,G0,Hg,Hg];rfl
   rw[Ak (by simp),Nd (by simp[Kx];omega) (by rw[em,Zz];omega),Ag,em,Zz,<-Z9q]
 .rw[Aj (by simp[h]),Ak h]
def fF (x:ByteArray) (c:Zi):Prop:=Ys c=true/\L8 x=DU c
def Ie (x:ByteArray) (r:Zi×Bool):Prop:=r=(Zi.z0,false)\/(r.2=true/\fF x r.1)
theorem Yup (c:Zi):DU c≠[]:=by
 unfold DU UY;obtain⟨a,l,h⟩:=Ysd (v:=c.Aw);rw[h];simp
theorem Ykq {x:ByteArray} {c:Zi} (h:L8 x=DU c):Y9 32 (L8 x)=ET c:=by
 rw[h,Z9q,tK (by simp[ET,Kx])];intro w hw y hy;unfold ET at hw;rcases BU.1 hw with hw|hw
 .obtain⟨v,_,rfl⟩:=Dx.1 hw
  exact KC hy (.inl rfl)
 .obtain⟨m,_,rfl⟩:=Dx.1 hw
  unfold mW at hy;split at hy
  .simp only[BU,List.mem_singleton] at hy
   rcases hy with (((hy|hy)|hy)|hy)|hy
   .exact KC hy (.inl rfl)
   .subst hy;decide
   .exact KC hy (.inl rfl)
   .subst hy;decide
   .exact KC hy (.inl rfl)
  .exact KC hy (.inl rfl)
def Ig (m:Ze):List Int:=if m.prio=true then [m.weight,m.every,m.cap] else [m.weight]
theorem Yr3 (m:Ze):Y9 58 (mW m)=(Ig m).map Lib.itoa:=by
 have tN:∀v:Int,∀y∈Lib.itoa v,y≠58:=λv y hy=>KC hy (.inr (.inl rfl));unfold mW Ig;by_cases hp:m.prio=true
 .rw[Aj hp,Aj hp]
  have e:Lib.itoa m.weight++[58]++Lib.itoa m.every++[58]++Lib.itoa m.cap=Lib.itoa m.weight++58::(Lib.itoa m.every++58::Lib.itoa m.cap):=by simp
  rw[e,OV (tN _),OV (tN _),fB (tN _)];rfl
 .rw[Ak hp,Ak hp,fB (tN _)];rfl
theorem Z7k {x:ByteArray} {c:Zi} (hl:c.Ab.length < 1048577):∃r,((T8 c).bind λr4=>
  if (!(r4.toList == x.toList))=true then (some (Zi.z0,false)) else (if (x.toList == ByteArray.empty.toList)=true then (some (Zi.z0,false)) else (some (c,true))))=some r/\Ie x r/\(fF x c->r=(c,true)):=by
 rw[Yay hl,Ag];by_cases h:Ys c=true
 .rw[Aj h,Lib.toList_data,Lib.toList_data,Lib.toList_data]
  by_cases he:DU c=L8 x
  .have e1:((⟨(DU c).toArray⟩:ByteArray).data.toList == x.data.toList)=true:=beq_iff_eq.2 he
   have e2:¬(x.data.toList == ByteArray.empty.data.toList)=true:=λhh=>Yup c (by rw[he];exact beq_iff_eq.1 hh);rw[Ak (by simp[e1]),Ak e2];exact⟨_,rfl,.inr ⟨rfl,h,he.symm⟩,λ_=>rfl⟩
  .have e1:¬((⟨(DU c).toArray⟩:ByteArray).data.toList == x.data.toList)=true:=λhh=>he (beq_iff_eq.1 hh)
   rw[Aj (by simpa using e1)];exact⟨_,rfl,.inl rfl,λhh=>absurd hh.2.symm he⟩
 .rw[Ak h]
  split
  .exact⟨_,rfl,.inl rfl,λhh=>absurd hh.1 h⟩
  .rename_i h1
   have h2:(ByteArray.empty.toList == x.toList)=true:=by simpa using h1
   rw[Aj (by rw[beq_iff_eq] at h2 ⊢;exact h2.symm)];exact⟨_,rfl,.inl rfl,λhh=>absurd hh.1 h⟩
theorem Je {x w:ByteArray} {c:UInt8} {ws:List ByteArray} (h:ws.map L8=Y9 c (L8 x)) (hw:w∈ws):w.size<=x.size:=by
 rw[Z5,Z5];refine Ykd (c:=c) ?_;rw[<-h];exact List.mem_map_of_mem hw
theorem Ih {x:ByteArray} {c:UInt8} {ws:List ByteArray} (h:ws.map L8=Y9 c (L8 x)):ws.length<=x.size+1/\1<=ws.length:=by
 have h1:=congrArg List.length h;rw[KH] at h1;have h2:=Yo2 c (L8 x);rw[<-Z5] at h2;have h3:0 < (Y9 c (L8 x)).length:=Cw.2 (fA c (L8 x));omega
theorem Ymc {x:ByteArray} {ws:List ByteArray} (hw:ws.map L8=Y9 32 (L8 x)) (hx:x.size<=1048576):∀(m j:Nat) (c:Zi),j<=ws.length->ws.length - j < m->c.Ab.length+5<=j->
  ∃r,Jc x m c ws (j:Int)=some r/\Ie x r:=by
 have Yo:=Ih hw;intro m
 induction m with
 | zero=>intro j c _ h;omega
 | succ m ih=>
  intro j c hj hm hc;show ∃r,aL x (Jc x m) c ws (j:Int)=some r/\_;unfold aL;by_cases Z7:j < ws.length
  .have Ww:ws[j].size<=x.size:=Je hw (B5 Z7)
   obtain⟨ps,h1,h2⟩:=HA (x:=ws[j]) 58 (by omega);have h1:Wy ws[j] 58=some ps:=h1;have hp:=Ih h2;rw[Aj (by simpa using Z7),Zx Z7,Ag,h1,Ag,show (0:Int)=((0:Nat):Int) from rfl,Zx (by omega),Ag];obtain⟨q1,e1⟩:=OW ps[0];rw[e1,Ag];have next:∀mc:Ze,∃r,R4 x (Jc x m) c mc ws (j:Int)=some r/\Ie x r:=λmc=>by
    unfold R4;rw[Yp (by simp;omega) (by simp;omega),Ag,Ye (by omega)];exact ih (j+1) _ (by omega) (by omega) (by simp;omega)
   by_cases h3:ps.length=3
   .obtain⟨q2,e2⟩:=OW ps[1]
    obtain⟨q3,e3⟩:=OW ps[2];rw[Aj (by simp[h3]),show (1:Int)=((1:Nat):Int) from rfl,Zx (by omega),Ag,e2,Ag,show (2:Int)=((2:Nat):Int) from rfl,Zx (by omega),Ag,e3,Ag];exact next _
   .rw[Ak (by simp;omega)]
    exact next _
  .rw[Ak (by simpa using Z7)]
   obtain⟨r,h1,h2,_⟩:=Z7k (x:=x) (c:=c) (by omega);exact⟨r,h1,h2⟩
theorem Yis {x:ByteArray} (hx:x.size<=1048576):∃r,Ly x=some r/\Ie x r:=by
 obtain⟨ws,h1,h2⟩:=HA (x:=x) 32 (by omega);have h1:Wy x 32=some ws:=h1;unfold Ly;rw[h1,Ag];by_cases hl:ws.length < 6
 .rw[Aj (by simp;omega)]
  exact⟨_,rfl,.inl rfl⟩
 .obtain⟨q0,e0⟩:=OW ws[0]
  obtain⟨q1,e1⟩:=OW ws[1];obtain⟨q2,e2⟩:=OW ws[2];obtain⟨q3,e3⟩:=OW ws[3];obtain⟨q4,e4⟩:=OW ws[4];have i0:idx ws 0=some ws[0]:=Zx (k:=0) (by omega);have i1:idx ws 1=some ws[1]:=Zx (k:=1) (by omega);have i2:idx ws 2=some ws[2]:=Zx (k:=2) (by omega);have i3:idx ws 3=some ws[3]:=Zx (k:=3) (by omega);have i4:idx ws 4=some ws[4]:=Zx (k:=4) (by omega);rw[Ak (by simp;omega),i0,Ag,e0,Ag,i1,Ag,e1,Ag,i2,Ag,e2,Ag,i3,Ag,e3,Ag,i4,Ag,e4,Ag];exact Ymc h2 hx FU 5 _ (by omega) (by have:=Y5;have:=Ih h2;omega) (by simp)
theorem Y0j {ws:List ByteArray} {c:Zi} (h:ws.map L8=ET c) {i:Nat} (hi:i < c.Ab.length):∃hl:5+i < ws.length,L8 ws[5+i]=mW c.Ab[i]:=by
 have Yo:ws.length=5+c.Ab.length:=by
  have:=congrArg List.length h;simp[ET,Kx] at this;omega
 refine⟨by omega,?_⟩;have h1:(ws.map L8)[5+i]?=some (mW c.Ab[i]):=by
  rw[h];unfold ET;rw[FE (by simp[Kx])];simp[Kx,hi]
 rw[Dt,CB (by omega)] at h1;simpa using h1
theorem fG {ws:List ByteArray} {c:Zi} (h:ws.map L8=ET c) {i:Nat} (hi:i < 5):∃hl:i < ws.length,ws[i]=Zy ((Kx c)[i]'hi):=by
 have Yo:ws.length=5+c.Ab.length:=by
  have:=congrArg List.length h;simp[ET,Kx] at this;omega
 refine⟨by omega,K4 ?_⟩;have h1:(ws.map L8)[i]?=some (Lib.itoa ((Kx c)[i]'hi)):=by
  rw[h];unfold ET;rw[EX (by simpa [Kx] using hi),Dt,CB (show i < (Kx c).length from hi)];rfl
 rw[Dt,CB (by omega)] at h1;rw[Yh];simpa using h1
theorem Yp1 {c:Zi} {l:List Ze} (h:l=c.Ab):({c with Ab:=l}:Zi)=c:=by subst h;rfl
theorem OX {m:Ze} (h:m.prio=true):Ze.mk m.weight true m.every m.cap=m:=by cases m;simp at h;simp[h]
theorem Y6p {m:Ze} (h:m.prio=false) (h2:m.every=0/\m.cap=0):Ze.mk m.weight false 0 0=m:=by cases m;simp at h h2;simp[h,h2]
theorem Yi3 {x:ByteArray} {c:Zi} (h:fF x c) (hx:x.size<=1048576):Ly x=some (c,true):=by
 obtain⟨hg,ht⟩:=h;have hS:=fE hg;obtain⟨hq,hw,hr,hs,hk,hn,hm⟩:=hS;obtain⟨ws,h1,h2⟩:=HA (x:=x) 32 (by omega);have h1:Wy x 32=some ws:=h1;have hc:ws.map L8=ET c:=by rw[h2,Ykq ht]
 have Yo:ws.length=5+c.Ab.length:=by
  have:=congrArg List.length hc;simp[ET,Kx] at this;omega
 obtain⟨l0,w0⟩:=fG hc (i:=0) (by omega);obtain⟨l1,w1⟩:=fG hc (i:=1) (by omega);obtain⟨l2,w2⟩:=fG hc (i:=2) (by omega);obtain⟨l3,w3⟩:=fG hc (i:=3) (by omega);obtain⟨l4,w4⟩:=fG hc (i:=4) (by omega);have w0:ws[0]=Zy c.Aw:=w0;have w1:ws[1]=Zy c.Au:=w1;have w2:ws[2]=Zy c.Ao:=w2;have w3:ws[3]=Zy c.Ar:=w3;have w4:ws[4]=Zy c.Am:=w4;have i0:idx ws 0=some (Zy c.Aw):=by rw[<-w0];exact Zx (k:=0) (by omega)
 have i1:idx ws 1=some (Zy c.Au):=by rw[<-w1];exact Zx (k:=1) (by omega)
 have i2:idx ws 2=some (Zy c.Ao):=by rw[<-w2];exact Zx (k:=2) (by omega)
 have i3:idx ws 3=some (Zy c.Ar):=by rw[<-w3];exact Zx (k:=3) (by omega)
 have i4:idx ws 4=some (Zy c.Am):=by rw[<-w4];exact Zx (k:=4) (by omega)
 have key:∀(m i:Nat),i<=c.Ab.length->c.Ab.length - i < m->Jc x m {c with Ab:=c.Ab.take i} ws ((5+i:Nat):Int)=some (c,true):=by
  intro m
  induction m with
  | zero=>intro i _ h;omega
  | succ m ih=>
   intro i hi DA;show aL x (Jc x m) {c with Ab:=c.Ab.take i} ws ((5+i:Nat):Int)=some (c,true);unfold aL;by_cases Z7:i < c.Ab.length
   .obtain⟨tO,hww⟩:=Y0j hc Z7
    obtain⟨ps,p1,p2⟩:=HA (x:=ws[5+i]) 58 (by have:ws[5+i].size<=x.size:=Je h2 (B5 tO);omega);have p1:Wy ws[5+i] 58=some ps:=p1;rw[hww,Yr3] at p2;have p3:=Yol p2;obtain⟨⟨m1,m2⟩,⟨m3,m4⟩,⟨m5,m6⟩,m7⟩:=hm _ (B5 Z7);rw[Aj (decide_eq_true (by show ((5+i:Nat):Int) < _;omega)),Zx tO,Ag,p1,Ag];have next:R4 x (Jc x m) {c with Ab:=c.Ab.take i} c.Ab[i] ws ((5+i:Nat):Int)=some (c,true):=by
     unfold R4;simp only;rw[Yp (by simp;omega) (by simp;omega),Ag,Ye (by omega),<-List.take_succ_eq_append_getElem Z7];exact ih (i+1) (by omega) (by omega)
    by_cases hp:c.Ab[i].prio=true
    .have p4:ps=[Zy c.Ab[i].weight,Zy c.Ab[i].every,Zy c.Ab[i].cap]:=by rw[p3];unfold Ig;rw[Aj hp];rfl
     subst p4;have j0:idx [Zy c.Ab[i].weight,Zy c.Ab[i].every,Zy c.Ab[i].cap] 0=some (Zy c.Ab[i].weight):=rfl;have j1:idx [Zy c.Ab[i].weight,Zy c.Ab[i].every,Zy c.Ab[i].cap] 1=some (Zy c.Ab[i].every):=rfl;have j2:idx [Zy c.Ab[i].weight,Zy c.Ab[i].every,Zy c.Ab[i].cap] 2=some (Zy c.Ab[i].cap):=rfl;rw[j0,Ag,Nu ⟨by omega,by omega⟩,Ag,Aj (by simp),j1,Ag,Nu ⟨by omega,by omega⟩,Ag,j2,Ag,Nu ⟨by omega,by omega⟩,Ag,OX hp];exact next
    .have p4:ps=[Zy c.Ab[i].weight]:=by rw[p3];unfold Ig;rw[Ak hp];rfl
     subst p4;have j0:idx [Zy c.Ab[i].weight] 0=some (Zy c.Ab[i].weight):=rfl;have fH:c.Ab[i].prio=false:=by simpa using hp
     rw[j0,Ag,Nu ⟨by omega,by omega⟩,Ag,Ak (by simp),Y6p fH (m7 fH)];exact next
   .rw[Ak (by simp;omega),Yp1 (D6 (by omega))]
    obtain⟨r,e1,_,e3⟩:=Z7k (x:=x) (c:=c) (by omega);rw[e1,e3 ⟨hg,ht⟩]
 unfold Ly;rw[h1,Ag,Ak (by simp;omega),i0,Ag,Nu ⟨by omega,by omega⟩,Ag,i1,Ag,Nu ⟨by omega,by omega⟩,Ag,i2,Ag,Nu ⟨by omega,by omega⟩,Ag,i3,Ag,Nu ⟨by omega,by omega⟩,Ag,i4,Ag,Nu ⟨by omega,by omega⟩,Ag];exact key FU 0 (Cf _) (by have:=Y5;omega)
theorem Z7f {x:ByteArray} {c:Zi} (hl:c.Ab.length < 1048577):∃r,((L1 c).bind λr2=>if (!r2)=true then (some (Zi.z0,false)) else (
   (RA c).bind λr3=>if (!(r3.toList == x.toList))=true then (some (Zi.z0,false)) else (some (c,true))))=some r/\Ie x r/\(fF x c->r=(c,true)):=by
 rw[U8 c hl,Zzz hl,Ag,Ag];by_cases h:Ys c=true
 .rw[Ak (by simp[h]),Aj h,Lib.toList_data,Lib.toList_data]
  by_cases he:DU c=L8 x
  .have e1:((⟨(DU c).toArray⟩:ByteArray).data.toList == x.data.toList)=true:=beq_iff_eq.2 he
   rw[Ak (by simp[e1])];exact⟨_,rfl,.inr ⟨rfl,h,he.symm⟩,λ_=>rfl⟩
  .have e1:¬((⟨(DU c).toArray⟩:ByteArray).data.toList == x.data.toList)=true:=λhh=>he (beq_iff_eq.1 hh)
   rw[Aj (by simpa using e1)];exact⟨_,rfl,.inl rfl,λhh=>absurd hh.2.symm he⟩
 .rw[Aj (by simp[h])]
  exact⟨_,rfl,.inl rfl,λhh=>absurd hh.1 h⟩
theorem idx0 {α:Type} {l:List α} (h:1<=l.length):∃a,idx l 0=some a:=⟨l[0],Zx (k:=0) (by omega)⟩
theorem OY {α:Type} {l:List α} (n:Nat) (h:n < l.length):∃a,idx l (n:Int)=some a:=⟨l[n],Zx h⟩
theorem Yl5 {x:ByteArray} {ws:List ByteArray} (hz:∀w∈ws,w.size<=1048576) (hn:ws.length<=10):∀(m j:Nat) (c:Zi),j<=ws.length->ws.length - j < m->c.Ab.length<=j->
  ∃r,Qt x m c ws (ws.length:Int) (j:Int)=some r/\Ie x r:=by
 intro m
 induction m with
 | zero=>intro j c _ h;omega
 | succ m ih=>
  intro j c hj hm hc;show ∃r,Kp x (Qt x m) c ws (ws.length:Int) (j:Int)=some r/\_;unfold Kp;by_cases Z7:j < ws.length
  .have Ww:=hz _ (B5 Z7)
   obtain⟨ps,h1,h2⟩:=KA (x:=ws[j]) 58 (by omega);have hp:=Ih h2;obtain⟨q,e1,e2⟩:=Ya5 (ws:=ps) (by omega) (λw hw=>by have:=Je h2 hw;omega);rw[Aj (by simpa using Z7),Zx Z7,Ag,h1,Ag,e1,Ag];have next:∀mc:Ze,∃r,((Yz 32 c.Ab [mc]).bind λz0=>Qt x m {c with Ab:=z0} ws (ws.length:Int) (Zn (j:Int) 1))=some r/\Ie x r:=λmc=>by
    rw[Yp (by simp;omega) (by simp;omega),Ag,Ye (by omega)];exact ih (j+1) _ (by omega) (by omega) (by simp;omega)
   have j4:∀b:Bool,(b=true->q.1.length=3)->∃r,RB x (Qt x m) c q.1 ws (ws.length:Int) (j:Int) b=some r/\Ie x r:=λb hb=>by
    unfold RB;by_cases Jm:b=true
    .have h3:=hb Jm
     obtain⟨a0,i0⟩:=OY (l:=q.1) 0 (by omega);obtain⟨a1,i1⟩:=OY (l:=q.1) 1 (by omega);obtain⟨a2,i2⟩:=OY (l:=q.1) 2 (by omega);have i0:idx q.1 0=some a0:=i0;have i1:idx q.1 1=some a1:=i1;have i2:idx q.1 2=some a2:=i2;rw[Aj Jm,i0,Ag,i1,Ag,i2,Ag];exact next _
    .rw[Ak Jm]
     exact⟨_,rfl,.inl rfl⟩
   have j3:∀(b c2:Bool),(c2=true->q.1.length=1)->∃r,RC x (Qt x m) c q.1 b ws (ws.length:Int) (j:Int) c2=some r/\Ie x r:=λb c2 hb=>by
    unfold RC;by_cases Jm:c2=true
    .have h3:=hb Jm
     obtain⟨a0,i0⟩:=idx0 (l:=q.1) (by omega);rw[Aj Jm,i0,Ag];exact next _
    .rw[Ak Jm]
     split
     .exact j4 _ λh=>by simp at h;omega
     .exact j4 _ λh=>by cases h
   split
   .exact j3 _ _ λh=>by simp at h;omega
   .exact j3 _ _ λh=>by cases h
  .rw[Ak (by simpa using Z7)]
   obtain⟨r,h1,h2,_⟩:=Z7f (x:=x) (c:=c) (by omega);exact⟨r,h1,h2⟩
theorem Qi {α:Type} {xs:List α} {a b:Nat} (h1:a<=b) (h2:b<=xs.length):Yt xs (a:Int) (b:Int)=some ((xs.drop a).take (b - a)):=by
 unfold Yt;rw[Aj ⟨by omega,by omega,by omega⟩];rfl
theorem Yig {x:ByteArray} (hx:x.size<=1048576):∃r,L3 x=some r/\Ie x r:=by
 obtain⟨ws,h1,h2⟩:=KA (x:=x) 32 (by omega);have hz:∀w∈ws,w.size<=1048576:=λw hw=>by have:=Je h2 hw;omega
 unfold L3;rw[h1,Ag];have bad:∃r,TX x ws true=some r/\Ie x r:=⟨_,rfl,.inl rfl⟩;by_cases hl:ws.length < 6
 .rw[Aj (by simp;omega)];exact bad
 .rw[Ak (by simp;omega)]
  by_cases CI:ws.length > 9
  .rw[show decide ((ws.length:Int) > 9)=true by simp;omega];exact bad
  .rw[show decide ((ws.length:Int) > 9)=false by simp;omega]
   unfold TX;have s0:Yt ws 0 5=some ((ws.drop 0).take 5):=Qi (a:=0) (b:=5) (by omega) (by omega);have s1:Yt ws 5 (ws.length:Int)=some ((ws.drop 5).take (ws.length - 5)):=Qi (a:=5) (by omega) (B2 _);rw[Ak (by simp),s0,Ag];obtain⟨q,e1,e2⟩:=Ya5 (ws:=(ws.drop 0).take 5) (by simp;omega) (λw hw=>by have:=hz w (FX (FY hw));omega);rw[e1,Ag];by_cases hq:q.2=true
   .have h5:q.1.length=5:=by
     have:=(e2 hq).1;rw[this];simp;omega
    obtain⟨a0,i0⟩:=OY (l:=q.1) 0 (by omega);obtain⟨a1,i1⟩:=OY (l:=q.1) 1 (by omega);obtain⟨a2,i2⟩:=OY (l:=q.1) 2 (by omega);obtain⟨a3,i3⟩:=OY (l:=q.1) 3 (by omega);obtain⟨a4,i4⟩:=OY (l:=q.1) 4 (by omega);have i0:idx q.1 0=some a0:=i0;have i1:idx q.1 1=some a1:=i1;have i2:idx q.1 2=some a2:=i2;have i3:idx q.1 3=some a3:=i3;have i4:idx q.1 4=some a4:=i4;rw[Ak (by simp[hq]),i0,Ag,i1,Ag,i2,Ag,i3,Ag,i4,Ag,s1,Ag];exact Yl5 (λw hw=>hz w (FX (FY hw))) (by simp;omega) FU 0 _ (Cf _) (by have:=Y5;simp;omega) (by simp)
   .rw[Aj (by simp[hq])]
    exact⟨_,rfl,.inl rfl⟩
end Go.Proofs.YthdljdelfgofdaaGreatDoor.Ev
