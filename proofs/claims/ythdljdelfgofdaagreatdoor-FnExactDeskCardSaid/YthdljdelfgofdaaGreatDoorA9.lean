/- A part of the proof of FnExactDesk: see the text YthdljdelfgofdaaGreatDoorLawFnExactDesk for what is proved and its conditions. Conditions here: those in each line. -/
import Derived.Test.YthdljdelfgofdaaGreatDoorA8
import Derived.Lib.AtoiAllCases
import Derived.Lib.IndexBytes
import Derived.Lib.IndexLaws
import Derived.Lib.SplitLaws
set_option linter.unusedSimpArgs false
set_option linter.unusedVariables false
set_option linter.unusedSectionVars false
namespace Go.Proofs.YthdljdelfgofdaaGreatDoor.Ev
open Go Go.Proofs
theorem rR {b:Za} (s:Zb) (hn:0<=b.now) (h:Yz b.now b):Yz (b.now+1) (Z0 b s).1/\((Z0 b s).2.1=true->(Z0 b s).1.Aa=Zi.z0):=by
 unfold Z0;by_cases hd:b.Aa.live=false
 .rw[Ah hd]
  refine⟨h.mono,λ_=>?_⟩;have:=h.data;unfold Kt at this;rw[Ai (by simp[hd])] at this;exact this
 .have DB:b.Aa.live=true:=by simpa using hd
  have CQ:=h.data;unfold Kt at CQ;rw[Ah DB] at CQ;rw[Ai hd];by_cases hl:b.Aa.left > 0
  .rw[Ah hl]
   exact⟨(Y3t h DB hl).mono,λhx=>by cases hx⟩
  .have Pm:b.Aa.left=0:=by have:=CQ.1.2.1;omega
   rw[Ai hl];by_cases h2:b.Aa.Ar≠0/\b.Aa.second=false
   .rw[Ah h2]
    exact⟨(Y2n h DB Pm h2.1).mono,λhx=>by cases hx⟩
   .rw[Ai h2]
    have Lt:b.Aa.Ar≠0->b.addr.live=false:=λhr=>by
     have:b.Aa.second=true:=by
      cases hs:b.Aa.second with
      | true=>rfl
      | false=>exact absurd ⟨hr,hs⟩ h2
     exact (CQ.2.2.2 this).2.2
    have hw:=Kk h DB;have hm:=h.Bx _ hw;by_cases h3:b.Aa.Ar=2
    .rw[Ah h3]
     refine⟨?_,λ_=>?_⟩
     .refine (Ymt h DB (Lt (by omega)) {Ak b.m b.Aa.Aj with tries:=(Ak b.m b.Aa.Aj).tries+1} b.splits rfl rfl rfl rfl ⟨?_,?_⟩ rfl (λi hi=>(h.Bx i hi).split) λ_ h=>h).mono
      .have:=hm.right.tries;show 0<=(Ak b.m b.Aa.Aj).tries+1;omega
      .have:=CQ.2.1 h3;show (Ak b.m b.Aa.Aj).tries+1<=_;omega
     .unfold Ws;split
      .rfl
      .split<;>rfl
    .rw[Ai h3]
     by_cases h4:b.Aa.Ar=3
     .rw[Ah h4]
      have JA:=Y72 h.Ae s b.Au;refine⟨?_,λ_=>?_⟩
      .refine (Ymt h DB (Lt (by omega)) {Ak b.m b.Aa.Aj with Ax:=true} (b.splits.set b.Aa.Aj.toNat (Hr b.Ae s b.Au)) rfl rfl rfl rfl ⟨hm.right.tries,hm.tries⟩ (by simp) (λi hi=>?_) λh5 h6=>?_).mono
       .have hb:=X0 hw
        rw[dA _ hb.1 (by have:=h.sl;omega) (X0 hi).1];split
        .omega
        .exact (h.Bx i hi).split
       .have hb:=X0 hw
        have hh:Zn b.Ae b.Af=true:=by
         have:=h.held.2;rw[Ai h5] at this;exact this.1
        rw[dA _ hb.1 (by have:=h.sl;omega) (X0 hh).1,Ai (λe=>(CQ.2.2.1 h4).2 e.symm)];exact h6
      .unfold Ws;split
       .rfl
       .split<;>rfl
     .rw[Ai h4]
      exact⟨Yxs hn h DB (by have:=CQ.1.2.2;omega) Lt,λ_=>rfl⟩
theorem Hs {n:Int} {b:Za} (h:Yz n b) (e:b.Af≠-1):Zn b.Ae b.Af=true/\Yq (Ak b.m b.Af)=true/\Ak b.splits b.Af=0/\(0<=b.held/\b.held<=b.Ae.Am):=by
 have:=h.held.2;rw[Ai e] at this;exact this
theorem rS {n:Int} {b:Za} (h:Yz n b):Yz n (Yu b):=by
 unfold Yu;split
 .rename_i hx
  obtain⟨hw,MQ,_,_⟩:=Hs h hx.1;have hb:=X0 hw;have CP:∀i,Zn b.Ae i=true->Ak (b.m.set b.Af.toNat {Ak b.m b.Af with broken:=true}) i=if i=b.Af then {Ak b.m b.Af with broken:=true} else Ak b.m i:=λi hi=>h.Gq hw _ hi
  have Dw:∀i,Zn b.Ae i=true->(Ak (b.m.set b.Af.toNat {Ak b.m b.Af with broken:=true}) i).Ao=(Ak b.m i).Ao/\(Ak (b.m.set b.Af.toNat {Ak b.m b.Af with broken:=true}) i).done=(Ak b.m i).done/\(Ak (b.m.set b.Af.toNat {Ak b.m b.Af with broken:=true}) i).tries=(Ak b.m i).tries/\(Ak (b.m.set b.Af.toNat {Ak b.m b.Af with broken:=true}) i).Ax=(Ak b.m i).Ax:=by
   intro i hi;rw[CP i hi];split
   .rename_i e;subst e;exact⟨rfl,rfl,rfl,rfl⟩
   .exact⟨rfl,rfl,rfl,rfl⟩
  refine⟨h.Ae,?_,h.bl,h.sl,λi hi=>?_,h.Bm,h.last,h.model,h.alive,h.B9,λi hi=>?_,?_,?_,?_,h.log⟩
  .show (b.m.set b.Af.toNat _).length=_
   rw[JM];exact h.ml
  .have Y2:Zn b.Ae i=true:=hi
   have hm:=h.Bx i Y2;refine⟨?_,?_,hm.bucket,hm.split⟩
   .show Yy (Ak (b.m.set b.Af.toNat {Ak b.m b.Af with broken:=true}) i)
    rw[CP i Y2];split
    .have hr:=(h.Bx _ hw).right
     exact⟨hr.len,hr.tries,hr.reqs,λhq=>absurd (show (Ak b.m b.Af).queue=[] from hq) (Yub MQ),hr.some⟩
    .exact hm.right
   .show (Ak (b.m.set b.Af.toNat {Ak b.m b.Af with broken:=true}) i).tries<=b.Ae.An
    rw[(Dw i Y2).2.2.1];exact hm.tries
  .have Y2:Zn b.Ae i=true:=hi
   show (Ak (b.m.set b.Af.toNat {Ak b.m b.Af with broken:=true}) i).Ao - (Ak (b.m.set b.Af.toNat {Ak b.m b.Af with broken:=true}) i).done=Jt b i;rw[(Dw i Y2).1,(Dw i Y2).2.1];exact h.Dq i Y2
  .have:=h.addr
   unfold Jq at this ⊢;show if b.addr.live=true then b.addr.Ao=(Ak (b.m.set b.Af.toNat {Ak b.m b.Af with broken:=true}) b.addr.Aj).Ao - 1/\_ else _
   by_cases hl:b.addr.live=true
   .rw[Ah hl] at this ⊢
    rw[(Dw _ (GP h hl)).1];exact this
   .rw[Ai hl] at this ⊢;exact this
  .have:=h.data
   unfold Kt at this ⊢;show if b.Aa.live=true then _ else _
   by_cases hl:b.Aa.live=true
   .rw[Ah hl] at this ⊢
    have e:=Dw _ (Kk h hl);show (b.Aa.Ao=(Ak (b.m.set b.Af.toNat {Ak b.m b.Af with broken:=true}) b.Aa.Aj).done/\_)/\(_->(Ak (b.m.set b.Af.toNat {Ak b.m b.Af with broken:=true}) b.Aa.Aj).tries < _)/\(_->(Ak (b.m.set b.Af.toNat {Ak b.m b.Af with broken:=true}) b.Aa.Aj).Ax=false/\b.Aa.Aj≠-1)/\_;rw[e.2.1,e.2.2.1,e.2.2.2];exact⟨this.1,this.2.1,λh3=>⟨(this.2.2.1 h3).1,by have:=X0 (Kk h hl);omega⟩,this.2.2.2⟩
   .rw[Ai hl] at this ⊢;exact this
  .refine⟨λi hi DY hk=>?_,?_⟩
   .have Y2:Zn b.Ae i=true:=hi
    have hx3:(Ak (b.m.set b.Af.toNat {Ak b.m b.Af with broken:=true}) i).Ao > 0:=DY;have rT:Yq (Ak (b.m.set b.Af.toNat {Ak b.m b.Af with broken:=true}) i)=true:=hk;rw[CP i Y2] at hx3 rT;split at rT
    .simp[Yq] at rT
    .rename_i e
     rw[Ai e] at hx3;exact absurd (h.held.1 i Y2 hx3 rT).symm e
   .show if (-1:Int)=-1 then (0:Int)=0 else _
    rw[Ah rfl]
 .exact h
theorem dE (b:Za):(Yu b).Aa=b.Aa/\(Yu b).addr=b.addr/\(Yu b).Au=b.Au/\(Yu b).now=b.now/\(Yu b).Ae=b.Ae/\(Yu b).log=b.log/\(Yu b).model=b.model:=by
 unfold Yu;split<;>exact⟨rfl,rfl,rfl,rfl,rfl,rfl,rfl⟩
theorem Yoe {c:Zh} (h:Yr c=true) (s:Zb) (k:Int):0<=HM c s k/\HM c s k<=c.As:=by
 have:=(W1 h).2.1;unfold HM;omega
theorem Y58 {n:Int} {b:Za} (h:Yz n b) (s:Zb) (hl:b.addr.live=true):(0<=(GO b s b.addr).2/\(GO b s b.addr).2<=b.Ae.As+2)/\(0<=(GO b s b.addr).1/\(GO b s b.addr).1<=3)/\
  ((GO b s b.addr).1=2->(Ak b.m b.addr.Aj).tries < b.Ae.An)/\((GO b s b.addr).1=3->(Ak b.m b.addr.Aj).Ax=false/\b.addr.Aj≠b.Af):=by
 have hw:=GP h hl;have hm:=(h.Bx _ hw).right;have Jl:=Ycg h hl;have Uw:=Ytj hm Jl.1 Jl.2;have rP:=(Z9g (w:=(Ak (Ak b.m b.addr.Aj).queue 0).write) (v:=OE (Ak b.m b.addr.Aj) b.addr.Ao) h.model Uw.2.1).2.2;have hwt:=Yoe h.Ae s b.Au;have Sk:=(W1 h.Ae).2.1;have Uv:(HN b b.addr).2.2=0\/(HN b b.addr).2.2=1:=rP;unfold GO;split
 .exact⟨by simp;omega,by simp,by simp,by simp⟩
 .refine⟨?_,?_,?_,?_⟩
  .simp only
   split<;>omega
  .simp only
   repeat' split
   all_goals omega
  .simp only
   split
   .rename_i h1;exactλ_=>h1.2.2
   .split
    .intro h2;omega
    .intro h2;omega
  .simp only
   split
   .intro h2;omega
   .split
    .rename_i h1;exactλ_=>h1.2.2
    .intro h2;omega
theorem rU {n:Int} {b:Za} (h:Yz n b) (s:Zb) (hd:b.Aa=Zi.z0):Yz n (Qc b s)/\(Qc b s).addr=Zi.z0:=by
 unfold Qc;by_cases hl:b.addr.live=true
 .rw[Ah hl]
  refine⟨?_,rfl⟩;have hw:=GP h hl;have ha:=Y58 h s hl;have hA:=h.addr;unfold Jq at hA;rw[Ah hl] at hA;have Is:b.Aa.live=false:=by rw[hd]
  have Y40:(Ak b.m b.addr.Aj).Ao - (Ak b.m b.addr.Aj).done=1:=by
   rw[h.Dq _ hw];unfold Jt;rw[Ah ⟨hl,rfl⟩,Is];simp
  refine⟨h.Ae,h.ml,h.bl,h.sl,λi hi=>?_,h.Bm,h.last,h.model,(λhx=>by cases hx),λ_=>h.alive hl,λi hi=>?_,?_,?_,h.held,h.log⟩
  .have hm:=h.Bx i hi;exact⟨hm.right,hm.tries,hm.bucket,hm.split⟩
  .have BM:=h.Dq i hi
   rw[BM];unfold Jt;simp only[Is,hl,Bn,false_and,if_false,true_and];omega
  .unfold Jq
   simp
  .unfold Kt
   show if b.addr.live=true then _ else _
   rw[Ah hl];refine⟨⟨by show b.addr.Ao=_;rw[hA.1];show (Ak b.m b.addr.Aj).Ao - 1=(Ak b.m b.addr.Aj).done;omega,ha.1,ha.2.1⟩,ha.2.2.1,ha.2.2.2,λhs=>?_⟩;have:b.addr.second=true:=hs;rw[hA.2.2.2] at this;cases this
 .rw[Ai hl]
  refine⟨h,?_⟩;have hA:=h.addr;unfold Jq at hA;rw[Ai hl] at hA;exact hA
theorem rV (b:Za) (s:Zb):(Qc b s).now=b.now/\(Qc b s).Ae=b.Ae/\(Qc b s).log=b.log/\(Qc b s).model=b.model/\(Qc b s).m=b.m/\(Qc b s).splits=b.splits/\(Qc b s).Af=b.Af/\b.Au<=(Qc b s).Au/\(Qc b s).Au<=b.Au+1:=by
 unfold Qc;split
 .exact⟨rfl,rfl,rfl,rfl,rfl,rfl,rfl,by show b.Au<=b.Au+1;omega,LA _⟩
 .exact⟨rfl,rfl,rfl,rfl,rfl,rfl,rfl,LA _,by omega⟩
theorem MR (b:Za):(Kh b).length=b.m.length:=by simp[Kh]
theorem dF {n:Int} {b:Za} (h:Yz n b) {i:Int} (hi:Zn b.Ae i=true):Ak (Kh b) i=Je b i:=by
 obtain⟨k,rfl,hk⟩:=cS hi;have:=h.ml;rw[W7 (by rw[MR];omega)];simp[Kh]
structure Sl (n:Int) (b:Za) (p:Int×Int×Za):Prop where
 ok:Yz n p.2.2
 Aj:p.1=-1\/(Zn b.Ae p.1=true/\Je b p.1=true/\(1<=p.2.1/\p.2.1<=3))
 Ae:p.2.2.Ae=b.Ae
 m:p.2.2.m=b.m
 splits:p.2.2.splits=b.splits
 Af:p.2.2.Af=b.Af
 held:p.2.2.held=b.held
 addr:p.2.2.addr=b.addr
 data:p.2.2.Aa=b.Aa
 model:p.2.2.model=b.model
 log:p.2.2.log=b.log
 last:p.2.2.last=b.last
 now:p.2.2.now=b.now
 Au:p.2.2.Au=b.Au
theorem Ux {n:Int} {b:Za} (h:Yz n b):Sl n b (Kg b):=by
 unfold Kg;split
 .rename_i hx
  exact⟨h,.inr ⟨(Hs h hx.1).1,hx.2,by simp⟩,rfl,rfl,rfl,rfl,rfl,rfl,rfl,rfl,rfl,rfl,rfl,rfl⟩
 .split
  .rename_i k hk
   have Uy:=List.find?_some hk;have GM:=List.mem_of_find?_eq_some hk;rw[UR,h.ml] at GM;simp only[El,Bg] at Uy;have hm:=FP (c:=b.Ae) GM;have F7:=X0 hm;refine⟨?_,.inr ⟨hm,Uy.1,by simp⟩,rfl,rfl,rfl,rfl,rfl,rfl,rfl,rfl,rfl,rfl,rfl,rfl⟩;refine⟨h.Ae,h.ml,by show (b.buckets.set k _).length=_;rw[JM];exact h.bl,h.sl,λi hi=>?_,h.Bm,h.last,h.model,h.alive,h.B9,h.Dq,h.addr,h.data,h.held,h.log⟩;have Lu:=h.Bx i hi;refine⟨Lu.right,Lu.tries,?_,Lu.split⟩;show Y0 (Ak (b.buckets.set k (F4 (Ak b.buckets (k:Int)) (Ak b.Ae.Ab (k:Int))).1) i) (Ak b.Ae.Ab i)=true;have e:=dA (xs:=b.buckets) (w:=(k:Int)) (F4 (Ak b.buckets (k:Int)) (Ak b.Ae.Ab (k:Int))).1 F7.1 (by have:=h.bl;omega) (X0 hi).1;rw[Nh] at e;rw[e];split
   .rename_i e2;subst e2;exact Xa0 Lu.bucket (IT h.Ae hi)
   .exact Lu.bucket
  .split
   .exact⟨h,.inl rfl,rfl,rfl,rfl,rfl,rfl,rfl,rfl,rfl,rfl,rfl,rfl,rfl⟩
   .have hp:=Y9x (wants:=Kh b) h.Bm (by rw[MR,h.ml])
    refine⟨⟨h.Ae,h.ml,h.bl,h.sl,λi hi=>?_,hp.1,h.last,h.model,h.alive,h.B9,h.Dq,h.addr,h.data,h.held,h.log⟩,?_,rfl,rfl,rfl,rfl,rfl,rfl,rfl,rfl,rfl,rfl,rfl,rfl⟩
    .have Lu:=h.Bx i hi;exact⟨Lu.right,Lu.tries,Lu.bucket,Lu.split⟩
    .rcases hp.2 with dG|dG
     .exact .inl dG
     .exact .inr ⟨dG.1,by rw[<-dF h dG.1];exact dG.2,by simp⟩
theorem Z8x {b:Za} {i:Int} (h:Je b i=true):(Ak b.m i).Ao < Zw (Ak b.m i)/\Ak b.splits i=0/\(b.Af=-1\/b.Af=i):=by
 simp only[Je,Lp,Bg,Nj,Bj] at h;exact⟨h.1,h.2.1,h.2.2⟩
theorem Y20 (m:Zg):(Wi m).queue=m.queue/\(Wi m).done=m.done/\(Wi m).tries=m.tries/\(Wi m).Ax=m.Ax/\(Wi m).broken=m.broken:=by
 unfold Wi;split<;>exact⟨rfl,rfl,rfl,rfl,rfl⟩
theorem Xbn {n:Int} {b:Za} (h:Yz n b) (ha:b.addr=Zi.z0) (Lt:b.Aa.second=false) {Aj B2:Int} (hw:Zn b.Ae Aj=true) (Y41:Je b Aj=true) (P0:1<=B2/\B2<=3):Yz n (Sg b Aj B2):=by
 obtain⟨w1,w2,w3⟩:=Z8x Y41;have Ci:=(h.Bx _ hw).right;have KB:b.addr.live=false:=by rw[ha]
 have hfw:=h.Dq _ hw;have hle:(Ak b.m Aj).Ao - (Ak b.m Aj).done<=1:=by
  rw[hfw];unfold Jt;rw[KB];simp only[Bn,false_and,if_false];split<;>omega
 have Jl:(Wi (Ak b.m Aj)).Ao=(Ak b.m Aj).Ao+1:=by
  unfold Wi;rw[Ah ⟨w1,by omega⟩]
 have hs:=Y20 (Ak b.m Aj);have CP:∀i,Zn b.Ae i=true->Ak (b.m.set Aj.toNat (Wi (Ak b.m Aj))) i=if i=Aj then Wi (Ak b.m Aj) else Ak b.m i:=λi hi=>h.Gq hw _ hi
 have Dw:∀i,Zn b.Ae i=true->(Ak (b.m.set Aj.toNat (Wi (Ak b.m Aj))) i).queue=(Ak b.m i).queue/\(Ak (b.m.set Aj.toNat (Wi (Ak b.m Aj))) i).done=(Ak b.m i).done/\(Ak (b.m.set Aj.toNat (Wi (Ak b.m Aj))) i).tries=(Ak b.m i).tries/\(Ak (b.m.set Aj.toNat (Wi (Ak b.m Aj))) i).Ax=(Ak b.m i).Ax/\(Ak (b.m.set Aj.toNat (Wi (Ak b.m Aj))) i).broken=(Ak b.m i).broken:=λi hi=>by
  rw[CP i hi];split
  .rename_i e;subst e;exact hs
  .exact⟨rfl,rfl,rfl,rfl,rfl⟩
 have F7:=X0 hw;refine⟨h.Ae,?_,h.bl,h.sl,λi hi=>?_,h.Bm,.inr hw,h.model,λ_=>⟨hw,P0,w2⟩,h.B9,λi hi=>?_,?_,?_,?_,h.log⟩
 .show (b.m.set Aj.toNat _).length=_
  rw[JM];exact h.ml
 .have Y2:Zn b.Ae i=true:=hi
  have hm:=h.Bx i Y2;refine⟨?_,?_,hm.bucket,hm.split⟩
  .show Yy (Ak (b.m.set Aj.toNat (Wi (Ak b.m Aj))) i)
   rw[CP i Y2];split
   .exact Yyj Ci
   .exact hm.right
  .show (Ak (b.m.set Aj.toNat (Wi (Ak b.m Aj))) i).tries<=_
   rw[(Dw i Y2).2.2.1];exact hm.tries
 .have Y2:Zn b.Ae i=true:=hi
  have BM:=h.Dq i Y2;show (Ak (b.m.set Aj.toNat (Wi (Ak b.m Aj))) i).Ao - (Ak (b.m.set Aj.toNat (Wi (Ak b.m Aj))) i).done=Jt (Sg b Aj B2) i;rw[(Dw i Y2).2.1,CP i Y2];unfold Jt at BM ⊢;rw[KB] at BM;simp only[Bn,false_and,if_false] at BM;show _=(if (true:Bool)=true/\Aj=i then (1:Int) else 0)+(if b.Aa.live=true/\b.Aa.Aj=i then 1 else 0);simp only[true_and];by_cases e:i=Aj
  .subst e
   rw[Ah rfl,Ah rfl,Jl];omega
  .rw[Ai e,Ai (λe2=>e e2.symm)];omega
 .unfold Jq
  show if (true:Bool)=true then (Ak b.m Aj).Ao=(Ak (b.m.set Aj.toNat (Wi (Ak b.m Aj))) Aj).Ao - 1/\_ else _
  rw[Ah rfl,CP _ hw,Ah rfl,Jl];exact⟨by omega,rfl,rfl,rfl⟩
 .have hD:=h.data
  unfold Kt at hD ⊢;show if b.Aa.live=true then _ else _
  by_cases hl:b.Aa.live=true
  .rw[Ah hl] at hD ⊢
   have e:=Dw _ (Kk h hl);show (b.Aa.Ao=(Ak (b.m.set Aj.toNat (Wi (Ak b.m Aj))) b.Aa.Aj).done/\_)/\(_->(Ak (b.m.set Aj.toNat (Wi (Ak b.m Aj))) b.Aa.Aj).tries < _)/\(_->(Ak (b.m.set Aj.toNat (Wi (Ak b.m Aj))) b.Aa.Aj).Ax=false/\b.Aa.Aj≠(if Yq (Ak b.m Aj)=true/\b.Af=-1 then Aj else b.Af))/\_;rw[e.2.1,e.2.2.1,e.2.2.2.1];refine⟨hD.1,hD.2.1,λh3=>⟨(hD.2.2.1 h3).1,?_⟩,λh4=>?_⟩
   .split
    .rename_i e2
     intro e3;have hp:=Uu h hl;have hr:=J9 (h.Bx _ (Kk h hl)).right;have:=h.held.1 _ (Kk h hl) (by omega) (by rw[e3];exact e2.1);omega
    .exact (hD.2.2.1 h3).2
   .have:b.Aa.second=true:=h4
    rw[Lt] at this;cases this
  .rw[Ai hl] at hD ⊢;exact hD
 .have hh:=h.held
  unfold Gn at hh ⊢;show (∀i,Zn b.Ae i=true->(Ak (b.m.set Aj.toNat (Wi (Ak b.m Aj))) i).Ao > 0->Yq (Ak (b.m.set Aj.toNat (Wi (Ak b.m Aj))) i)=true->(if Yq (Ak b.m Aj)=true/\b.Af=-1 then Aj else b.Af)=i)/\
   (if (if Yq (Ak b.m Aj)=true/\b.Af=-1 then Aj else b.Af)=-1 then (if Yq (Ak b.m Aj)=true/\b.Af=-1 then 0 else b.held)=0 else Zn b.Ae (if Yq (Ak b.m Aj)=true/\b.Af=-1 then Aj else b.Af)=true/\Yq (Ak (b.m.set Aj.toNat (Wi (Ak b.m Aj))) (if Yq (Ak b.m Aj)=true/\b.Af=-1 then Aj else b.Af))=true/\Ak b.splits (if Yq (Ak b.m Aj)=true/\b.Af=-1 then Aj else b.Af)=0/\(0<=(if Yq (Ak b.m Aj)=true/\b.Af=-1 then 0 else b.held)/\(if Yq (Ak b.m Aj)=true/\b.Af=-1 then 0 else b.held)<=b.Ae.Am))
  have MQ:∀i,Zn b.Ae i=true->Yq (Ak (b.m.set Aj.toNat (Wi (Ak b.m Aj))) i)=Yq (Ak b.m i):=λi hi=>dD (Dw i hi).1 (Dw i hi).2.2.2.2;have Sk:=(W1 h.Ae).2.2.1;have N2:∀i,Zn b.Ae i=true->i≠Aj->(Ak (b.m.set Aj.toNat (Wi (Ak b.m Aj))) i).Ao > 0->Yq (Ak b.m i)=true->False:=by
   intro i hi e hx hk;rw[CP i hi,Ai e] at hx;have:=hh.1 i hi hx hk;have:=X0 hi;omega
  by_cases e:Yq (Ak b.m Aj)=true/\b.Af=-1
  .simp only[Ah e]
   refine⟨λi hi hx hk=>?_,?_⟩
   .by_cases e2:i=Aj
    .exact e2.symm
    .rw[MQ i hi] at hk
     exact (N2 i hi e2 hx hk).elim
   .rw[Ai (by omega)]
    exact⟨hw,by rw[MQ _ hw];exact e.1,w2,by omega,by omega⟩
  .simp only[Ai e]
   refine⟨λi hi hx hk=>?_,?_⟩
   .rw[MQ i hi] at hk
    by_cases e2:i=Aj
    .subst e2
     rcases w3 with w3|w3
     .exact absurd ⟨hk,w3⟩ e
     .exact w3
    .exact (N2 i hi e2 hx hk).elim
   .have h2:=hh.2
    split
    .rename_i e2;rw[Ah e2] at h2;exact h2
    .rename_i e2
     rw[Ai e2] at h2;exact⟨h2.1,by rw[MQ _ h2.1];exact h2.2.1,h2.2.2⟩
theorem Y8v {n:Int} {b:Za} (h:Yz n b) (ha:b.addr=Zi.z0) (Lt:b.Aa.second=false):Yz n (Jn b).2:=by
 have hp:=Ux h;unfold Jn;split
 .exact hp.ok
 .rename_i hx
  rcases hp.Aj with h1|h1
  .exact absurd (show (Kg b).1 < 0 by rw[h1];decide) hx
  .refine Xbn hp.ok (by rw[hp.addr];exact ha) (by rw[hp.data];exact Lt) (by rw[hp.Ae];exact h1.1) ?_ h1.2.2
   have:=h1.2.1;unfold Je at this ⊢;rw[hp.m,hp.splits,hp.Af];exact this
theorem Z82 {n:Int} {b:Za} (h:Yz n b):(Jn b).2.now=b.now/\(Jn b).2.Ae=b.Ae/\(Jn b).2.log=b.log/\(Jn b).2.model=b.model/\(Jn b).2.Au=b.Au/\(Jn b).2.Aa=b.Aa:=by
 have hp:=Ux h;unfold Jn;split
 .exact⟨hp.now,hp.Ae,hp.log,hp.model,hp.Au,hp.data⟩
 .exact⟨hp.now,hp.Ae,hp.log,hp.model,hp.Au,hp.data⟩
theorem Y8p {n:Int} {b:Za} (h:Yz n b) (s:Zb) (hd:b.Aa=Zi.z0):Yz n (Xt b s).2/\(Xt b s).2.now=b.now/\b.Au<=(Xt b s).2.Au/\(Xt b s).2.Au<=b.Au+1/\(Xt b s).2.Ae=b.Ae/\(Xt b s).2.log=b.log/\(Xt b s).2.model=b.model:=by
 have h1:=rS h;have e1:=dE b;have h2:=rU h1 s (by rw[e1.1];exact hd);have e2:=rV (Yu b) s;have Lt:(Qc (Yu b) s).Aa.second=false:=by
  unfold Qc;split
  .rename_i hl
   have hA:=h1.addr;unfold Jq at hA;rw[Ah hl] at hA;exact hA.2.2.2
  .rw[e1.1,hd]
 have h3:=Y8v h2.1 h2.2 Lt;have e3:=Z82 h2.1;unfold Xt;exact⟨h3,by rw[e3.1,e2.1,e1.2.2.2.1],by rw[e3.2.2.2.2.1,<-e1.2.2.1];exact e2.2.2.2.2.2.2.2.1,by rw[e3.2.2.2.2.1,<-e1.2.2.1];exact e2.2.2.2.2.2.2.2.2,by rw[e3.2.1,e2.2.1,e1.2.2.2.2.1],by rw[e3.2.2.1,e2.2.2.1,e1.2.2.2.2.2.1],by rw[e3.2.2.2.1,e2.2.2.2.1,e1.2.2.2.2.2.2]⟩
theorem Y5w (b:Za):(Xk b).now=b.now/\(Xk b).Ae=b.Ae/\(Xk b).Au=b.Au/\(Xk b).log=b.log/\(Xk b).model=b.model/\(Xk b).m=b.m/\(Xk b).addr=b.addr/\(Xk b).Aa=b.Aa/\(Xk b).Af=b.Af:=⟨rfl,rfl,rfl,rfl,rfl,rfl,rfl,rfl,rfl⟩
theorem Y53 (b:Za):(EA b).now=b.now/\(EA b).Ae=b.Ae/\(EA b).Au=b.Au/\(EA b).log=b.log/\(EA b).model=b.model/\(EA b).m=b.m/\(EA b).addr=b.addr/\(EA b).Aa=b.Aa/\(EA b).Af=b.Af:=by
 unfold EA;split<;>exact⟨rfl,rfl,rfl,rfl,rfl,rfl,rfl,rfl,rfl⟩
theorem dH (b:Za) (s:Zb):(Wb b s).now=b.now/\(Wb b s).Ae=b.Ae/\(Wb b s).Au=b.Au/\(Wb b s).log=b.log/\(Wb b s).model=b.model/\(Wb b s).addr=b.addr/\(Wb b s).Aa=b.Aa/\(Wb b s).Af=b.Af:=by
 have h1:=Y53 (Xk (X6 b (E9 s b.now)));have h2:=Y5w (X6 b (E9 s b.now));have h3:=dC b (E9 s b.now);unfold Wb;refine⟨?_,?_,?_,?_,?_,?_,?_,?_⟩
 .rw[h1.1,h2.1,h3.2.1]
 .rw[h1.2.1,h2.2.1,h3.1]
 .rw[h1.2.2.1,h2.2.2.1,h3.2.2.1]
 .rw[h1.2.2.2.1,h2.2.2.2.1,h3.2.2.2.1]
 .rw[h1.2.2.2.2.1,h2.2.2.2.2.1,h3.2.2.2.2.1]
 .rw[h1.2.2.2.2.2.2.1,h2.2.2.2.2.2.2.1,h3.2.2.2.2.2.2.2.1]
 .rw[h1.2.2.2.2.2.2.2.1,h2.2.2.2.2.2.2.2.1,h3.2.2.2.2.2.2.2.2.1]
 .rw[h1.2.2.2.2.2.2.2.2,h2.2.2.2.2.2.2.2.2,h3.2.2.2.2.2.1]
theorem rW {b:Za} (h:CV b) (s:Zb):Yz b.now (Wb b s):=Y3p (Z8m (dB h.i _))
theorem rX (b:Za) (x:Zi):(Ws b x).now=b.now/\(Ws b x).Au=b.Au/\(Ws b x).Ae=b.Ae/\(Ws b x).log=b.log/\(Ws b x).model=b.model:=by
 unfold Ws;split
 .exact⟨rfl,rfl,rfl,rfl,rfl⟩
 .split<;>exact⟨rfl,rfl,rfl,rfl,rfl⟩
theorem Z8e (b:Za) (s:Zb):(Z0 b s).1.now=b.now/\(Z0 b s).1.Au=b.Au/\(Z0 b s).1.Ae=b.Ae:=by
 unfold Z0
 repeat' split
 all_goals first
  | exact⟨rfl,rfl,rfl⟩
  | exact⟨(rX _ _).1,(rX _ _).2.1,(rX _ _).2.2.1⟩
theorem rY {b:Za} (h:CV b) (s:Zb) (hn:b.now < 4000):CV (Dr b s).1/\(Dr b s).1.now=b.now+1/\(Dr b s).1.Ae=b.Ae:=by
 have h1:=rW h s;have e1:=dH b s;have hI:Yz (Wb b s).now (Wb b s):=by rw[e1.1];exact h1
 have h2:=rR s (by rw[e1.1];exact h.now.1) hI;have e2:=Z8e (Wb b s) s;have hp:=h.Au;have dI:=h.now;unfold Dr;rw[e1.1] at h2;by_cases hr:(Z0 (Wb b s) s).2.1=true
 .rw[Ah hr]
  have h3:=Y8p h2.1 s (h2.2 hr);refine⟨?_,rfl,by show (Xt _ s).2.Ae=_;rw[h3.2.2.2.2.1,e2.2.2,e1.2.1]⟩;have h4:=h3.1;have e3:(Z0 (Wb b s) s).1.Au=b.Au:=by rw[e2.2.1,e1.2.2.1]
  have h5:=h3.2.2.1;have h6:=h3.2.2.2.1;generalize (Xt (Z0 (Wb b s) s).1 s).2=r at h4 h5 h6 ⊢;exact⟨h4.Ae,⟨by show 0<=b.now+1;omega,by show b.now+1<=4000;omega⟩,h4.ml,h4.bl,h4.sl,λi hi=>⟨(h4.Bx i hi).right,(h4.Bx i hi).tries,(h4.Bx i hi).bucket,(h4.Bx i hi).split⟩,h4.Bm,h4.last,h4.model,⟨by show 0<=r.Au;omega,by show r.Au<=b.now+1;omega⟩,h4.alive,h4.B9,h4.Dq,h4.addr,h4.data,h4.held,h4.log⟩
 .rw[Ai hr]
  refine⟨?_,rfl,by show (Z0 _ s).1.Ae=_;rw[e2.2.2,e1.2.1]⟩;have h4:=h2.1;have e3:(Z0 (Wb b s) s).1.Au=b.Au:=by rw[e2.2.1,e1.2.2.1]
  generalize (Z0 (Wb b s) s).1=r at h4 e3 ⊢;exact⟨h4.Ae,⟨by show 0<=b.now+1;omega,by show b.now+1<=4000;omega⟩,h4.ml,h4.bl,h4.sl,λi hi=>⟨(h4.Bx i hi).right,(h4.Bx i hi).tries,(h4.Bx i hi).bucket,(h4.Bx i hi).split⟩,h4.Bm,h4.last,h4.model,⟨by show 0<=r.Au;omega,by show r.Au<=b.now+1;omega⟩,h4.alive,h4.B9,h4.Dq,h4.addr,h4.data,h4.held,h4.log⟩
structure Zb.sm (s:Zb):Prop where
 Al:s.Al.length < 1048577
 reqs:∀p∈s.Al,p.Bo.sm
 waits:s.waits.length < 1048577
 A3:s.A3.length < 1048577
 JB:∀w∈s.waits,-9223372036854775808<=w/\w < 9223372036854775808
theorem rZ (l:List Int) (k:Int) (hl:l.length < 1048577):TF l k=some (Gp l k):=by
 unfold TF nV Gp;by_cases h:l=[]
 .simp[h]
 .have h1:0 < l.length:=Cv.2 h
  rw[Ai (by simpa using h)];by_cases h2:k < 0
  .simp[h2]
  .have h3:0<=k % (l.length:Int):=UQ _ (by omega)
   have h4:k % (l.length:Int) < (l.length:Int):=UK _ (by omega);rw[O1 (by omega),Ag,Hn (by omega),Xm h3 h4];simp[h,h2]
theorem Ybu (l:List Int) (k:Int) (hl:l.length < 1048577):YQ l k=some (Gp l k):=by
 rw[<-rZ l k hl];rfl
theorem Yul {l:List Int} {k:Int} (h:∀w∈l,-9223372036854775808<=w/\w < 9223372036854775808):-9223372036854775808<=Gp l k/\Gp l k < 9223372036854775808:=by
 unfold Gp;split
 .omega
 .rename_i hx
  have h1:l≠[]:=λe=>hx (.inl e);have h2:0 < l.length:=Cv.2 h1;exact h _ (Gj (UQ _ (by omega)) (UK _ (by omega)))
theorem Yz7 (c:Zh) {s:Zb} (k:Int) (hs:s.sm):oT c s k=some (HM c s k):=by
 unfold oT HM;rw[rZ _ _ hs.waits,Ag,MI,Gk]
theorem Yzd (c:Zh) {s:Zb} (k:Int) (hs:s.sm):kZ c s k=some (HM c s k):=by
 unfold kZ HM;rw[Ybu _ _ hs.waits,Ag,MI,Gk,UW]
theorem Yx6 {s:Zb} (k:Int) (hs:s.sm):oU s k=some (FQ s k):=by
 unfold oU FQ;rw[rZ _ _ hs.A3,Ag];by_cases h1:Gp s.A3 k=2
 .simp[h1]
 .by_cases h2:Gp s.A3 k=3<;>simp[h1,h2]
theorem Yz3 {s:Zb} (k:Int) (hs:s.sm):kY s k=some (FQ s k):=by
 unfold kY FQ;rw[Ybu _ _ hs.A3,Ag];by_cases h1:Gp s.A3 k=2
 .simp[h1]
 .by_cases h2:Gp s.A3 k=3<;>simp[h1,h2]
theorem Yv7 (c:Zh) {s:Zb} (k:Int) (hs:s.sm):nW c s k=some (Hr c s k):=by
 have h:=Yul (k:=k) hs.JB;unfold nW Hr;rw[rZ _ _ hs.waits,Ag,MI,Gk,MI,Gk,Yl (by omega) (by omega)]
theorem Yua (c:Zh) {s:Zb} (k:Int) (hs:s.sm):kJ c s k=some (Hr c s k):=by
 have h:=Yul (k:=k) hs.JB;unfold kJ Hr;rw[Ybu _ _ hs.waits,Ag,MI,Gk,Gk,Yl (by omega) (by omega)]
 congr 1
 omega
theorem Ygr {α:Type} (p:α->Bool) (xs:List α) (k:Nat) (hk:k < xs.length):(xs.take (k+1)).filter p=(xs.take k).filter p++(if p xs[k] then [xs[k]] else []):=by
 rw[List.take_succ_eq_append_getElem hk,eW];cases hq:p xs[k]<;>simp[hq]
theorem Ywl (s:Zb) (t:Int) (hs:s.sm):nM s t=some (E9 s t):=by
 unfold nM E9;have hp:=hs.Al;refine K7 (σ:=List Zl) (n:=s.Al.length) (by omega) (λk=>(s.Al.take k).filter λp=>decide (p.at_=t)) (B:=nK s t) (L:=nL s t) (λm s i=>rfl) (λk hk κ=>?_) λκ=>?_
 .unfold nK
  have Yn:((s.Al.take k).filter λp=>decide (p.at_=t)).length<=k:=L7 (SA ..) (by rw[FX];omega);rw[Ah (by simpa using hk),Zy hk,Ag,Ygr _ _ _ hk,Ybq _ (hs.reqs _ (B6 hk)),Ag];by_cases e:s.Al[k].at_=t
  .rw[Ah (by simpa using e),Yp (by simp only[AV,Bq];omega) (by simp only[AV,Bq];omega),Ag,Ah (decide_eq_true e)]
  .rw[Ai (by simpa using e),Ai (by simpa using e),Gu]
 .unfold nK
  rw[Ai (by simp),EY]
theorem Ys0 (s:Zb) (t:Int) (hs:s.sm):j9 s t=some (E9 s t):=by
 unfold j9 E9;have hp:=hs.Al;refine K7 (σ:=List Zl) (n:=s.Al.length) (by omega) (λk=>(s.Al.take k).filter λp=>decide (p.at_=t)) (B:=j7 s t) (L:=j8 s t) (λm s i=>rfl) (λk hk κ=>?_) λκ=>?_
 .unfold j7
  have Yn:((s.Al.take k).filter λp=>decide (p.at_=t)).length<=k:=L7 (SA ..) (by rw[FX];omega);rw[Ah (by simpa using hk),Zy hk,Ag,Ygr _ _ _ hk,Yb5 _ (hs.reqs _ (B6 hk)),Ag];by_cases e:s.Al[k].at_=t
  .rw[Ah (by simpa using e),Yp (by simp only[AV,Bq];omega) (by simp only[AV,Bq];omega),Ag,Ah (decide_eq_true e)]
  .rw[Ai (by simpa using e),Ai (by simpa using e),Gu]
 .unfold j7
  rw[Ai (by simp),EY]
theorem Yti {s:Zb} (hs:s.sm) (t:Int):(E9 s t).length < 1048577/\∀p∈E9 s t,p.Bo.sm:=by
 have hp:=hs.Al;refine⟨Nat.lt_of_le_of_lt (SA ..) hp,λp hx=>hs.reqs p ?_⟩;unfold E9 at hx;exact (OX.1 hx).1
theorem Ycw (b:Za) (ps:List Zl) (k:Nat) (hk:k < ps.length):X6 b (ps.take (k+1))=Js (X6 b (ps.take k)) ps[k]:=by
 unfold X6;rw[List.take_succ_eq_append_getElem hk,SB];rfl
theorem sA (c:Zh) (h:c.Ab.length < 1048577):aA c=some c/\XW c=some c:=by
 unfold aA nC XW;rw[Yp (by simp;omega) (by simp;omega)];exact⟨rfl,rfl⟩
theorem Yt0 (xs:List Zt) (h:xs.length < 1048577):Y4 56 [] xs=some xs:=by
 rw[Yp (by simp;omega) (by simp;omega)];rfl
theorem Yux (xs:List Zj) (h:xs.length < 1048577):Y4 16 [] xs=some xs:=by
 rw[Yp (by simp;omega) (by simp;omega)];rfl
theorem Yg4 (b:Za) (hs:b.sm):bE b=some b:=by
 unfold bE;rw[(sA b.Ae hs.Ae).1,Ag];have:=hs.ml;refine (K7 (σ:=Za×List Zg) (n:=b.m.length) (by omega) (λk=>(b,b.m.take k)) (B:=λκ s i=>pL b (λx y i=>κ (x,y) i) s.1 s.2 i) (L:=λm s i=>bD b m s.1 s.2 i) (λm s i=>rfl) (λk hk κ=>?_) λκ=>?_:bD b FU b [] 0=some b)
 .unfold pL
  have Yn:(b.m.take k).length=k:=by rw[FX];omega
  simp only;rw[Ah (by simpa using hk),Zy hk,Ag,cL _ (hs.Bx _ (B6 hk)),Ag,Yp (by simp only[AV,Bq];omega) (by simp only[AV,Bq];omega),Ag,<-List.take_succ_eq_append_getElem hk]
 .unfold pL pJ pK
  simp only;rw[Ai (by simp),Yux _ hs.bl,Ag,Uq _ hs.sl,Ag,Zzv _ hs.model,Ag,Yt0 _ hs.log,Ag,EY]
theorem sB (b:Za) (hs:b.sm):Tm b=some b:=by
 unfold Tm;rw[(sA b.Ae hs.Ae).2,Ag];have:=hs.ml;refine (K7 (σ:=Za) (n:=b.m.length) (by omega) (λk=>{b with m:=b.m.take k}) (B:=jY b) (L:=YN b) (λm s i=>rfl) (λk hk κ=>?_) λκ=>?_:YN b FU {b with m:=[]} 0=some b)
 .unfold jY
  have Yn:(b.m.take k).length=k:=by rw[FX];omega
  simp only;rw[Ah (by simpa using hk),Zy hk,Ag,cM _ (hs.Bx _ (B6 hk)),Ag,Yp (by simp only[AV,Bq];omega) (by simp only[AV,Bq];omega),Ag,<-List.take_succ_eq_append_getElem hk]
 .unfold jY
  simp only;rw[Ai (by simp),Yux _ hs.bl,Ag,cO _ hs.sl,Ag,Yf1 _ hs.model,Ag,Yt0 _ hs.log,Ag,EY]
theorem sC {c:Zh} {n:Int} (hn:n<=4001) {l:List Zt} (h:(∀d∈l,RX c n d)/\l.Pairwise λx y=>x.A4 < y.A4):l.length<=4001:=by
 have key:∀(l:List Zt) (a:Int),(∀d∈l,a<=d.A4/\d.A4 < n)->(l.Pairwise λx y=>x.A4 < y.A4)->l≠[]->(l.length:Int)<=n - a:=by
  intro l
  induction l with
  | nil=>intro a _ _ h;exact absurd rfl h
  | cons x xs ih=>
   intro a h1 h2 _;have h3:=h1 x (BJ ..);by_cases hx:xs=[]
   .subst hx;simp;omega
   .have h4:=List.pairwise_cons.1 h2
    have:=ih (x.A4+1) (λd hd=>⟨by have:=h4.1 d hd;omega,(h1 d (Co _ hd)).2⟩) h4.2 hx;simp only[AV];omega
 by_cases hx:l=[]
 .subst hx;simp
 .have:=key l 0 (λd hd=>(h.1 d hd).1) h.2 hx
  omega
theorem Yz.sm {n:Int} {b:Za} (h:Yz n b) (hn:n<=4001):b.sm:=by
 have h1:=Gl h.Ae;have h2:=h.ml;have h3:=h.bl;have h4:=h.sl;have h5:=sC hn h.log;refine⟨h1,by omega,λx hx=>?_,by omega,by omega,h.model.sm,by omega⟩;obtain⟨k,hk,rfl⟩:=OU hx;have:=(h.Bx (k:Int) (FP (by omega))).right.sm
 rwa [W7 hk] at this
theorem CV.sm {b:Za} (h:CV b):b.sm:=h.i.sm (by have:=h.now;omega)
section
variable {n:Int} {b:Za} {s:Zb}
theorem Z6m (x:Zi) (hc:Yr b.Ae=true) (hw:Zn b.Ae x.Aj=true) (CH:b.m.length=b.Ae.Ab.length) (LN:b.buckets.length=b.Ae.Ab.length) (hr:Yy (Ak b.m x.Aj)) (Sj:CG b.Bm b.Ae=true):TE b x=some (Ws b x):=by
 obtain⟨ok,DK⟩:=Yu7 hr;unfold TE Ws;rw[Wq CH hw,Ag,DK,Ag,Qg,Ag,Us LN hw,Ag,OA hw,Ag,Ylf _ (IT hc hw),Ag,Qg,Ag,Yus _ _ _ Sj,Ag];by_cases h1:x.B2=1
 .simp[h1]
 .by_cases h2:x.B2=2<;>simp[h1,h2]
theorem Z53 (x:Zi) (hc:Yr b.Ae=true) (hw:Zn b.Ae x.Aj=true) (CH:b.m.length=b.Ae.Ab.length) (LN:b.buckets.length=b.Ae.Ab.length) (hr:Yy (Ak b.m x.Aj)) (Sj:CG b.Bm b.Ae=true):Tn b x=some (Ws b x):=by
 obtain⟨ok,DK⟩:=Yum hr;unfold Tn Ws;rw[Wq CH hw,Ag,DK,Ag,Qg,Ag,Us LN hw,Ag,OA hw,Ag,Yk5 _ (IT hc hw),Ag,Qg,Ag,Ywe _ _ _ Sj,Ag];by_cases h1:x.B2=1
 .simp[h1]
 .by_cases h2:x.B2=2<;>simp[h1,h2]
theorem Yx5 {m:Zg} {k:Int} (h:Yy m) (hq:m.queue≠[]) (h0:0<=k) (h1:k < Zw m):nX m k=some (OE m k):=by
 have hl:0 < m.queue.length:=Cv.2 hq;unfold nX OE;rw[Xm (xs:=m.queue) (by omega) (by omega),Ag];by_cases hw:(Ak m.queue 0).write=true
 .have:=Yj8 h h0 h1 hw
  rw[Ah hw,Ah hw,Xm this.1 this.2];rfl
 .rw[Ai hw,Ai hw]
theorem Yl1 {m:Zg} {k:Int} (h:Yy m) (hq:m.queue≠[]) (h0:0<=k) (h1:k < Zw m):YR (Ak m.queue 0) k=some (OE m k):=by
 unfold YR OE;by_cases hw:(Ak m.queue 0).write=true
 .have:=Yj8 h h0 h1 hw
  rw[Ai (by simp[hw]),Ah hw,Xm this.1 this.2];rfl
 .rw[Ah (by simpa using hw),Ai hw]
theorem OF {m:Zg} {k:Int} (h0:0<=k) (h1:k < Zw m):m.queue≠[]:=by
 intro hq;unfold Zw at h1;rw[Ah hq] at h1;omega
theorem dJ {m:Zg} (hq:m.queue≠[]):idx m.queue 0=some (Ak m.queue 0):=by
 have hl:0 < m.queue.length:=Cv.2 hq;exact Xm (by omega) (by omega)
theorem Y0o (x:Zi) (hw:Zn b.Ae x.Aj=true) (CH:b.m.length=b.Ae.Ab.length) (hr:Yy (Ak b.m x.Aj)) (hm:Ec b.model) (h0:0<=x.Ao) (h1:x.Ao < Zw (Ak b.m x.Aj)):aP b x=some (HN b x):=by
 have hq:=OF h0 h1;unfold aP HN;rw[Wq CH hw,Ag,dJ hq,Ag,RT _ hr,Ag,Yx5 hr hq h0 h1,Ag,Yc2 _ _ _ _ hm];rfl
theorem Yg3 {m:Zg} (h:Yy m) (hp:m.Ao - m.done≥1):((C4 m).queue.length:Int) < (m.queue.length:Int)↔m.done+1=Zw m:=by
 have hq:=Lq h (by omega);have hl:0 < m.queue.length:=Cv.2 hq;have hf:=Ycm h hp;by_cases e:m.done+1=Zw m
 .rw[(hf.1 e).2.1];simp[e];omega
 .rw[(hf.2 e).1];simp[e]
theorem Ytm {m:Zg} (h:Yy m) (hp:m.Ao - m.done≥1):(C4 m).done=0↔m.done+1=Zw m:=by
 have hb:=J9 h;have hf:=Ycm h hp;by_cases e:m.done+1=Zw m
 .rw[(hf.1 e).2.2.2.1];simp[e]
 .rw[(hf.2 e).2.2.1];simp[e];omega
theorem Yro (x:Zi) (h1:Zn b.Ae x.Aj=true) (CH:b.m.length=b.Ae.Ab.length) (hr:Yy (Ak b.m x.Aj)) (hm:Ec b.model) (hp:(Ak b.m x.Aj).Ao - (Ak b.m x.Aj).done≥1) (h2:0<=x.Ao) (h3:x.Ao < Zw (Ak b.m x.Aj)) (hl:b.log.length < 1048577):oQ b x=some (MP b x):=by
 have hq:=OF h2 h3;obtain⟨ok,he⟩:=Yxx hr;unfold oQ;rw[Wq CH h1,Ag,dJ hq,Ag,RT _ hr,Ag,Y0o x h1 CH hr hm h2 h3,Ag];have hJ:∀(mo:Zf) (d:Zt),aR b x {b with model:=mo} (Ak b.m x.Aj) d=some {b with model:=mo,log:=b.log++[d],m:=b.m.set x.Aj.toNat (C4 (Ak b.m x.Aj)),Af:=if b.Af=x.Aj/\(Ak b.m x.Aj).done+1=Zw (Ak b.m x.Aj) then -1 else b.Af,held:=if b.Af=x.Aj/\(Ak b.m x.Aj).done+1=Zw (Ak b.m x.Aj) then 0 else b.held}:=by
  intro mo d;unfold aR oP oO aQ;simp only;rw[Yp (by simp only[AV,Bq];omega) (by simp only[AV,Bq];omega),Ag,he,Ag];simp only[Ag,Wq CH h1,Qg];have hi:idx b.m x.Aj=some (Ak b.m x.Aj):=Wq CH h1;by_cases e1:b.Af=x.Aj
  .by_cases e2:(Ak b.m x.Aj).done+1=Zw (Ak b.m x.Aj)
   .have e3:=(Yg3 hr hp).2 e2
    simp only[decide_eq_true e1,decide_eq_true e3,if_true,Ah (And.intro e1 e2)]
   .have e3:=mt (Yg3 hr hp).1 e2
    simp only[decide_eq_true e1,decide_eq_false e3,if_true,if_false,Bn,Ai (λhx:b.Af=x.Aj/\_=>e2 hx.2)]
  .simp only[decide_eq_false e1,if_false,Bn,Ai (λhx:b.Af=x.Aj/\_=>e1 hx.1)]
 unfold MP c8;by_cases e:x.Ar=0
 .rw[Ah (decide_eq_true e),hJ]
  simp only[Ah e]
 .rw[Ai (by simpa using e)]
  have:=hJ b.model (Zt.mk b.now x.Aj (Ak (Ak b.m x.Aj).queue 0).write (Xn (Ak b.m x.Aj) x.Ao) (Ak (Ak b.m x.Aj).queue 0).size 0 x.Ar);refine Gx (b:=_) ?_ (this.trans ?_)
  .rfl
  .simp only[Ai e]
theorem Y0h (w:Zq) (h:Yz b.now b) (hs:s.sm) (hn:b.now<=4000):oS b s w=some ((Z0 b s).2.1,(Z0 b s).1,if b.Aa.live=true/\¬b.Aa.left > 0 then {w with Ar:=b.Aa.Ar} else w):=by
 unfold oS Z0;by_cases hd:b.Aa.live=true
 .have DV:¬b.Aa.live=false:=by simp[hd]
  rw[Ai (by simp[hd]),Ai DV];have CQ:=h.data;unfold Kt at CQ;rw[Ah hd] at CQ;have hw:=Kk h hd;have Ci:=(h.Bx _ hw).right;have hp:=Uu h hd;have Jl:=Yep h hd;have G4:=(W1 h.Ae).2.1;by_cases hl:b.Aa.left > 0
  .rw[Ah (decide_eq_true hl),Ah hl,Ai (λhx:_/\¬b.Aa.left > 0=>hx.2 hl),Xb (by omega) (by omega)]
  .rw[Ai (by simpa using hl),Ai hl,Ah (And.intro hd hl)]
   have hJf:¬(b.Aa.Ar≠0/\b.Aa.second=false)->TJ b s w false=some ((if b.Aa.Ar=2 then (Ws {b with Aa:=Zi.z0,m:=b.m.set b.Aa.Aj.toNat {Ak b.m b.Aa.Aj with tries:=(Ak b.m b.Aa.Aj).tries+1}} b.Aa,true,b.Aa.Ar)
 else if b.Aa.Ar=3 then (Ws {b with Aa:=Zi.z0,m:=b.m.set b.Aa.Aj.toNat {Ak b.m b.Aa.Aj with Ax:=true},splits:=b.splits.set b.Aa.Aj.toNat (Hr b.Ae s b.Au)} b.Aa,true,b.Aa.Ar)
 else (MP {b with Aa:=Zi.z0} b.Aa,true,b.Aa.Ar):Za×Bool×Int).2.1,(if b.Aa.Ar=2 then (Ws {b with Aa:=Zi.z0,m:=b.m.set b.Aa.Aj.toNat {Ak b.m b.Aa.Aj with tries:=(Ak b.m b.Aa.Aj).tries+1}} b.Aa,true,b.Aa.Ar)
 else if b.Aa.Ar=3 then (Ws {b with Aa:=Zi.z0,m:=b.m.set b.Aa.Aj.toNat {Ak b.m b.Aa.Aj with Ax:=true},splits:=b.splits.set b.Aa.Aj.toNat (Hr b.Ae s b.Au)} b.Aa,true,b.Aa.Ar)
 else (MP {b with Aa:=Zi.z0} b.Aa,true,b.Aa.Ar):Za×Bool×Int).1,{w with Ar:=b.Aa.Ar}):=by
    intro PI;have F7:=X0 hw;have CH:=h.ml;have dK:∀x:Zg,Yy x->Yy (Ak (b.m.set b.Aa.Aj.toNat x) b.Aa.Aj):=λx hx=>by rw[cA x F7.1 (by omega)];exact hx
    have Yn:∀x:Zg,(b.m.set b.Aa.Aj.toNat x).length=b.Ae.Ab.length:=λx=>by rw[JM];exact CH
    unfold TJ;rw[Ai (by simp)];by_cases h2:b.Aa.Ar=2
    .have ht:=CQ.2.1 h2
     have Vy:=(W1 h.Ae).1;have gW:=Ci.tries;have C6:Yy {Ak b.m b.Aa.Aj with tries:=(Ak b.m b.Aa.Aj).tries+1}:=⟨Ci.len,by show 0<=(Ak b.m b.Aa.Aj).tries+1;omega,Ci.reqs,λhq=>absurd (show (Ak b.m b.Aa.Aj).queue=[] from hq) (OF Jl.1 Jl.2),Ci.some⟩;simp only[decide_eq_true h2,if_true,Ah h2,Wq CH hw,Ag,Qg,Yl (a:=(Ak b.m b.Aa.Aj).tries) (b:=1) (by omega) (by omega)];rw[Z6m (b:={b with Aa:=Zi.z0,m:=b.m.set b.Aa.Aj.toNat {Ak b.m b.Aa.Aj with tries:=(Ak b.m b.Aa.Aj).tries+1}}) b.Aa h.Ae hw (Yn _) h.bl (dK _ C6) h.Bm];rfl
    .by_cases h3:b.Aa.Ar=3
     .have hr3:Yy {Ak b.m b.Aa.Aj with Ax:=true}:=⟨Ci.len,Ci.tries,Ci.reqs,λhq=>absurd (show (Ak b.m b.Aa.Aj).queue=[] from hq) (OF Jl.1 Jl.2),Ci.some⟩
      simp only[decide_eq_false h2,decide_eq_true h3,if_true,if_false,Bn,Ai h2,Ah h3,Wq CH hw,HK h.sl hw,Ag,Qg,Yv7 _ _ hs];rw[Z6m (b:={b with Aa:=Zi.z0,m:=b.m.set b.Aa.Aj.toNat {Ak b.m b.Aa.Aj with Ax:=true},splits:=b.splits.set b.Aa.Aj.toNat (Hr b.Ae s b.Au)}) b.Aa h.Ae hw (Yn _) h.bl (dK _ hr3) h.Bm];rfl
     .simp only[decide_eq_false h2,decide_eq_false h3,if_false,Bn,Ai h2,Ai h3]
      have hlog:=sC (by omega) h.log;rw[Yro (b:={b with Aa:=Zi.z0}) b.Aa hw CH Ci h.model hp Jl.1 Jl.2 (by show b.log.length < _;omega)];rfl
   by_cases h2:b.Aa.Ar≠0
   .rw[Ah (decide_eq_true h2)]
    by_cases h3:b.Aa.second=false
    .rw[Ah (And.intro h2 h3),h3]
     unfold TJ oR;rw[Ah (by rfl)];by_cases ha:b.addr.live=true
     .rw[Ah ha,Ah ha]
      have F8:=GP h ha;rw[Z6m (b:={b with Aa:={b.Aa with second:=true}}) b.addr h.Ae F8 h.ml h.bl (h.Bx _ F8).right h.Bm];rfl
     .rw[Ai ha,Ai ha]
    .have h4:b.Aa.second=true:=by simpa using h3
     rw[Ai (λhx:_/\b.Aa.second=false=>h3 hx.2),h4,Du,hJf (λhx=>h3 hx.2)]
   .rw[Ai (by simpa using h2),Ai (λhx:b.Aa.Ar≠0/\_=>h2 hx.1),hJf (λhx=>h2 hx.1)]
 .rw[Ah (by simpa using hd),Ah (by simpa using hd),Ai (λhx:b.Aa.live=true/\_=>hd hx.1)]
theorem Yye (h:Yz b.now b) (hs:s.sm) (hn:b.now<=4000) (hd:b.Aa.live=true) (hl:¬b.Aa.left > 0) (PI:¬(b.Aa.Ar≠0/\b.Aa.second=false)):kX b s=some (Z0 b s).1:=by
 have DV:¬b.Aa.live=false:=by simp[hd]
 have CQ:=h.data;unfold Kt at CQ;rw[Ah hd] at CQ;have hw:=Kk h hd;have Ci:=(h.Bx _ hw).right;have hp:=Uu h hd;have Jl:=Yep h hd;have F7:=X0 hw;have CH:=h.ml;have hq:=OF Jl.1 Jl.2;have dK:∀x:Zg,Yy x->Yy (Ak (b.m.set b.Aa.Aj.toNat x) b.Aa.Aj):=λx hx=>by rw[cA x F7.1 (by omega)];exact hx
 have Yn:∀x:Zg,(b.m.set b.Aa.Aj.toNat x).length=b.Ae.Ab.length:=λx=>by rw[JM];exact CH
 unfold kX Z0;rw[Ai DV,Ai hl,Ai PI,Wq CH hw,Ag];by_cases h2:b.Aa.Ar=2
 .have ht:=CQ.2.1 h2
  have Vy:=(W1 h.Ae).1;have gW:=Ci.tries;have C6:Yy {Ak b.m b.Aa.Aj with tries:=(Ak b.m b.Aa.Aj).tries+1}:=⟨Ci.len,by show 0<=(Ak b.m b.Aa.Aj).tries+1;omega,Ci.reqs,λhq=>absurd (show (Ak b.m b.Aa.Aj).queue=[] from hq) (OF Jl.1 Jl.2),Ci.some⟩;simp only[decide_eq_true h2,if_true,Ah h2,Ag,Qg,Yl (a:=(Ak b.m b.Aa.Aj).tries) (b:=1) (by omega) (by omega)];rw[Z53 (b:={b with Aa:=Zi.z0,m:=b.m.set b.Aa.Aj.toNat {Ak b.m b.Aa.Aj with tries:=(Ak b.m b.Aa.Aj).tries+1}}) b.Aa h.Ae hw (Yn _) h.bl (dK _ C6) h.Bm];rfl
 .by_cases h3:b.Aa.Ar=3
  .have hr3:Yy {Ak b.m b.Aa.Aj with Ax:=true}:=⟨Ci.len,Ci.tries,Ci.reqs,λhq=>absurd (show (Ak b.m b.Aa.Aj).queue=[] from hq) (OF Jl.1 Jl.2),Ci.some⟩
   simp only[decide_eq_false h2,decide_eq_true h3,if_true,if_false,Bn,Ai h2,Ah h3,HK h.sl hw,Ag,Qg,Yua _ _ hs];rw[Z53 (b:={b with Aa:=Zi.z0,m:=b.m.set b.Aa.Aj.toNat {Ak b.m b.Aa.Aj with Ax:=true},splits:=b.splits.set b.Aa.Aj.toNat (Hr b.Ae s b.Au)}) b.Aa h.Ae hw (Yn _) h.bl (dK _ hr3) h.Bm];rfl
  .have hlog:=sC (by omega) h.log
   obtain⟨ok,he⟩:=Yyu Ci;have hJ:∀(mo:Zf) (d:Zt),YX b s {b with Aa:=Zi.z0,model:=mo} (Ak b.m b.Aa.Aj) d=some {b with Aa:=Zi.z0,model:=mo,log:=b.log++[d],m:=b.m.set b.Aa.Aj.toNat (C4 (Ak b.m b.Aa.Aj)),Af:=if b.Af=b.Aa.Aj/\(Ak b.m b.Aa.Aj).done+1=Zw (Ak b.m b.Aa.Aj) then -1 else b.Af,held:=if b.Af=b.Aa.Aj/\(Ak b.m b.Aa.Aj).done+1=Zw (Ak b.m b.Aa.Aj) then 0 else b.held}:=by
    intro mo d;unfold YX;simp only;rw[Yp (by simp only[AV,Bq];omega) (by simp only[AV,Bq];omega),Ag,he,Ag];simp only[Ag,Wq CH hw,Qg];by_cases e1:b.Af=b.Aa.Aj
    .by_cases e2:(Ak b.m b.Aa.Aj).done+1=Zw (Ak b.m b.Aa.Aj)
     .have e3:=(Ytm Ci hp).2 e2
      simp only[decide_eq_true e1,decide_eq_true e3,if_true,Ah (And.intro e1 e2)]
     .have e3:=mt (Ytm Ci hp).1 e2
      simp only[decide_eq_true e1,decide_eq_false e3,if_true,if_false,Bn,Ai (λhx:b.Af=b.Aa.Aj/\_=>e2 hx.2)]
    .simp only[decide_eq_false e1,if_false,Bn,Ai (λhx:b.Af=b.Aa.Aj/\_=>e1 hx.1)]
   simp only[decide_eq_false h2,decide_eq_false h3,if_false,Bn,Ai h2,Ai h3];rw[dJ hq,Ag,Up _ Ci,Ag];unfold MP c8 HN;by_cases e:b.Aa.Ar=0
   .rw[Ah (decide_eq_true e),Yl1 Ci hq Jl.1 Jl.2,Ag,Z2i _ _ _ _ h.model,Ag,hJ]
    simp only[Ah e]
   .rw[Ai (by simpa using e)]
    have:=hJ b.model (Zt.mk b.now b.Aa.Aj (Ak (Ak b.m b.Aa.Aj).queue 0).write (Xn (Ak b.m b.Aa.Aj) b.Aa.Ao) (Ak (Ak b.m b.Aa.Aj).queue 0).size 0 b.Aa.Ar);refine Gx (b:=_) ?_ (this.trans ?_)
    .rfl
    .simp only[Ai e]
end
section
variable {n:Int} {b:Za} {s:Zb}
theorem Yx0 (h:Yz n b) (hs:s.sm) (hl:b.addr.live=true):oW b s b.addr=some (GO b s b.addr):=by
 have hw:=GP h hl;have Ci:=(h.Bx _ hw).right;have Jl:=Ycg h hl;have hwt:=Yoe h.Ae s b.Au;have Sk:=(W1 h.Ae).2.1;unfold oW;rw[Wq h.ml hw,Ag,RT _ Ci,Ag,Z1s,Ag];have MO:R7 b s b.addr (Ak b.m b.addr.Aj) (Y6 (Xn (Ak b.m b.addr.Aj) b.addr.Ao)) false=some (if FQ s b.Au=2/\Y6 (Xn (Ak b.m b.addr.Aj) b.addr.Ao)≠3/\(Ak b.m b.addr.Aj).tries < b.Ae.An then 2
  else if FQ s b.Au=3/\Y6 (Xn (Ak b.m b.addr.Aj) b.addr.Ao)=2/\(Ak b.m b.addr.Aj).Ax=false/\b.addr.Aj≠b.Af then 3 else (HN b b.addr).2.2,if Y6 (Xn (Ak b.m b.addr.Aj) b.addr.Ao)=3 then HM b.Ae s b.Au+2 else HM b.Ae s b.Au):=by
  unfold R7;rw[Ai (by simp),Y0o _ hw h.ml Ci h.model Jl.1 Jl.2,Ag,Yz7 _ _ hs,Ag,Yl (by omega) (by omega)];have c6:∀(r t:Int),aS b s b.addr (Ak b.m b.addr.Aj) (Y6 (Xn (Ak b.m b.addr.Aj) b.addr.Ao)) r t=some (if FQ s b.Au=2/\Y6 (Xn (Ak b.m b.addr.Aj) b.addr.Ao)≠3/\(Ak b.m b.addr.Aj).tries < b.Ae.An then 2
  else if FQ s b.Au=3/\Y6 (Xn (Ak b.m b.addr.Aj) b.addr.Ao)=2/\(Ak b.m b.addr.Aj).Ax=false/\b.addr.Aj≠b.Af then 3 else r,t):=by
   intro r t;unfold aS;rw[Yx6 _ hs,Ag];generalize Y6 (Xn (Ak b.m b.addr.Aj) b.addr.Ao)=sl;have RY:K2 b s b.addr (Ak b.m b.addr.Aj) sl r t (FQ s b.Au) false=some (if FQ s b.Au=3/\sl=2/\(Ak b.m b.addr.Aj).Ax=false/\b.addr.Aj≠b.Af then 3 else r,t):=by
    unfold K2;rw[Ai (by simp)];by_cases e1:FQ s b.Au=3
    .by_cases e2:sl=2
     .by_cases e3:(Ak b.m b.addr.Aj).Ax=true
      .simp[e1,e2,e3]
      .by_cases e4:b.addr.Aj=b.Af<;>simp[e1,e2,e3,e4]
     .simp[e1,e2]
    .simp[e1]
   have hJ3t:K2 b s b.addr (Ak b.m b.addr.Aj) sl r t (FQ s b.Au) true=some (2,t):=by
    unfold K2;rw[Ah rfl]
   by_cases e1:FQ s b.Au=2
   .by_cases e2:sl=3
    .rw[Ah (decide_eq_true e1),Ai (by simpa using e2),RY,Ai (λhx:_/\sl≠3/\_=>hx.2.1 e2)]
    .by_cases e3:(Ak b.m b.addr.Aj).tries < b.Ae.An
     .rw[Ah (decide_eq_true e1),Ah (by simpa using e2),decide_eq_true e3,hJ3t,Ah ⟨e1,e2,e3⟩]
     .rw[Ah (decide_eq_true e1),Ah (by simpa using e2),decide_eq_false e3,RY,Ai (λhx:_/\_/\_=>e3 hx.2.2)]
   .rw[Ai (by simpa using e1),RY,Ai (λhx:_/\_/\_=>e1 hx.1)]
  by_cases e:Y6 (Xn (Ak b.m b.addr.Aj) b.addr.Ao)=3
  .rw[Ah (decide_eq_true e),c6,Ah e]
  .rw[Ai (by simpa using e),c6,Ai e]
 have dL:R7 b s b.addr (Ak b.m b.addr.Aj) (Y6 (Xn (Ak b.m b.addr.Aj) b.addr.Ao)) true=some (1,0):=by
  unfold R7;rw[Ah rfl]
 unfold GO;by_cases e1:(Ak b.m b.addr.Aj).broken=true
 .rw[Ah e1,dL,Ah (.inl e1)]
 .by_cases e2:Y6 (Xn (Ak b.m b.addr.Aj) b.addr.Ao)=0
  .rw[Ai e1,decide_eq_true e2,dL,Ah (.inr e2)]
  .rw[Ai e1,decide_eq_false e2,MO,Ai (show ¬((Ak b.m b.addr.Aj).broken=true\/Y6 (Xn (Ak b.m b.addr.Aj) b.addr.Ao)=0) fromλhx=>hx.elim e1 e2)]
theorem Yxm (a:Int):Y6 a=0\/Y6 a=1\/Y6 a=2\/Y6 a=3:=by
 unfold Y6
 repeat' split
 all_goals simp
theorem Y14 (h:Yz n b) (hs:s.sm) (hp:0<=b.Au/\b.Au<=4000):lA b s=some (Qc b s):=by
 unfold lA Qc;by_cases hl:b.addr.live=true
 .have hw:=GP h hl
  have Ci:=(h.Bx _ hw).right;have Jl:=Ycg h hl;have hq:=OF Jl.1 Jl.2;have hwt:=Yoe h.Ae s b.Au;have Sk:=(W1 h.Ae).2.1;have hA:=h.addr;unfold Jq at hA;rw[Ah hl] at hA;rw[Ai (by simp[hl]),Ah hl,Wq h.ml hw,Ag,dJ hq,Ag,Up _ Ci,Ag,Yd9,Ag,Yz3 _ hs,Ag];have hsr:=Yxm (Xn (Ak b.m b.addr.Aj) b.addr.Ao);have Sm:∀x:Zi,YY b s x=some {b with addr:=Zi.z0,Aa:=x,Au:=b.Au+1}:=by
   intro x;unfold YY;rw[Yl (by omega) (by omega)]
  unfold GO;by_cases e1:(Ak b.m b.addr.Aj).broken=true
  .rw[Ah e1,Ah (.inl e1)]
   unfold Tt Ts Tr Tq Jk Tp Jg;simp only[if_true,e1,Du,Bn,if_false,Sm,Yin]
   congr 2
   rw[hA.2.1]
  .have E0:(Ak b.m b.addr.Aj).broken=false:=by simpa using e1
   rw[Ai e1];generalize He:Y6 (Xn (Ak b.m b.addr.Aj) b.addr.Ao)=sl at hsr;by_cases e2:sl=0
   .rw[decide_eq_true e2,Ah (.inr e2)]
    unfold Tt Ts Tr Tq Jk Tp Jg;have f1:¬sl=3:=by omega
    have f2:¬sl=1:=by omega
    have f3:¬sl=2:=by omega
    simp only[if_true,E0,f1,f2,f3,decide_false,FF,Bn,if_false,Sm,Yin]
    congr 2
    rw[hA.2.1]
   .rw[decide_eq_false e2,Ai (λhx=>hx.elim e1 e2)]
    unfold Tt;rw[Ai (by simp),Yzd _ _ hs,Ag,Yl1 Ci hq Jl.1 Jl.2,Ag,Z2i _ _ _ _ h.model,Ag];have Uv:Qv b.model (Ak (Ak b.m b.addr.Aj).queue 0).write (Xn (Ak b.m b.addr.Aj) b.addr.Ao) (Ak (Ak b.m b.addr.Aj).queue 0).size (OE (Ak b.m b.addr.Aj) b.addr.Ao)=HN b b.addr:=rfl;rw[Uv];unfold Ts Tr Tq Jk Tp Jg;simp only[E0,FF,if_true,Sm,Yl (a:=HM b.Ae s b.Au) (b:=2) (by omega) (by omega)];generalize FQ s b.Au=sd;by_cases g1:sl=3
    .subst g1
     by_cases g2:sd=2
     .subst g2;simp
     .by_cases g3:sd=3
      .subst g3;simp
      .simp[g2,g3]
    .by_cases g4:sl=2
     .subst g4
      by_cases g2:sd=2
      .subst g2
       by_cases g5:(Ak b.m b.addr.Aj).tries < b.Ae.An<;>simp[g5]
      .by_cases g3:sd=3
       .subst g3
        by_cases g5:(Ak b.m b.addr.Aj).Ax=true
        .simp[g5]
        .by_cases g6:b.addr.Aj=b.Af
         .simp[g5,g6]
         .have g7:¬b.Af=b.addr.Aj:=λe=>g6 e.symm
          simp[g5,g6,g7]
       .simp[g2,g3]
     .have g8:sl=1:=by omega
      subst g8;by_cases g2:sd=2
      .subst g2
       by_cases g5:(Ak b.m b.addr.Aj).tries < b.Ae.An<;>simp[g5]
      .by_cases g3:sd=3
       .subst g3;simp
       .simp[g2,g3]
 .rw[Ah (by simpa using hl),Ai hl]
  have hA:=h.addr;unfold Jq at hA;rw[Ai hl] at hA;rw[<-hA]
theorem Ymi (b:Za) (k:Nat):((List.range (k+1)).map λj:Nat=>Je b (j:Int))=((List.range k).map λj:Nat=>Je b (j:Int))++[Je b (k:Int)]:=by
 rw[List.range_succ,Gv];rfl
theorem sD (h:Yz n b):b.Af=-1\/Zn b.Ae b.Af=true:=by
 by_cases e:b.Af=-1
 .exact .inl e
 .exact .inr (Hs h e).1
theorem Y6d (h:Yz n b):pA b=some ((Kg b).1,(Kg b).2.1,(Kg b).2.2):=by
 have Yn:=Km h.Ae;have CH:=h.ml;have Mi:aV b FU (Kh b) ((Kh b).length:Int) 0=some (match (List.range b.m.length).find? (El b) with
  | some k=>((k:Int),1,{b with buckets:=b.buckets.set k (F4 (Ak b.buckets (k:Int)) (Ak b.Ae.Ab (k:Int))).1})
  | none=>if b.Af≠-1 then (-1,0,b) else ((F5 b.Bm b.Ae (Kh b)).2,2,{b with Bm:=(F5 b.Bm b.Ae (Kh b)).1})):=by
  rw[MR];have key:∀(r m k:Nat),r < m->k+r=b.m.length->(∀j,j < k->El b j=false)->aV b m (Kh b) (b.m.length:Int) (k:Int)=some (match (List.range' k r).find? (El b) with
  | some k=>((k:Int),1,{b with buckets:=b.buckets.set k (F4 (Ak b.buckets (k:Int)) (Ak b.Ae.Ab (k:Int))).1})
  | none=>if b.Af≠-1 then (-1,0,b) else ((F5 b.Bm b.Ae (Kh b)).2,2,{b with Bm:=(F5 b.Bm b.Ae (Kh b)).1})):=by
   intro r
   induction r with
   | zero=>
    intro m k hm hk _;obtain⟨m,rfl⟩:∃m',m=m'+1:=⟨m - 1,by omega⟩;show aU b _ (Kh b) (b.m.length:Int) (k:Int)=_;unfold aU;rw[Ai (by simp;omega),Yuw _ _ _ h.Bm (by rw[MR,CH]),Ag];by_cases e:b.Af=-1
    .simp[e]
    .simp[e]
   | succ r ih=>
    intro m k hm hk hj;obtain⟨m,rfl⟩:∃m',m=m'+1:=⟨m - 1,by omega⟩;show aU b _ (Kh b) (b.m.length:Int) (k:Int)=_;have CW:=FP (c:=b.Ae) (k:=k) (by omega);unfold aU;have hix:idx (Kh b) (k:Int)=some (Je b (k:Int)):=by
     rw[Xm (by omega) (by rw[MR];omega),dF h CW]
    rw[Ah (by simp;omega),hix,Ag,Us h.bl CW,Ag,OA CW,Ag,Ylv _ (IT h.Ae CW),Ag,Qg,Ag,tI,List.find?_cons];by_cases e1:Je b (k:Int)=true
    .by_cases e2:(F4 (Ak b.buckets (k:Int)) (Ak b.Ae.Ab (k:Int))).2=true
     .have e3:El b k=true:=by simp[El,e1,e2]
      rw[e1,Ai (by simp),Ah e2,e3];rfl
     .have e3:El b k=false:=by simp[El,e1,e2]
      rw[e1,Ai (by simp),Ai e2,e3,Yf (by omega)];exact ih m (k+1) (by omega) (by omega) (λj hj2=>by
       by_cases cQ:j=k
       .subst cQ;exact e3
       .exact hj j (by omega))
    .have e3:El b k=false:=by simp[El,e1]
     have e4:Je b (k:Int)=false:=by simpa using e1
     rw[e4,Ah (by simp),e3,Yf (by omega)];exact ih m (k+1) (by omega) (by omega) (λj hj2=>by
       by_cases cQ:j=k
       .subst cQ;exact e3
       .exact hj j (by omega))
  have:=key b.m.length FU 0 (by have:=Y5;omega) (by omega) (λj hj=>by omega);rw[s8];simpa using this
 unfold pA;refine K7 (σ:=List Bool) (n:=b.m.length) (by omega) (λk=>(List.range k).map λj:Nat=>Je b (j:Int)) (B:=o8 b) (L:=o9 b) (λm s i=>rfl) (λk hk κ=>?_) λκ=>?_
 .have CW:=FP (c:=b.Ae) (k:=k) (by omega)
  unfold o8;have Y99:∀x:Bool,Y4 1 ((List.range k).map λj:Nat=>Je b (j:Int)) [x]=some (((List.range k).map λj:Nat=>Je b (j:Int))++[x]):=λx=>Yp (by simp;omega) (by simp;omega);rw[Ah (by simpa using hk),Wq CH CW,Ag,Yau (h.Bx _ CW).right,Ag,HK h.sl CW,Ag,Ymi];simp only[Y99,Ag];unfold Je;by_cases e1:Lp (Ak b.m (k:Int))=true
  .by_cases e2:Ak b.splits (k:Int)=0
   .by_cases e3:b.Af=-1
    .simp[e1,e2,e3]
    .simp[e1,e2,e3]
   .simp[e1,e2]
  .simp[e1]
 .unfold o8 o7
  rw[Ai (by simp)];show (if decide (b.Af≠-1)=true then (idx (Kh b) b.Af).bind _ else _)=_;unfold Kg;by_cases e:b.Af=-1
  .rw[Ai (by simpa using e),Ai (by simp),Ai (λhx:b.Af≠-1/\_=>hx.1 e)]
   exact Mi
  .have hw:=(Hs h e).1
   have F7:=X0 hw;rw[Ah (by simpa using e),Xm F7.1 (by rw[MR];omega),Ag,dF h hw];by_cases e2:Je b b.Af=true
   .rw[Ah e2,Ah ⟨e,e2⟩]
   .rw[Ai e2,Ai (λhx:_/\Je b b.Af=true=>e2 hx.2)]
    exact Mi
theorem Xax {b:Za} {i:Int} (hr:Yy (Ak b.m i)) (h:Je b i=true):(Ak b.m i).queue≠[]:=by
 have:=(Z8x h).1;have:=J9 hr;intro hq;unfold Zw at*;rw[Ah hq] at*;omega
theorem Y43 (x0:Za) (h:Yz n b) {Aj B2:Int} (hw:Zn b.Ae Aj=true):((idx b.m Aj).bind λJC=>
  if decide (JC.Ao=0)=true then R8 x0 {b with addr:=(Zi.mk true Aj JC.Ao true B2 0 0 false)} JC Aj
  else R8 x0 {b with addr:=(Zi.mk true Aj JC.Ao (decide (b.last≠Aj)) B2 0 0 false)} JC Aj)=some (Aj,Sg b Aj B2):=by
 obtain⟨ok,hi⟩:=Yry (h.Bx _ hw).right;rw[Wq h.ml hw,Ag];have hJ:∀f:Bool,R8 x0 {b with addr:=(Zi.mk true Aj (Ak b.m Aj).Ao f B2 0 0 false)} (Ak b.m Aj) Aj=some (Aj,{b with addr:=Zi.mk true Aj (Ak b.m Aj).Ao f B2 0 0 false,Af:=if Yq (Ak b.m Aj)=true/\b.Af=-1 then Aj else b.Af,held:=if Yq (Ak b.m Aj)=true/\b.Af=-1 then 0 else b.held,m:=b.m.set Aj.toNat (Wi (Ak b.m Aj)),last:=Aj}):=by
  intro f;unfold R8 pE pD;simp only[Z9x,Ag,hi,Wq h.ml hw,Qg];by_cases e1:Yq (Ak b.m Aj)=true
  .by_cases e2:b.Af=-1
   .simp only[e1,if_true,decide_eq_true e2,true_and,Ah e2]
   .simp only[e1,if_true,decide_eq_false e2,Bn,if_false,true_and,Ai e2]
  .simp only[e1,if_false,Bn,false_and]
 unfold Sg;by_cases e:(Ak b.m Aj).Ao=0
 .rw[Ah (decide_eq_true e),hJ,decide_eq_true e];rfl
 .rw[Ai (by simpa using e),hJ,decide_eq_false e,UT]
end
section
variable {n:Int} {b:Za} {s:Zb}
theorem Y4g (h:Yz n b):pF b=some ((Jn b).1,(Jn b).2):=by
 have hp:=Ux h;unfold pF Jn;rw[Y6d h,Ag];by_cases e:(Kg b).1 < 0
 .rw[Ah (decide_eq_true e),Ah e]
 .rw[Ai (by simpa using e),Ai e]
  rcases hp.Aj with h1|h1
  .exact absurd (show (Kg b).1 < 0 by rw[h1];decide) e
  .exact Y43 b hp.ok (by rw[hp.Ae];exact h1.1)
theorem Y7u {c:Zj} {m:Ze} (h:Y0 c m=true):(F4 c m).2=decide (c.tokens > 0):=by
 unfold F4;by_cases hp:m.prio=true
 .have h2:=h
  unfold Y0 at h2;rw[Ah hp] at h2;simp only[Bg,Bj] at h2;by_cases e:c.tokens=0
  .simp[hp,h,e]
  .have:c.tokens > 0:=by omega
   simp[hp,h,e,this]
 .have h2:=h
  unfold Y0 at h2;rw[Ai hp] at h2;simp only[Bg,Bj] at h2;simp[hp,h2.1]
theorem Ybl (x0:Za) (h:Yz n b) {Aj B2:Int} (hw:Zn b.Ae Aj=true) (Y41:Je b Aj=true):NZ x0 b (Zi.mk false Aj 0 false B2 0 0 false)=some (Sg b Aj B2):=by
 obtain⟨ok,hi⟩:=Yr9 (h.Bx _ hw).right;have hq:=Xax (h.Bx _ hw).right Y41;have F7:=X0 hw;unfold NZ;simp only;rw[Ai (by simp;omega),Wq h.ml hw,Ag];have hh:=sD h;have Z6:b.Af < 0↔b.Af=-1:=by
  rcases hh with hh|hh
  .omega
  .have:=X0 hh;omega
 have hJ:∀f:Bool,ZC x0 b (Zi.mk true Aj (Ak b.m Aj).Ao f B2 0 0 false) (Ak b.m Aj)=some {b with addr:=Zi.mk true Aj (Ak b.m Aj).Ao f B2 0 0 false,Af:=if Yq (Ak b.m Aj)=true/\b.Af=-1 then Aj else b.Af,held:=if Yq (Ak b.m Aj)=true/\b.Af=-1 then 0 else b.held,m:=b.m.set Aj.toNat (Wi (Ak b.m Aj)),last:=Aj}:=by
  intro f;unfold ZC ZB lJ;simp only[dJ hq,Ag,hi,Wq h.ml hw,Qg];unfold Yq;by_cases e1:(Ak (Ak b.m Aj).queue 0).lock=true
  .by_cases e2:(Ak b.m Aj).broken=true
   .simp[e1,e2]
   .by_cases e3:b.Af=-1
    .have e4:=Z6.2 e3
     simp[e1,e2,e3,hq]
    .have e4:=mt Z6.1 e3
     simp[e1,e2,e3,e4]
  .simp[e1]
 unfold Sg;by_cases e:(Ak b.m Aj).Ao=0
 .rw[Ah (decide_eq_true e),hJ,decide_eq_true e];rfl
 .rw[Ai (by simpa using e),hJ,decide_eq_false e,UT]
theorem Ygs (x0:Za) (c:Za) (B2:Int):NZ x0 c (Zi.mk false (-1) 0 false B2 0 0 false)=some c:=by
 unfold NZ;rw[Ah (by simp)]
theorem Y2b (h:Yz n b):lO b=some (Jn b).2:=by
 have Yn:=Km h.Ae;have CH:=h.ml;have hh:=sD h;have Z6:b.Af < 0↔b.Af=-1:=by
  rcases hh with hh|hh
  .omega
  .have:=X0 hh;omega
 have hp:=Ux h;have KL:∀(m:Nat) (c:Za) (Aj B2:Int) (k:Nat),0<=Aj->Rh b (m+1) c (Zi.mk false Aj 0 false B2 0 0 false) (Kh b) (k:Int)=NZ b c (Zi.mk false Aj 0 false B2 0 0 false):=by
  intro m c Aj B2 k hwho;have hn:¬Aj < 0:=by omega
  show Rg b _ c _ _ _=_;unfold Rg Tv ZD;simp only[decide_eq_false hn,Bn,if_false,Yin]
 have Mi:(¬(b.Af≠-1/\Je b b.Af=true))->Rh b FU b (Zi.mk false (-1) 0 false 0 0 0 false) (Kh b) 0=some (Jn b).2:=by
  intro Vh;have key:∀(r m k:Nat),r+1 < m->k+r=b.m.length->(List.range b.m.length).find? (El b)=(List.range' k r).find? (El b)->Rh b m b (Zi.mk false (-1) 0 false 0 0 0 false) (Kh b) (k:Int)=some (Jn b).2:=by
   intro r
   induction r with
   | zero=>
    intro m k hm hk MS;obtain⟨m,rfl⟩:∃m',m=m'+1:=⟨m - 1,by omega⟩;show Rg b _ b _ (Kh b) (k:Int)=_;unfold Rg Tv ZD;have hf:(List.range b.m.length).find? (El b)=none:=by rw[MS];rfl
    rw[Ai (by simp;omega),Ai (by simp),Ah (by simp)];have JD:Kg b=if b.Af≠-1 then (-1,0,b) else ((F5 b.Bm b.Ae (Kh b)).2,2,{b with Bm:=(F5 b.Bm b.Ae (Kh b)).1}):=by
     unfold Kg;rw[Ai Vh,hf]
    by_cases e:b.Af=-1
    .rw[decide_eq_true (Z6.2 e),Ah rfl,Ysq _ _ _ h.Bm (by rw[MR,CH]),Ag]
     rw[Ai (by simpa using e)] at JD;have hw:=hp.Aj;have Yg:=hp.ok;unfold Jn;rw[JD] at hw Yg ⊢;simp only at hw Yg ⊢;rcases hw with hw|hw
     .rw[hw,Ygs,Ah (by decide)]
     .have F7:=X0 hw.1
      rw[Ai (by omega)];exact Ybl b Yg hw.1 hw.2.1
    .rw[decide_eq_false (mt Z6.1 e),Ai (by simp),Ygs]
     rw[Ah e] at JD;unfold Jn;rw[JD,Ah (show (-1:Int) < 0 by decide)]
   | succ r ih=>
    intro m k hm hk MS;obtain⟨m,rfl⟩:∃m',m=m'+1:=⟨m - 1,by omega⟩;show Rg b _ b _ (Kh b) (k:Int)=_;have CW:=FP (c:=b.Ae) (k:=k) (by omega);have hix:idx (Kh b) (k:Int)=some (Je b (k:Int)):=by
     rw[Xm (by omega) (by rw[MR];omega),dF h CW]
    rw[tI,List.find?_cons] at MS;unfold Rg Tv lI;rw[Ah (by simp;omega),Ah (by simp),hix,Ag,Us h.bl CW,Ag,Ag,OA CW,Ag,Ylq _ (IT h.Ae CW),Ag,Qg,Ag,Yf (by omega),<-Y7u (h.Bx _ CW).bucket];by_cases e1:Je b (k:Int)=true
    .by_cases e2:(F4 (Ak b.buckets (k:Int)) (Ak b.Ae.Ab (k:Int))).2=true
     .have e3:El b k=true:=by simp[El,e1,e2]
      rw[e3] at MS;have JD:Kg b=((k:Int),1,{b with buckets:=b.buckets.set k (F4 (Ak b.buckets (k:Int)) (Ak b.Ae.Ab (k:Int))).1}):=by
       unfold Kg;rw[Ai Vh,MS]
      rw[Ah e1,Ah e2];obtain⟨m,rfl⟩:∃m',m=m'+1:=⟨m - 1,by omega⟩;rw[KL m _ _ _ _ (by omega)];have hw:=hp.Aj;have Yg:=hp.ok;unfold Jn;rw[JD] at hw Yg ⊢;simp only at hw Yg ⊢;rcases hw with hw|hw
      .omega
      .rw[Ai (by omega)]
       exact Ybl b Yg hw.1 hw.2.1
     .have e3:El b k=false:=by simp[El,e1,e2]
      rw[e3] at MS;rw[Ah e1,Ai e2];exact ih m (k+1) (by omega) (by omega) MS
    .have e3:El b k=false:=by simp[El,e1]
     rw[e3] at MS;rw[Ai e1,Ai (by simp)];exact ih m (k+1) (by omega) (by omega) MS
  have:=key b.m.length FU 0 (by have:=Y5;omega) (by omega) (by rw[s8]);simpa using this
 unfold lO;refine K7 (σ:=List Bool) (n:=b.m.length) (by omega) (λk=>(List.range k).map λj:Nat=>Je b (j:Int)) (B:=lM b) (L:=lN b) (λm s i=>rfl) (λk hk κ=>?_) λκ=>?_
 .have CW:=FP (c:=b.Ae) (k:=k) (by omega)
  unfold lM;have Y99:∀x:Bool,Y4 1 ((List.range k).map λj:Nat=>Je b (j:Int)) [x]=some (((List.range k).map λj:Nat=>Je b (j:Int))++[x]):=λx=>Yp (by simp;omega) (by simp;omega);rw[Ah (by simpa using hk),Wq CH CW,Ag,Yav (h.Bx _ CW).right,Ag,HK h.sl CW,Ag,Ymi];simp only[Y99,Ag];unfold Je;by_cases e1:Lp (Ak b.m (k:Int))=true
  .by_cases e2:Ak b.splits (k:Int)=0
   .by_cases e3:b.Af=-1
    .simp[e1,e2,e3]
    .have e4:=mt Z6.1 e3
     simp only[e1,e2,e3,e4,decide_true,decide_false,if_true,Bn,if_false,GV,UT]
   .simp[e1,e2]
  .simp[e1]
 .unfold lM lL lK
  rw[Ai (by simp)];show (if decide (b.Af≥0)=true then (idx (Kh b) b.Af).bind _ else _)=_;by_cases e:b.Af=-1
  .rw[Ai (by simp;omega),Ai (by simp)]
   exact Mi λhx=>hx.1 e
  .have hw:=(Hs h e).1
   have F7:=X0 hw;rw[Ah (by simpa using F7.1),Xm F7.1 (by rw[MR];omega),Ag,dF h hw];by_cases e2:Je b b.Af=true
   .have JD:Kg b=(b.Af,3,b):=by
     unfold Kg;rw[Ah ⟨e,e2⟩]
    rw[Ah e2];have hfu:FU=(FU - 1)+1:=by decide
    show Rh b FU b (Zi.mk false b.Af 0 false 3 0 0 false) (Kh b) ((0:Nat):Int)=_;rw[hfu,KL _ _ _ _ _ F7.1];unfold Jn;rw[JD,Ai (by simp;omega)];exact Ybl b h hw e2
   .rw[Ai e2]
    exact Mi λhx=>e2 hx.2
theorem Y0u {α:Type} {X Y:List α} (hl:X.length=Y.length) {k:Nat} (hk:k < Y.length):idx (X.take k++Y.drop k) (k:Int)=some Y[k]/\(X.take k++Y.drop k).set k (X[k]'(by omega))=X.take (k+1)++Y.drop (k+1):=by
 have h1:(X.take k).length=k:=by rw[FX];omega
 constructor
 .rw[Zy (by simp;omega)]
  simp[List.getElem_append_right,h1]
 .rw[List.set_append_right _ _ (by omega),h1,Nat.sub_self,D5 hk,List.set_cons_zero,List.take_succ_eq_append_getElem (show k < X.length by omega),List.append_assoc]
  rfl
def GQ (c:Za) (k:Nat):Za:={c with splits:=(Xk c).splits.take k++c.splits.drop k,buckets:=(Xk c).buckets.take k++c.buckets.drop k}
theorem Y0q (c:Za):GQ c 0=c:=by simp[GQ]
theorem Yqi (h:Yz n b):GQ b b.Ae.Ab.length=Xk b:=by
 have h1:=h.sl;have h2:=h.bl;unfold GQ Xk;simp only;rw[D6 (by simp;omega),UG (by omega),D6 (by simp;omega),UG (by omega),Gu,Gu]
theorem Ylz (h:Yz n b) {k:Nat} (hk:k < b.Ae.Ab.length):idx (GQ b k).splits (k:Int)=some (Ak b.splits (k:Int))/\(GQ b k).splits.set k (max (Ak b.splits (k:Int) - 1) 0)=(GQ b (k+1)).splits/\
  idx (GQ b k).buckets (k:Int)=some (Ak b.buckets (k:Int))/\(GQ b k).buckets.set k (IU (Ak b.buckets (k:Int)) (Ak b.Ae.Ab (k:Int)))=(GQ b (k+1)).buckets:=by
 have h1:=h.sl;have h2:=h.bl;have m1:=Y0u (X:=(Xk b).splits) (Y:=b.splits) (by simp[Xk]) (k:=k) (by omega);have m2:=Y0u (X:=(Xk b).buckets) (Y:=b.buckets) (by simp[Xk];omega) (k:=k) (by omega);rw[W7 (by omega),W7 (by omega),W7 hk];refine⟨m1.1,?_,m2.1,?_⟩
 .have:=m1.2
  simp only[Xk,fC] at this;exact this
 .have:=m2.2
  simp only[Xk,List.getElem_zipWith] at this;exact this
end
section
variable {n:Int} {b:Za} {s:Zb}
theorem Yhi (h:Yz n b) (s:Zb) (hd:b.Aa=Zi.z0):Yz n (Yu b)/\Yz n (Qc (Yu b) s):=⟨rS h,(rU (rS h) s (by rw[(dE b).1];exact hd)).1⟩
theorem Yv5 (x0:Za) (w:Zq) (h:Yz n b) (hs:s.sm) (hd:b.Aa=Zi.z0) (hp:0<=b.Au/\b.Au<=4000) (hn:0<=b.now/\b.now<=4000):(if decide (b.Af≠(-1))=true then Oq x0 s b w (decide (b.held=b.Ae.Am)) else Oq x0 s b w false)=some ({w with C0:=(Xt b s).1},{(Xt b s).2 with now:=b.now+1}):=by
 obtain⟨h1,h2⟩:=Yhi h s hd;have e1:=dE b;have Sn:∀(c:Za) (w:Zq),Yz n c->c.now=b.now->aX x0 s c w=some ({w with C0:=(Jn c).1},{(Jn c).2 with now:=b.now+1}):=by
  intro c w hc hcn;unfold aX aW;rw[Y4g hc,Ag];simp only;rw[(Z82 hc).1,hcn,Yl (by omega) (by omega)]
 have Sm:∀w:Zq,TL x0 s (Yu b) w=some ({w with C0:=(Xt b s).1},{(Xt b s).2 with now:=b.now+1}):=by
  intro w;unfold TL Xt;have e2:=rV (Yu b) s;by_cases hl:(Yu b).addr.live=true
  .rw[Ah hl,Yx0 h1 hs hl,Ag,Yl (by rw[e1.2.2.1];omega) (by rw[e1.2.2.1];omega)]
   have hb:Qc (Yu b) s={Yu b with addr:=Zi.z0,Aa:={(Yu b).addr with left:=(GO (Yu b) s (Yu b).addr).2,Ar:=(GO (Yu b) s (Yu b).addr).1},Au:=(Yu b).Au+1}:=by
    unfold Qc;rw[Ah hl]
   rw[<-hb];exact Sn _ _ h2 (by rw[e2.1,e1.2.2.2.1])
  .rw[Ai hl]
   have hb:Qc (Yu b) s=Yu b:=by
    unfold Qc;rw[Ai hl]
   rw[hb];exact Sn _ _ h1 e1.2.2.2.1
 have cU:Oq x0 s b w false=TL x0 s b w:=by unfold Oq;rw[Ai (by simp)]
 by_cases e:b.Af=-1
 .have hb:Yu b=b:=by unfold Yu;rw[Ai (λhx:b.Af≠-1/\b.held=b.Ae.Am=>hx.1 e)]
  rw[Ai (by simpa using e),cU];have:=Sm w
  rwa [hb] at this
 .rw[Ah (by simpa using e)]
  by_cases e2:b.held=b.Ae.Am
  .have hb:Yu b=Y30 {b with m:=b.m.set b.Af.toNat {Ak b.m b.Af with broken:=true}}:=by unfold Yu;rw[Ah ⟨e,e2⟩]
   unfold Oq aQ;rw[decide_eq_true e2,Ah rfl,Wq h.ml (Hs h e).1,Ag,Qg,Ag,Ag];have:=Sm w;rw[hb] at this;exact this
  .have hb:Yu b=b:=by unfold Yu;rw[Ai (λhx:b.Af≠-1/\b.held=b.Ae.Am=>e2 hx.2)]
   rw[decide_eq_false e2,cU];have:=Sm w
   rwa [hb] at this
theorem Ywc (x0:Za) (w:Zq) (h:Yz n b) (hs:s.sm) (hd:b.Aa=Zi.z0) (hp:0<=b.Au/\b.Au<=4000) (hn:0<=b.now/\b.now<=4000) (hg:w.C0=-1):(if decide (b.Af≥0)=true then Oa x0 s b w (decide (b.held≥b.Ae.Am)) else Oa x0 s b w false)=some ({(Xt b s).2 with now:=b.now+1},{w with C0:=(Xt b s).1}):=by
 obtain⟨h1,h2⟩:=Yhi h s hd;have e1:=dE b;have e2:=rV (Yu b) s;have hz:=(rU h1 s (by rw[e1.1];exact hd)).2;have Sn:Tx x0 s (Yu b) w=some ({(Xt b s).2 with now:=b.now+1},{w with C0:=(Xt b s).1}):=by
  unfold Tx Tw Xt;have Ip:=Y2b h2;have hgd:=(Z82 h2).1;rw[Y14 h1 hs (by rw[e1.2.2.1];exact hp),Ag,Ip,Ag];have JD:=Ux h2;rw[hgd,e2.1,e1.2.2.2.1,Yl (by omega) (by omega)];unfold Jn;rcases JD.Aj with hw|hw
  .rw[Ah (show (Kg (Qc (Yu b) s)).1 < 0 by rw[hw];decide)]
   have:(Kg (Qc (Yu b) s)).2.2.addr.live=false:=by rw[JD.addr,hz]
   rw[Ai (by simp[this])];rw[show (-1,(Kg (Qc (Yu b) s)).2.2).1=w.C0 from hg.symm]
  .have F7:=X0 hw.1
   rw[Ai (show ¬(Kg (Qc (Yu b) s)).1 < 0 by omega),Ah (by rfl)];rfl
 have hh:=sD h;have Z6:b.Af≥0↔b.Af≠-1:=by
  rcases hh with hh|hh
  .omega
  .have:=X0 hh;omega
 have hJ7:Oa x0 s b w false=Tx x0 s b w:=by unfold Oa;rw[Ai (by simp)]
 by_cases e:b.Af=-1
 .have hb:Yu b=b:=by unfold Yu;rw[Ai (λhx:b.Af≠-1/\b.held=b.Ae.Am=>hx.1 e)]
  rw[Ai (by simp;omega),hJ7]
  rwa [hb] at Sn
 .rw[Ah (by simpa using Z6.2 e)]
  have hhe:=(Hs h e).2.2.2;by_cases e2:b.held=b.Ae.Am
  .have hb:Yu b=Y30 {b with m:=b.m.set b.Af.toNat {Ak b.m b.Af with broken:=true}}:=by unfold Yu;rw[Ah ⟨e,e2⟩]
   unfold Oa;rw[decide_eq_true (show b.held≥b.Ae.Am by omega),Ah rfl,Wq h.ml (Hs h e).1,Ag,Qg,Ag];rw[hb] at Sn;exact Sn
  .have hb:Yu b=b:=by unfold Yu;rw[Ai (λhx:b.Af≠-1/\b.held=b.Ae.Am=>e2 hx.2)]
   rw[decide_eq_false (show ¬b.held≥b.Ae.Am by omega),hJ7]
   rwa [hb] at Sn
theorem Xbo (x0:Za) (w:Zq) (h:Yz b.now b) (hs:s.sm) (hw:w.ready=true) (hg:w.Ar=0) (hp:0<=b.Au/\b.Au<=4000) (hn:0<=b.now/\b.now < 4000):
  Ot x0 s b w=some (if (Z0 b s).2.1=true then ({w with Ar:=(Z0 b s).2.2,C0:=(Xt (Z0 b s).1 s).1},{(Xt (Z0 b s).1 s).2 with now:=b.now+1}) else ({w with ready:=false,Ar:=(Z0 b s).2.2},{(Z0 b s).1 with now:=b.now+1})):=by
 have hf:=rR s hn.1 h;have CL:=Z8e b s;obtain⟨w1,w2,w3,w4,w5,w6,rdy,rsp,w9⟩:=w;simp only at hw hg;subst hw;subst hg;unfold Ot;rw[Y0h (Zq.mk w1 w2 w3 w4 w5 w6 true 0 w9) h hs (by omega),Ag];simp only;have dM:(if b.Aa.live=true/\¬b.Aa.left > 0 then Zq.mk w1 w2 w3 w4 w5 w6 true b.Aa.Ar w9 else Zq.mk w1 w2 w3 w4 w5 w6 true 0 w9)=Zq.mk w1 w2 w3 w4 w5 w6 true (Z0 b s).2.2 w9:=by
  unfold Z0;by_cases hd:b.Aa.live=true
  .by_cases hl:b.Aa.left > 0
   .rw[Ai (λhx:b.Aa.live=true/\¬b.Aa.left > 0=>hx.2 hl),Ai (by simp[hd]),Ah hl]
   .rw[Ah ⟨hd,hl⟩,Ai (by simp[hd]),Ai hl]
    congr 1
    split
    .rfl
    .split
     .rfl
     .split<;>rfl
  .rw[Ai (λhx:b.Aa.live=true/\¬b.Aa.left > 0=>hd hx.1),Ah (by simpa using hd)]
 rw[dM];by_cases hr:(Z0 b s).2.1=true
 .rw[Ah hr,Ah hr]
  simp only[hr];have:=Yv5 x0 (Zq.mk w1 w2 w3 w4 w5 w6 true (Z0 b s).2.2 w9) hf.1 hs (hf.2 hr) (by rw[CL.2.1];exact hp) (by rw[CL.1];omega);rw[CL.1] at this;exact this
 .rw[Ai hr,Ai hr]
  unfold aW;have C6:(Z0 b s).2.1=false:=by simpa using hr
  rw[C6,CL.1,Yl (by omega) (by omega)]
theorem Xb1 (x0:Za) (w:Zq) (h:Yz b.now b) (hs:s.sm) (hw:w.ready=true) (hg:w.Ar=0) (dN:w.C0=-1) (hp:0<=b.Au/\b.Au<=4000) (hn:0<=b.now/\b.now < 4000):
  Oc x0 s b w=some (if (Z0 b s).2.1=true then ({(Xt (Z0 b s).1 s).2 with now:=b.now+1},{w with Ar:=(Z0 b s).2.2,C0:=(Xt (Z0 b s).1 s).1}) else ({(Z0 b s).1 with now:=b.now+1},{w with ready:=false,Ar:=(Z0 b s).2.2})):=by
 have hf:=rR s hn.1 h;have CL:=Z8e b s;have G4:=(W1 h.Ae).2.1;obtain⟨w1,w2,w3,w4,w5,w6,rdy,rsp,w9⟩:=w;simp only at hw hg dN;subst hw;subst hg;subst dN;have hT:∀w2:Zq,w2.ready=true->w2.C0=-1->(Z0 b s).2.1=true->Kw x0 s (Z0 b s).1 w2=some ({(Xt (Z0 b s).1 s).2 with now:=b.now+1},{w2 with C0:=(Xt (Z0 b s).1 s).1}):=by
  intro w2 h1 h2 hr;unfold Kw;rw[Ah h1];have:=Ywc x0 w2 hf.1 hs (hf.2 hr) (by rw[CL.2.1];exact hp) (by rw[CL.1];omega) h2;rw[CL.1] at this;exact this
 have hF:∀(c:Za) (w2:Zq),w2.ready=false->c.now=b.now->Kw x0 s c w2=some ({c with now:=b.now+1},w2):=by
  intro c w2 h1 h2;unfold Kw Tw;rw[Ai (by simp[h1]),h2,Yl (by omega) (by omega)]
 unfold Oc lP;by_cases hd:b.Aa.live=true
 .have CQ:=h.data
  unfold Kt at CQ;rw[Ah hd] at CQ;rw[Ah hd];by_cases hl:b.Aa.left > 0
  .have e:Z0 b s=({b with Aa:={b.Aa with left:=b.Aa.left - 1}},false,0):=by
    unfold Z0;rw[Ai (by simp[hd]),Ah hl]
   rw[decide_eq_true hl,Ah rfl,Xb (by omega) (by omega),hF {b with Aa:={b.Aa with left:=b.Aa.left - 1}} (Zq.mk w1 w2 w3 w4 w5 w6 false 0 (-1)) rfl rfl,e,Ai (by simp)]
  .rw[decide_eq_false hl,Ai (by simp),Ah hd]
   have Y40:¬(b.Aa.Ar≠0/\b.Aa.second=false)->Ob x0 s b (Zq.mk w1 w2 w3 w4 w5 w6 true 0 (-1)) false=some (if (Z0 b s).2.1=true then ({(Xt (Z0 b s).1 s).2 with now:=b.now+1},Zq.mk w1 w2 w3 w4 w5 w6 true (Z0 b s).2.2 (Xt (Z0 b s).1 s).1) else ({(Z0 b s).1 with now:=b.now+1},Zq.mk w1 w2 w3 w4 w5 w6 false (Z0 b s).2.2 (-1))):=by
    intro PI;unfold Ob;rw[Ai (by simp),Ah hd,Yye h hs (by omega) hd hl PI,Ag];have hr:(Z0 b s).2.1=true/\(Z0 b s).2.2=b.Aa.Ar:=by
     unfold Z0;rw[Ai (by simp[hd]),Ai hl,Ai PI];split
     .exact⟨rfl,rfl⟩
     .split<;>exact⟨rfl,rfl⟩
    rw[Ah hr.1,hr.2];exact hT _ rfl rfl hr.1
   by_cases h2:b.Aa.Ar≠0
   .rw[Ah (decide_eq_true h2)]
    by_cases h3:b.Aa.second=false
    .rw[h3]
     have e:Z0 b s=(if b.addr.live then {Ws {b with Aa:={b.Aa with second:=true}} b.addr with addr:=Zi.z0} else {b with Aa:={b.Aa with second:=true}},false,b.Aa.Ar):=by
      unfold Z0;rw[Ai (by simp[hd]),Ai hl,Ah ⟨h2,h3⟩]
     have hq:∀(x y:Option (Za×Zq)),(if (Z0 b s).2.1=true then x else y)=y:=by
      intro x y;rw[e];exact Ai (by simp)
     have EG:(some (if (Z0 b s).2.1=true then ({(Xt (Z0 b s).1 s).2 with now:=b.now+1},Zq.mk w1 w2 w3 w4 w5 w6 true (Z0 b s).2.2 (Xt (Z0 b s).1 s).1) else ({(Z0 b s).1 with now:=b.now+1},Zq.mk w1 w2 w3 w4 w5 w6 false (Z0 b s).2.2 (-1))))=some ({(Z0 b s).1 with now:=b.now+1},Zq.mk w1 w2 w3 w4 w5 w6 false b.Aa.Ar (-1)):=by
      rw[show (Z0 b s).2.2=b.Aa.Ar by rw[e]];exact congrArg some (Ai (by rw[e];simp))
     refine Gx ?_ EG.symm;unfold Ob;rw[Ah (by rfl),show (Z0 b s).1=(if b.addr.live then {Ws {b with Aa:={b.Aa with second:=true}} b.addr with addr:=Zi.z0} else {b with Aa:={b.Aa with second:=true}}) by rw[e]];by_cases ha:b.addr.live=true
     .rw[Ah ha,Ah ha]
      have F8:=GP h ha;rw[Z53 (b:={b with addr:=Zi.z0,Aa:={b.Aa with second:=true}}) b.addr h.Ae F8 h.ml h.bl (h.Bx _ F8).right h.Bm,Ag];have er:Ws {b with addr:=Zi.z0,Aa:={b.Aa with second:=true}} b.addr={Ws {b with Aa:={b.Aa with second:=true}} b.addr with addr:=Zi.z0}:=by
       unfold Ws;split
       .rfl
       .split<;>rfl
      rw[er];exact hF _ _ rfl (rX _ _).1
     .rw[Ai ha,Ai ha]
      exact hF _ _ rfl rfl
    .have h4:b.Aa.second=true:=by simpa using h3
     rw[h4,Du];exact Y40 λhx=>h3 hx.2
   .rw[Ai (by simpa using h2)]
    exact Y40 λhx=>h2 hx.1
 .have GJ:b.Aa.live=false:=by simpa using hd
  have e:Z0 b s=(b,true,0):=by unfold Z0;rw[Ah GJ]
  rw[Ai hd,Ai (by simp),Ai hd];unfold Ob;have:=hT (Zq.mk w1 w2 w3 w4 w5 w6 true 0 (-1)) rfl rfl (by rw[e]);rw[e] at this ⊢;rw[Ai (by simp),Ai hd,Ah rfl];simp only at this ⊢;rw[this]
theorem Xa8 (x0:Za) (w:Zq) (h:Yz b.now b) (hs:s.sm) (hw:w.ready=true) (hg:w.Ar=0) (hp:0<=b.Au/\b.Au<=4000) (hn:0<=b.now/\b.now < 4000):
  R9 x0 s FU b w (b.splits.length:Int) 0=Ot x0 s (EA (Xk b)) w:=by
 have Yn:=Km h.Ae;have He:=h.sl;rw[He];have:=K7 (σ:=Za×Zq×Int) (n:=b.Ae.Ab.length) (by omega) (λk=>(GQ b k,w,(b.Ae.Ab.length:Int))) (B:=λκ st i=>pG x0 s (λa b c i=>κ (a,b,c) i) st.1 st.2.1 st.2.2 i) (L:=λm st i=>R9 x0 s m st.1 st.2.1 st.2.2 i) (λm s i=>rfl) (r:=Ot x0 s (EA (Xk b)) w) (λk hk κ=>?_) λκ=>?_
 .simp only[Y0q] at this
  exact this
 .have CW:=FP (c:=b.Ae) hk
  obtain⟨t1,t2,t3,t4⟩:=Ylz h hk;have JA:=(h.Bx _ CW).split;have Sk:=(W1 h.Ae).2.2.2;unfold pG;simp only;rw[Ah (by simpa using hk),t1,Ag,Qg,Ag,t3,Ag,show (GQ b k).Ae=b.Ae from rfl,OA CW,Ag,Ymu _ (IT h.Ae CW),Ag,Qg,Ag,Xb (by omega) (by omega),MI,Nh,t2,t4];rfl
 .have hto:=Z8m h
  unfold pG;simp only[Yqi h];rw[Ai (by simp)];unfold EA;by_cases e:b.Af=-1
  .rw[Ai (by simp[Xk,e]),Ah (show (Xk b).Af=-1 from e)]
  .have hh:=(Hs hto (show (Xk b).Af≠-1 from e)).2.2.2
   have hl:=(W1 h.Ae).2.2.1;have h3:(Xk b).Ae.Am=b.Ae.Am:=rfl;rw[Ah (by simp[Xk,e]),Ai (show ¬(Xk b).Af=-1 from e),Yl (by omega) (by omega),Gk]
theorem Xbp (x0:Za) (w:Zq) (h:Yz b.now b) (hs:s.sm):Ri x0 s FU b w 0=Oc x0 s (EA (Xk b)) w:=by
 have Yn:=Km h.Ae;have CH:=h.ml;have:=K7 (σ:=Za×Zq) (n:=b.Ae.Ab.length) (by omega) (λk=>(GQ b k,w)) (B:=λκ st i=>lQ x0 s (λa b i=>κ (a,b) i) st.1 st.2 i) (L:=λm st i=>Ri x0 s m st.1 st.2 i) (λm s i=>rfl) (r:=Oc x0 s (EA (Xk b)) w) (λk hk κ=>?_) λκ=>?_
 .simp only[Y0q] at this
  exact this
 .have CW:=FP (c:=b.Ae) hk
  obtain⟨t1,t2,t3,t4⟩:=Ylz h hk;have JA:=(h.Bx _ CW).split;have Sk:=(W1 h.Ae).2.2.2;unfold lQ;simp only;rw[Ah (by show decide ((k:Int) < (b.m.length:Int))=true;rw[CH];simpa using hk),t1,Ag,Qg,Ag,t3,Ag,show (GQ b k).Ae=b.Ae from rfl,OA CW,Ag,Ylg _ (IT h.Ae CW),Ag,Qg,Ag,Xb (by omega) (by omega),MI,Int.max_comm,Nh,t2,t4];rfl
 .have hto:=Z8m h
  have hh:=sD h;unfold lQ;simp only[Yqi h];rw[Ai (by show ¬decide ((b.Ae.Ab.length:Int) < (b.m.length:Int))=true;rw[CH];simp)];unfold EA;by_cases e:b.Af=-1
  .rw[Ai (by show ¬decide (b.Af≥0)=true;rw[e];simp),Ah (show (Xk b).Af=-1 from e)]
  .have hh2:=(Hs hto (show (Xk b).Af≠-1 from e)).2.2.2
   have hl:=(W1 h.Ae).2.2.1;have h3:(Xk b).Ae.Am=b.Ae.Am:=rfl;have F7:=X0 (Hs h e).1;rw[Ah (by show decide (b.Af≥0)=true;simpa using F7.1),Ai (show ¬(Xk b).Af=-1 from e),Yl (by omega) (by omega),Gk,UW]
theorem Yzx (h:Yz n b):RA b s=aZ b s (F6 b):=by
 unfold RA bA F6;by_cases ha:b.addr.live=true
 .have F8:=GP h ha
  by_cases hd:b.Aa.live=true
  .have Ht:=Kk h hd
   simp only[ha,hd,if_true,Wq h.ml F8,Wq h.ml Ht,Ag,RT _ (h.Bx _ F8).right,RT _ (h.Bx _ Ht).right];by_cases hf:b.addr.first=true<;>simp[hf]
  .have GJ:b.Aa.live=false:=by simpa using hd
   simp only[ha,GJ,if_true,Bn,if_false,Wq h.ml F8,Ag,RT _ (h.Bx _ F8).right];by_cases hf:b.addr.first=true<;>simp[hf]
 .have D1:b.addr.live=false:=by simpa using ha
  by_cases hd:b.Aa.live=true
  .have Ht:=Kk h hd
   simp only[D1,hd,if_true,Bn,if_false,Wq h.ml Ht,Ag,RT _ (h.Bx _ Ht).right]
  .have GJ:b.Aa.live=false:=by simpa using hd
   simp only[D1,GJ,if_true,Bn,if_false]
theorem Y6u (h:Yz n b):j6 b=some (F6 b):=by
 unfold j6 YO F6;by_cases ha:b.addr.live=true
 .have F8:=GP h ha
  by_cases hd:b.Aa.live=true
  .have Ht:=Kk h hd
   simp only[ha,hd,if_true,Wq h.ml F8,Wq h.ml Ht,Ag,Up _ (h.Bx _ F8).right,Up _ (h.Bx _ Ht).right];by_cases hf:b.addr.first=true<;>simp[hf]
  .have GJ:b.Aa.live=false:=by simpa using hd
   simp only[ha,GJ,if_true,Bn,if_false,Wq h.ml F8,Ag,Up _ (h.Bx _ F8).right];by_cases hf:b.addr.first=true<;>simp[hf]
 .have D1:b.addr.live=false:=by simpa using ha
  by_cases hd:b.Aa.live=true
  .have Ht:=Kk h hd
   simp only[D1,hd,if_true,Bn,if_false,Wq h.ml Ht,Ag,Up _ (h.Bx _ Ht).right]
  .have GJ:b.Aa.live=false:=by simpa using hd
   simp only[D1,GJ,if_true,Bn,if_false]
theorem Xb8 (x0:Za) (w:Zq) (h:Yz n b) (ps:List Zl) (SP:ps.length < 1048577/\∀p∈ps,p.Bo.sm):aY x0 s FU b w ps (ps.length:Int) 0=R9 x0 s FU (X6 b ps) w ((X6 b ps).splits.length:Int) 0:=by
 have Z6:=Gl h.Ae;have:=K7 (σ:=Za×Zq×List Zl×Int) (n:=ps.length) (by omega) (λk=>(X6 b (ps.take k),w,ps,(ps.length:Int))) (B:=λκ st i=>pH x0 s (λa b c d i=>κ (a,b,c,d) i) st.1 st.2.1 st.2.2.1 st.2.2.2 i) (L:=λm st i=>aY x0 s m st.1 st.2.1 st.2.2.1 st.2.2.2 i) (λm s i=>rfl) (r:=R9 x0 s FU (X6 b ps) w ((X6 b ps).splits.length:Int) 0) (λk hk κ=>?_) λκ=>?_
 .exact this
 .have hI:=dB h (ps.take k)
  have hc:=(dC b (ps.take k)).1;rw[Ycw b ps k hk];generalize X6 b (ps.take k)=c at hI hc ⊢;unfold pH Js;simp only;rw[Ah (by simpa using hk),Zy hk,Ag,Lm _ _ (by rw[hc];exact Z6),Ag];by_cases e:Zn c.Ae ps[k].Aj=true
  .obtain⟨ok,hp⟩:=Yu5 (r:=ps[k].Bo) (hI.Bx _ e).right (SP.2 _ (B6 hk))
   rw[Ah e,Ah e,Wq hI.ml e,Ag,hp,Ag,Qg,Ag]
  .rw[Ai e,Ai e]
 .unfold pH
  simp only;rw[Ai (by simp),EY]
theorem Xbl (x0:Za) (w:Zq) (h:Yz n b) (ps:List Zl) (SP:ps.length < 1048577/\∀p∈ps,p.Bo.sm):ZE x0 s FU b w ps 0=Ri x0 s FU (X6 b ps) w 0:=by
 have Z6:=Gl h.Ae;have:=K7 (σ:=Za×Zq×List Zl) (n:=ps.length) (by omega) (λk=>(X6 b (ps.take k),w,ps)) (B:=λκ st i=>lR x0 s (λa b c i=>κ (a,b,c) i) st.1 st.2.1 st.2.2 i) (L:=λm st i=>ZE x0 s m st.1 st.2.1 st.2.2 i) (λm s i=>rfl) (r:=Ri x0 s FU (X6 b ps) w 0) (λk hk κ=>?_) λκ=>?_
 .exact this
 .have hI:=dB h (ps.take k)
  have hc:=(dC b (ps.take k)).1;rw[Ycw b ps k hk];generalize X6 b (ps.take k)=c at hI hc ⊢;unfold lR Js;simp only;rw[Ah (by simpa using hk),Zy hk,Ag,cZ hI.ml (by rw[hc];exact Z6),Ag];by_cases e:Zn c.Ae ps[k].Aj=true
  .obtain⟨ok,hp⟩:=Yvf (r:=ps[k].Bo) (hI.Bx _ e).right (SP.2 _ (B6 hk))
   rw[Ah e,Ah e,Wq hI.ml e,Ag,hp,Ag,Qg,Ag]
  .rw[Ai e,Ai e]
 .unfold lR
  simp only;rw[Ai (by simp),EY]
end
theorem Ydf {b:Za} {s:Zb} (h:CV b) (hs:s.sm) (hn:b.now < 4000):RA b s=some ((Dr b s).2,(Dr b s).1):=by
 have hP:=dB h.i (E9 s b.now);have hc:=dC b (E9 s b.now);have hp:=h.Au;have P7:=h.now;have hO:=rW h s;have eO:=dH b s;rw[Yzx h.i];unfold aZ;rw[Ywl _ _ hs,Ag,Xb8 b (F6 b) h.i _ (Yti hs _)];have hP2:Yz (X6 b (E9 s b.now)).now (X6 b (E9 s b.now)):=by rw[hc.2.1];exact hP
 rw[Xa8 b (F6 b) hP2 hs rfl rfl (by rw[hc.2.2.1];omega) (by rw[hc.2.1];omega)];have Pw:Yz (Wb b s).now (Wb b s):=by rw[eO.1];exact hO
 show Ot b s (Wb b s) (F6 b)=_;rw[Xbo b (F6 b) Pw hs rfl rfl (by rw[eO.2.2.1];omega) (by rw[eO.1];omega),eO.1];unfold Dr;split<;>rfl
theorem Ydo {b:Za} {s:Zb} (h:CV b) (hs:s.sm) (hn:b.now < 4000):ZF b s=some ((Dr b s).1,(Dr b s).2):=by
 have hP:=dB h.i (E9 s b.now);have hc:=dC b (E9 s b.now);have hp:=h.Au;have P7:=h.now;have hO:=rW h s;have eO:=dH b s;unfold ZF;rw[sB b h.sm,Ag,Y6u h.i,Ag,Ys0 _ _ hs,Ag,Xbl b (F6 b) h.i _ (Yti hs _)];have hP2:Yz (X6 b (E9 s b.now)).now (X6 b (E9 s b.now)):=by rw[hc.2.1];exact hP
 rw[Xbp b (F6 b) hP2 hs];have Pw:Yz (Wb b s).now (Wb b s):=by rw[eO.1];exact hO
 show Oc b s (Wb b s) (F6 b)=_;rw[Xb1 b (F6 b) Pw hs rfl rfl rfl (by rw[eO.2.2.1];omega) (by rw[eO.1];omega),eO.1];unfold Dr;split<;>rfl
def okB (b:Za):Bool:=(KZ b).getD false
theorem sE {b:Za} (hs:b.sm):okB b=true↔CV b:=by
 obtain⟨r,-,h2,h3⟩:=Yiy b hs;unfold okB;rw[h2];exact h3
theorem dO {b:Za} (hs:b.sm):TR b=some (okB b):=by
 obtain⟨r,h1,h2,h3⟩:=Yiy b hs;unfold okB;rw[h1,h2];rfl
theorem Y1u {b:Za} (hs:b.sm):KZ b=some (okB b):=by
 obtain⟨r,h1,h2,h3⟩:=Yiy b hs;unfold okB;rw[h2];rfl
def Yvv (b:Za) (s:Zb):Za×Zq:=if okB b=true/\b.now≠4000 then Dr b s else (b,Zq.z0)
def De (c:Zh):Za:={Za.z0 with Ae:=c,m:=List.replicate c.Ab.length Zg.z0,buckets:=c.Ab.map Ln,splits:=List.replicate c.Ab.length 0,Af:=-1,last:=-1,model:=Zf.mk (List.replicate 192 0) (Zm.mk (List.replicate 4 0) 0 [])}
def So (c:Zh):Za×Bool:=if Yr c=true then (De c,true) else (Za.z0,false)
theorem Yyv:yM=some (Zm.mk (List.replicate 4 0) 0 []):=rfl
theorem Yam:XX=some (Zf.mk (List.replicate 192 0) (Zm.mk (List.replicate 4 0) 0 [])):=by
 unfold XX;rw[show (192:Int)=((192:Nat):Int) from rfl,Yug (by decide) (by decide),Ag,Yyv];rfl
theorem Yba:aB=some (Zf.mk (List.replicate 192 0) (Zm.mk (List.replicate 4 0) 0 [])):=by
 unfold aB
 first
 | rfl
 | (rw[show (192:Int)=((192:Nat):Int) from rfl,Yug (by decide) (by decide),Ag];rfl)
def DP (c:Zh) (k:Nat):Za:={De c with m:=List.replicate k Zg.z0,buckets:=(c.Ab.take k).map Ln,splits:=List.replicate k 0}
theorem Ypm (c:Zh) {k:Nat} (hk:k < c.Ab.length):DP c (k+1)={DP c k with m:=(DP c k).m++[Zg.z0],buckets:=(DP c k).buckets++[Ln c.Ab[k]],splits:=(DP c k).splits++[0]}:=by
 unfold DP;simp only[List.replicate_succ'];rw[List.take_succ_eq_append_getElem hk,Gv];rfl
theorem Yv1 (c:Zh):DP c c.Ab.length=De c:=by
 unfold DP;rw[EY];rfl
theorem Yg1 (c:Zh) (hl:c.Ab.length < 1048577):aC c=some (So c):=by
 unfold aC So;rw[Uh c hl,Ag];by_cases h:Yr c=true
 .rw[h,Ai (by simp),(sA c hl).1,Ag,Yba,Ag,Ah rfl]
  rw[<-Yv1 c];refine K7 (σ:=Za) (n:=c.Ab.length) (by omega) (DP c) (B:=nE c) (L:=nF c) (λm s i=>rfl) (λk hk κ=>?_) λκ=>?_
  .unfold nE
   have e1:(DP c k).m.length=k:=by simp[DP]
   have e2:(DP c k).buckets.length=k:=by simp[DP];omega
   have e3:(DP c k).splits.length=k:=by simp[DP]
   rw[Ah (by simpa using hk),Zy hk,Ag,Yp (by simp only[AV,Bq];omega) (by simp only[AV,Bq];omega),Ag,Yoo,Ag,Yp (by simp only[AV,Bq];omega) (by simp only[AV,Bq];omega),Ag,Yp (by simp only[AV,Bq];omega) (by simp only[AV,Bq];omega),Ag,Ypm c hk]
  .unfold nE
   rw[Ai (by simp)]
 .simp[h]
theorem Yxv (c:Zh) (hl:c.Ab.length < 1048577):jE c=some (So c):=by
 unfold jE So;rw[RN c hl,Ag];by_cases h:Yr c=true
 .rw[h,Ai (by simp),(sA c hl).2,Ag,Yam,Ag,Ah rfl]
  rw[<-Yv1 c];refine K7 (σ:=Za) (n:=c.Ab.length) (by omega) (DP c) (B:=jC c) (L:=jD c) (λm s i=>rfl) (λk hk κ=>?_) λκ=>?_
  .unfold jC
   have e1:(DP c k).m.length=k:=by simp[DP]
   have e2:(DP c k).buckets.length=k:=by simp[DP];omega
   have e3:(DP c k).splits.length=k:=by simp[DP]
   rw[Ah (by simpa using hk),Yp (by simp only[AV,Bq];omega) (by simp only[AV,Bq];omega),Ag,Zy hk,Ag,Yoj,Ag,Yp (by simp only[AV,Bq];omega) (by simp only[AV,Bq];omega),Ag,Yp (by simp only[AV,Bq];omega) (by simp only[AV,Bq];omega),Ag,Ypm c hk]
  .unfold jC
   rw[Ai (by simp)]
 .simp[h]
theorem Y9l (c:Zh) (i:Int):Jt (De c) i=0:=rfl
theorem sF (c:Zh) {i:Int} (h:Zn c i=true):Ak (De c).m i=Zg.z0:=by
 obtain⟨k,rfl,hk⟩:=cS h;have GM:k < (De c).m.length:=by simpa [De] using hk
 rw[W7 GM];simp[De]
theorem Y8e:Yy Zg.z0:=⟨by decide,by decide,λr hr=>absurd hr (by simp[Zg.z0]),λ_=>⟨rfl,rfl,rfl,rfl,rfl⟩,λh=>absurd rfl h⟩
theorem Uz:Ec (Zf.mk (List.replicate 192 0) (Zm.mk (List.replicate 4 0) 0 [])):=⟨eU,by show (List.replicate 192 (0:Int)).all DN=true;rw[List.all_replicate];rfl,⟨rfl,by show ∀v∈List.replicate 4 (0:Int),Xw v 2=true;decide,by show Xw 0 2=true;decide,by show 0<=4;decide,λv hv=>absurd hv (by show ¬v∈([]:List Int);simp)⟩⟩
theorem Sp {c:Zh} (h:Yr c=true):CV (De c):=by
 have hl:=Km h;have Dn:Zn c 0=true:=by simp only[Zn,Bj];omega
 have He:0 < Ji c:=by
  have:=cB c;simp only[Yr,Bg,Bj] at h;omega
 have G4:=W1 h;have e0:(0:Int)<=0:=LA 0;refine⟨h,⟨e0,by show (0:Int)<=4000;omega⟩,by simp[De],by simp[De],by simp[De],λi hi=>⟨by rw[sF c hi];exact Y8e,?_,?_,?_⟩,?_,.inl rfl,?_,⟨e0,e0⟩,λhx=>absurd hx (by simp[De,Za.z0,Zi.z0]),λhx=>absurd hx (by simp[De,Za.z0,Zi.z0]),λi hi=>?_,?_,?_,⟨λi hi hb=>?_,?_⟩,λd hd=>absurd hd (by simp[De,Za.z0]),?_⟩
 .rw[sF c hi]
  show (0:Int)<=c.An;exact G4.1.1
 .obtain⟨k,rfl,hk⟩:=cS hi
  have GM:k < (De c).buckets.length:=by simpa [De] using hk
  have hk:k < c.Ab.length:=hk;have hm:=IT h hi;show Y0 (Ak (De c).buckets k) (Ak c.Ab k)=true;rw[W7 hk] at hm ⊢;rw[W7 GM];have:(De c).buckets[k]=Ln c.Ab[k]:=by simp[De]
  rw[this];exact Xb5 hm ⟨He,λhp=>List.countP_pos_iff.2 ⟨_,B6 hk,hp⟩⟩
 .obtain⟨k,rfl,hk⟩:=cS hi
  have GM:k < (De c).splits.length:=by simpa [De] using hk
  rw[W7 GM];have:(De c).splits[k]=0:=by simp[De]
  rw[this];exact⟨e0,by show (0:Int)<=c.Ap;omega⟩
 .show CG Yb.z0 c=true
  unfold CG;have:=Ui c 0;simp[h,Dn,Yb.z0,this.1]
 .exact Uz
 .rw[sF c hi,Y9l];rfl
 .unfold Jq
  rw[Ai (by simp[De,Za.z0,Zi.z0])];rfl
 .unfold Kt
  rw[Ai (by simp[De,Za.z0,Zi.z0])];rfl
 .rw[sF c hi] at hb
  exact absurd hb (by decide)
 .show if (-1:Int)=-1 then (0:Int)=0 else _
  rw[Ah rfl]
 .exact List.Pairwise.nil
def FR (b:Za):Bool:=b.m.all λm=>decide (m.queue=[])
def Y3y (b:Za):Bool:=okB b&&FR b
theorem Yf5 {b:Za} (hl:b.m.length < 1048577):bI b=some (FR b):=by
 unfold bI Q2 Ko;have e:∀a:Zg,bH a=some (!decide (a.queue=[])):=by
  intro a;unfold bH;by_cases h:a.queue=[]
  .simp[h]
  .have:=Cv.2 h
   simp only[h,decide_false,FF];exact congrArg some (decide_eq_true (by omega))
 rcases Z86 b.m (by omega) bH (λm=>decide (m.queue=[])) (λa _=>e a) (Wg b.m) (λm i=>rfl) with⟨h1,h2⟩|⟨k,hk,h2,h3,-⟩
 .rw[h2]
  unfold FR;rw[h1];rfl
 .rw[h2]
  have:FR b=false:=by
   unfold FR;rw[List.all_eq_false];exact⟨_,B6 hk,by rw[h3];simp⟩
  rw[this];simp
theorem Ys7 {α U:Type} (xs:List α) (hl:xs.length < 4611686018427387904) (c:α->Bool) {no:Option U} (fin:Option U) (L:Nat->Int->Option U)
  (hL:∀m i,L (m+1) i=if decide (i < (xs.length:Int))=true then (idx xs i).bind λa=>if c a=true then no else L m (Zo i 1) else fin):L FU 0=if xs.any c=true then no else fin:=by
 have key:∀(m k:Nat),k<=xs.length->xs.length - k < m->L m (k:Int)=if (xs.drop k).any c=true then no else fin:=by
  intro m
  induction m with
  | zero=>intro k _ h;omega
  | succ m ih=>
   intro k hk hm;rw[hL];by_cases hc:k < xs.length
   .rw[Ah (by simpa using hc),Zy hc,Ag,Yf (by omega),ih (k+1) (by omega) (by omega),D5 hc,Nk]
    by_cases h:c xs[k]=true
    .simp[h]
    .simp[h]
   .rw[Ai (by simpa using hc),UG (by omega)]
    simp
 have:=key FU 0 (Cd _) (by have:=Y5;omega);simpa using this
theorem Ypy (b:Za):(b.m.any λa=>decide ((a.queue.length:Int) > 0))=!FR b:=by
 unfold FR;rw[List.not_all_eq_any_not]
 congr 1
 funext a
 by_cases h:a.queue=[]
 .simp[h]
 .have:=Cv.2 h
  simp only[h,decide_false,FF];exact decide_eq_true (by omega)
theorem Ys8 {b:Za} (hs:b.sm):l7 b=some (Y3y b):=by
 unfold l7;have hl:=hs.ml;rw[Ys7 b.m (by omega) (λa=>decide ((a.queue.length:Int) > 0)) ((KZ b).bind λr601=>some r601) (l6 b) (λm i=>rfl),Ypy,Y1u hs];unfold Y3y;cases FR b<;>simp
theorem Bool.Sq {b:Bool} (h:¬b=true):b=false:=by simpa using h
def Lv (x:Zi):Bool:=!x.live||(decide (x.left<=0)&&(decide (x.Ar=0)||x.second))
def dP (x:Zi):Int:=if x.live=true/\x.left<=0 then x.Ar else 0
theorem Yk0 (b:Za) (s:Zb):(Z0 b s).2.1=Lv b.Aa/\(Z0 b s).2.2=dP b.Aa:=by
 unfold Z0 Lv dP;by_cases hd:b.Aa.live=false
 .rw[Ah hd];simp[hd]
 .have GJ:b.Aa.live=true:=by simpa using hd
  rw[Ai hd,GJ];by_cases hl:b.Aa.left > 0
  .rw[Ah hl,Ai (by omega)]
   simp;omega
  .rw[Ai hl,Ah (show true=true/\b.Aa.left<=0 from⟨rfl,by omega⟩)]
   have CJ:b.Aa.left<=0:=by omega
   by_cases hs:b.Aa.Ar≠0/\b.Aa.second=false
   .rw[Ah hs]
    simp[hs.1,hs.2]
   .rw[Ai hs]
    have:(decide (b.Aa.Ar=0)||b.Aa.second)=true:=by
     by_cases h0:b.Aa.Ar=0
     .simp[h0]
     .have:¬b.Aa.second=false:=λh=>hs ⟨h0,h⟩
      simpa [h0] using this
    rw[this];simp only[CJ,decide_true,L5,Du,UT]
    repeat' split
    all_goals exact⟨rfl,rfl⟩
theorem Xa1 (b:Za) (s:Zb):Dr b s=if Lv b.Aa=true then
  ({(Xt (Z0 (Wb b s) s).1 s).2 with now:=b.now+1},{F6 b with Ar:=dP b.Aa,C0:=(Xt (Z0 (Wb b s) s).1 s).1})
 else ({(Z0 (Wb b s) s).1 with now:=b.now+1},{F6 b with ready:=false,Ar:=dP b.Aa}):=by
 unfold Dr;have h:=Yk0 (Wb b s) s;have e:=dH b s;rw[e.2.2.2.2.2.2.1] at h;rw[h.1,h.2]
structure Y08 (b:Za) (r:Int×Za):Prop where
 splits:r.2.splits=b.splits
 C0:r.1=-1\/(Zn b.Ae r.1=true/\Ak b.splits r.1=0/\(r.2.Af=r.1\/r.2.Af=-1))
 some:r.1=-1\/(Ak b.m r.1).queue≠[]
 held:r.2.Af=-1\/r.2.held < b.Ae.Am
theorem Y2i (b:Za):(Yu b).splits=b.splits/\(Yu b).Ae=b.Ae/\((Yu b).Af=-1\/((Yu b).Af=b.Af/\(Yu b).held=b.held/\b.held≠b.Ae.Am)):=by
 unfold Yu;split
 .exact⟨rfl,rfl,.inl rfl⟩
 .rename_i h
  refine⟨rfl,rfl,?_⟩;by_cases h1:b.Af=-1
  .exact .inl h1
  .exact .inr ⟨rfl,rfl,λh2=>h ⟨h1,h2⟩⟩
theorem Y3b (b:Za) (s:Zb):(Qc b s).held=b.held:=by
 unfold Qc;split<;>rfl
theorem Y22 {n:Int} {b:Za} (h:Yz n b) (hh:b.Af=-1\/b.held < b.Ae.Am):Y08 b (Jn b):=by
 have hp:=Ux h;have Sk:=W1 h.Ae;unfold Jn;split
 .rename_i hx
  exact⟨hp.splits,.inl rfl,.inl rfl,by rw[hp.Af,hp.held];exact hh⟩
 .rename_i hx
  rcases hp.Aj with h1|⟨h1,h2,h3⟩
  .exact absurd (show (Kg b).1 < 0 by rw[h1];decide) hx
  .have hw:=Z8x h2
   have hq:(Ak b.m (Kg b).1).queue≠[]:=by
    intro hq;have:=(h.Bx _ h1).right.none hq;have h5:=hw.1;unfold Zw at h5;rw[Ah hq] at h5;omega
   refine⟨hp.splits,.inr ⟨h1,hw.2.1,?_⟩,.inr hq,?_⟩
   .show (if _ then (Kg b).1 else (Kg b).2.2.Af)=_\/(if _ then (Kg b).1 else (Kg b).2.2.Af)=-1
    split
    .exact .inl rfl
    .rw[hp.Af];exact hw.2.2.symm
   .show (if _ then (Kg b).1 else (Kg b).2.2.Af)=_\/(if _ then 0 else (Kg b).2.2.held) < _
    split
    .exact .inr (by omega)
    .rw[hp.Af,hp.held];exact hh
theorem Y3i {n:Int} {b:Za} (h:Yz n b) (s:Zb) (hd:b.Aa=Zi.z0):Y08 b (Xt b s):=by
 have h1:=rS h;have e1:=dE b;have m1:=Y2i b;have h2:=rU h1 s (by rw[e1.1];exact hd);have e2:=rV (Yu b) s;have Sk:=W1 h.Ae;have hb:(Qc (Yu b) s).Af=-1\/(Qc (Yu b) s).held < (Qc (Yu b) s).Ae.Am:=by
  rw[e2.2.2.2.2.2.2.1,Y3b,e2.2.1,m1.2.1];rcases m1.2.2 with h3|⟨h3,h4,h5⟩
  .exact .inl h3
  .by_cases hz:b.Af=-1
   .exact .inl (by rw[h3,hz])
   .have:=(Hs h hz).2.2.2
    exact .inr (by rw[h4];omega)
 have h3:=Y22 h2.1 hb;unfold Xt;have hbm:∀i,Zn b.Ae i=true->(Ak (Yu b).m i).queue=(Ak b.m i).queue:=by
  intro i hi;unfold Yu;split
  .rename_i hx
   have hw:=(Hs h hx.1).1;show (Ak (b.m.set b.Af.toNat {Ak b.m b.Af with broken:=true}) i).queue=_;rw[h.Gq hw _ hi];split
   .rename_i e;rw[e]
   .rfl
  .rfl
 refine⟨by rw[h3.splits,e2.2.2.2.2.2.1,m1.1],?_,?_,?_⟩
 .have:=h3.C0
  rw[e2.2.1,m1.2.1,e2.2.2.2.2.2.1,m1.1] at this;exact this
 .have h4:=h3.C0
  have h5:=h3.some;rw[e2.2.1,m1.2.1] at h4;rcases h4 with h4|h4
  .exact .inl h4
  .rcases h5 with h5|h5
   .exact .inl h5
   .refine .inr ?_
    rw[e2.2.2.2.2.1,hbm _ h4.1] at h5;exact h5
 .have:=h3.held
  rw[e2.2.1,m1.2.1] at this;exact this
theorem Y5m (b:Za) (s:Zb):(Dr b s).2={F6 b with ready:=Lv b.Aa,Ar:=dP b.Aa,C0:=if Lv b.Aa=true then (Xt (Z0 (Wb b s) s).1 s).1 else -1}:=by
 rw[Xa1];by_cases hr:Lv b.Aa=true
 .rw[Ah hr,Ah hr,hr]
  rfl
 .rw[Ai hr,Ai hr,Bool.Sq hr]
  rfl
def MT (s:Zb):Int:=s.Al.foldl (λm p=>EM m p.at_) (-1)
theorem Yq8 (s:Zb) (hl:s.Al.length < 1048577):lZ s=some (MT s):=by
 unfold lZ;rw[qZ (U:=Int) s.Al (by omega) (λ(p:Zl) m=>some (.inl (EM m p.at_))) (λm=>some m) (lY s) (λm v i=>rfl) (-1)];exact Yp6 _ _ (λm (p:Zl)=>EM m p.at_) (λ_ _=>True) (λa l s _=>⟨rfl,trivial⟩) _ _ trivial
theorem Yq9 (s:Zb) (hl:s.Al.length < 1048577):pV s=some (MT s):=by
 unfold pV;rw[qZ (U:=Int) s.Al (by omega) (λ(p:Zl) m=>some (.inl (EM m p.at_))) (λm=>some m) (pU s) (λm v i=>rfl) (-1)];exact Yp6 _ _ (λm (p:Zl)=>EM m p.at_) (λ_ _=>True) (λa l s _=>⟨rfl,trivial⟩) _ _ trivial
theorem Yvc {b:Za} (hl:b.m.length < 1048577):lX b=some (FR b):=by
 unfold lX;rw[Ys7 b.m (by omega) (λa=>decide ((a.queue.length:Int) > 0)) (some true) (lW b) (λm i=>rfl),Ypy];cases FR b<;>simp
def Lx (s:Zb) (b:Za):Prop:=b.now < 4000/\(FR b=false\/b.now<=MT s)
instance (s:Zb) (b:Za):Decidable (Lx s b):=by unfold Lx;infer_instance
def Ed (s:Zb):Nat->Za->Za
 | 0,b=>b
 | f+1,b=>if Lx s b then Ed s f (Dr b s).1 else b
def MU (b:Za) (s:Zb):Za×Int:=if okB b=true then (Ed s (4000 - b.now).toNat b,(Ed s (4000 - b.now).toNat b).now - b.now) else (b,0)
theorem Xa5 (s:Zb):∀(f:Nat) {b:Za},CV b->f=(4000 - b.now).toNat->CV (Ed s f b)/\¬Lx s (Ed s f b)/\b.now<=(Ed s f b).now/\(Ed s f b).Ae=b.Ae:=by
 intro f
 induction f with
 | zero=>
  intro b h hf;have hn:=h.now;exact⟨h,λhx=>by have:=hx.1;simp only[Ed] at this;omega,LA _,rfl⟩
 | succ f ih=>
  intro b h hf;have hn:=h.now;unfold Ed;split
  .rename_i hg
   have hs:=rY h s hg.1;have:=ih hs.1 (by rw[hs.2.1];omega);rw[hs.2.1,hs.2.2] at this;exact⟨this.1,this.2.1,by omega,this.2.2.2⟩
  .rename_i hg
   exact⟨h,hg,LA _,rfl⟩
theorem Yxr {b:Za} {s:Zb} (hb:b.sm) (hs:s.sm):pW b s=some (MU b s):=by
 unfold pW MU;rw[Yg4 b hb,Ag,dO hb,Ag];by_cases h:okB b=true
 .have hP:=(sE hb).1 h
  have hN:=hP.now;rw[h,Ai (by simp),Ah rfl,Yq9 s hs.Al,Ag];have hJ:∀c:Za,CV c->b.now<=c.now->bJ b s c=some (c,c.now - b.now):=by
   intro c hc hn;have:=hc.now;unfold bJ;rw[Yg4 _ hc.sm,Ag,Xb (by omega) (by omega)]
  have key:∀(f m:Nat) (c:Za),CV c->b.now<=c.now->f=(4000 - c.now).toNat->f < m->RC b s m c (MT s)=some (Ed s f c,(Ed s f c).now - b.now):=by
   intro f
   induction f with
   | zero=>
    intro m c hc hn hf hm;obtain⟨m,rfl⟩:∃k,m=k+1:=⟨m - 1,by omega⟩;have:=hc.now;show bK b s (RC b s m) c (MT s)=_;unfold bK;rw[Ai (by simp;omega),hJ c hc hn];rfl
   | succ f ih=>
    intro m c hc hn hf hm;obtain⟨m,rfl⟩:∃k,m=k+1:=⟨m - 1,by omega⟩;have hcn:=hc.now;have Fk:=rY hc s (by omega);have KL:RC b s m (Dr c s).1 (MT s)=some (Ed s f (Dr c s).1,(Ed s f (Dr c s).1).now - b.now):=ih m _ Fk.1 (by rw[Fk.2.1];omega) (by rw[Fk.2.1];omega) (by omega);show bK b s (RC b s m) c (MT s)=_;unfold bK Ed;have Z6:c.now < 4000:=by omega
    rw[Ah (by simpa using Z6),Yf5 hc.sm.ml,Ag];by_cases hq:FR c=true
    .rw[Ai (by simp[hq])]
     by_cases hl:c.now<=MT s
     .rw[Ah (by simpa using hl),Ydf hc hs Z6,Ag,Ah (show Lx s c from⟨Z6,.inr hl⟩)]
      exact KL
     .rw[Ai (by simpa using hl),Ai (show ¬Lx s c fromλhx=>hx.2.elim (λh1=>by rw[hq] at h1;exact absurd h1 (by decide)) hl),hJ c hc hn]
    .rw[Ah (by simpa using hq),Ydf hc hs Z6,Ag,Ah (show Lx s c from⟨Z6,.inl (by simpa using hq)⟩)]
     exact KL
  exact key _ FU b hP (LA _) rfl (by have:=Y5;omega)
 .simp[h]
theorem Yzj {b:Za} {s:Zb} (hb:b.sm) (hs:s.sm):l5 b s=some (MU b s):=by
 unfold l5 MU;rw[sB b hb,Ag,Y1u hb,Ag];by_cases h:okB b=true
 .have hP:=(sE hb).1 h
  have hN:=hP.now;rw[h,Ai (by simp),Ah rfl];have key:∀(f m:Nat) (c:Za),CV c->b.now<=c.now->f=(4000 - c.now).toNat->f < m->Rj b s m c (c.now - b.now)=some (Ed s f c,(Ed s f c).now - b.now):=by
   intro f
   induction f with
   | zero=>
    intro m c hc hn hf hm;obtain⟨m,rfl⟩:∃k,m=k+1:=⟨m - 1,by omega⟩;have:=hc.now;show ZH b s (Rj b s m) c _=_;unfold ZH Ty;rw[Ai (by simp;omega),Ai (by simp)];rfl
   | succ f ih=>
    intro m c hc hn hf hm;obtain⟨m,rfl⟩:∃k,m=k+1:=⟨m - 1,by omega⟩;have hcn:=hc.now;have Fk:=rY hc s (by omega);have KL:Rj b s m (Dr c s).1 ((Dr c s).1.now - b.now)=some (Ed s f (Dr c s).1,(Ed s f (Dr c s).1).now - b.now):=ih m _ Fk.1 (by rw[Fk.2.1];omega) (by rw[Fk.2.1];omega) (by omega);have e1:Zo (c.now - b.now) 1=(Dr c s).1.now - b.now:=by rw[Fk.2.1,Yl (by omega) (by omega)];omega
    show ZH b s (Rj b s m) c _=_;unfold ZH Ty Ed;have Z6:c.now < 4000:=by omega
    rw[Ah (by simpa using Z6),Yvc hc.sm.ml,Ag];by_cases hq:FR c=true
    .rw[Ai (by simp[hq]),Yq8 s hs.Al,Ag]
     by_cases hl:c.now<=MT s
     .rw[Ah (by simpa using hl),Ydo hc hs Z6,Ag,Ah (show Lx s c from⟨Z6,.inr hl⟩),e1]
      exact KL
     .rw[Ai (by simpa using hl),Ai (show ¬Lx s c fromλhx=>hx.2.elim (λh1=>by rw[hq] at h1;exact absurd h1 (by decide)) hl)]
    .rw[Ah (by simpa using hq),Ah rfl,Ydo hc hs Z6,Ag,Ah (show Lx s c from⟨Z6,.inl (by simpa using hq)⟩),e1]
     exact KL
  have:=key _ FU b hP (LA _) rfl (by have:=Y5;omega)
  rwa [Int.sub_self] at this
 .simp[h]
theorem Yun {b:Za} {s:Zb} (hb:b.sm) (hs:s.sm):lT b s=some (Yvv b s):=by
 unfold lT Yvv;rw[Y1u hb,Ag];unfold lS;by_cases h:okB b=true
 .have hP:=(sE hb).1 h
  rw[h,Ai (by simp)];by_cases hn:b.now=4000
  .rw[Ah (by simp[hn]),Ai (by simp[hn]),sB b hb]
   rfl
  .have:=hP.now
   rw[Ai (by simpa using hn),Ah ⟨rfl,hn⟩,Ydo hP hs (by omega)];rfl
 .have h2:okB b=false:=by simpa using h
  simp[h2,sB b hb]
def FT (x:Int):ByteArray:=if x=0 then Zd [111,107,97,121] else if x=1 then Zd [101,114,114,111,114] else if x=2 then Zd [114,101,116,114,121] else if x=3 then Zd [115,112,108,105,116] else ByteArray.empty
theorem dQ (x:Int):(FT x).size<=5:=by
 unfold FT
 repeat' split
 all_goals first|decide|(rw[Z5];simp)
theorem Ya7 (x:Int):Mz x=some (FT x):=by
 by_cases h0:x < 0
 .unfold Mz Z1 FT
  rw[Ai (by simp;omega),Ai (by omega),Ai (by omega),Ai (by omega),Ai (by omega)];rfl
 .by_cases h3:3 < x
  .unfold Mz Z1 FT
   rw[Ah (by simp;omega),Ag,Ah (by simp;omega),Ai (by omega),Ai (by omega),Ai (by omega),Ai (by omega)]
  .have:x=0\/x=1\/x=2\/x=3:=by omega
   rcases this with rfl|rfl|rfl|rfl<;>rfl
theorem Yar (x:Int):TM x=some (FT x):=by
 have hl:Xd (([Zd [111,107,97,121],Zd [101,114,114,111,114],Zd [114,101,116,114,121],Zd [115,112,108,105,116]]:List ByteArray).length:Int) 1=3:=by rfl
 by_cases h0:x < 0
 .unfold TM RB Ym FT
  rw[Ai (by simp;omega),Ai (by omega),Ai (by omega),Ai (by omega),Ai (by omega)];rfl
 .by_cases h3:3 < x
  .unfold TM RB Ym FT
   rw[hl,Ah (by simp;omega),Ag,Ah (by simp;omega),Ai (by omega),Ai (by omega),Ai (by omega),Ai (by omega)];rfl
  .have:x=0\/x=1\/x=2\/x=3:=by omega
   rcases this with rfl|rfl|rfl|rfl<;>rfl
def Zt.B7 (d:Zt):Prop:=B3 d.A4/\B3 d.Aj/\B3 d.addr/\B3 d.value
def Gr (d:Zt):List UInt8:=Lib.itoa d.A4++[32]++Lib.itoa d.Aj++[32]++(if d.write=true then [119,114,105,116,101] else [114,101,97,100])++[32]++Lib.itoa d.addr++[32]++Lib.itoa d.value++[32]++L8 (FT d.Ar)
theorem sG {d:Zt} (h:d.B7):(Gr d).length<=100:=by
 have h1:=K5 h.1;have h2:=K5 h.2.1;have h3:=K5 h.2.2.1;have h4:=K5 h.2.2.2;have h5:=dQ d.Ar;rw[Z9] at h5;unfold Gr;simp only[Cw,AV,Bq];split<;>simp<;>omega
theorem Yq4 {d:Zt} (h:d.B7):mA d=some ⟨(Gr d).toArray⟩:=by
 have h1:=Xo h.1;have h2:=Xo h.2.1;have h3:=Xo h.2.2.1;have h4:=Xo h.2.2.2;have h5:=dQ d.Ar;have key:∀v0:ByteArray,v0.size<=6->∃r,ZJ d v0=some r/\L8 r=Lib.itoa d.A4++[32]++Lib.itoa d.Aj++[32]++L8 v0++Lib.itoa d.addr++[32]++Lib.itoa d.value++[32]++L8 (FT d.Ar):=λv0 hv=>by
  unfold ZJ;rw[Qk h.1,Qk h.2.1,Qk h.2.2.1,Qk h.2.2.2,Ya7];simp (disch:=(simp only[Y3,Z5,AV,Bq];omega)) only[Wr,Ag];refine⟨_,rfl,?_⟩;simp only[Wd,Z4,Yw]
 unfold mA;cases hw:d.write with
 | true=>
  rw[Ah rfl];obtain⟨r,e,hr⟩:=key (Zd [119,114,105,116,101,32]) (by rw[Z5];simp);rw[e];refine congrArg some (K3 ?_);rw[hr,Z4];refine Gx ?_ (Wh (Gr d)).symm;unfold Gr;rw[Ah hw];simp
 | false=>
  rw[Ai (by simp)];obtain⟨r,e,hr⟩:=key (Zd [114,101,97,100,32]) (by rw[Z5];simp);rw[e];refine congrArg some (K3 ?_);rw[hr,Z4];refine Gx ?_ (Wh (Gr d)).symm;unfold Gr;rw[Ai (by rw[hw];simp)];simp
theorem Yq6 {d:Zt} (h:d.B7):pY d=some ⟨(Gr d).toArray⟩:=by
 have hl:=sG h;have ej:Lib.join ([Zz d.A4,Zz d.Aj,(if d.write=true then Zd [119,114,105,116,101] else Zd [114,101,97,100]),Zz d.addr,Zz d.value,FT d.Ar].map L8) (L8 (Zd [32]))=Gr d:=by
  unfold Gr;simp only[C7,GX,Lib.join,List.intercalate,List.intersperse,DS,UN,Z4,Yw];cases d.write<;>simp[Z4]
 have hw:R0 d.write=some (if d.write=true then Zd [119,114,105,116,101] else Zd [114,101,97,100]):=by
  unfold R0;cases d.write<;>rfl
 unfold pY;rw[Ho h.1,Ho h.2.1,Ho h.2.2.1,Ho h.2.2.2,Yar,hw];simp only[Ag];rw[MH (by simp) (by rw[ej];omega),Ag,ej]
def JE (x:Int):ByteArray:=if x=0 then Zd [105,100,108,101] else if x=2 then Zd [102,105,114,115,116] else if x=3 then Zd [110,101,120,116] else ByteArray.empty
theorem Z8j (x:Int):(JE x).size<=5:=by
 unfold JE
 repeat' split
 all_goals first|decide|(rw[Z5];simp)
theorem Yrx (x:Int):lU x=some (JE x):=by
 unfold lU JE;by_cases h0:x=0
 .rw[Ah (by simpa using h0),Ah h0]
 .rw[Ai (by simpa using h0),Ai h0]
  by_cases h2:x=2
  .rw[Ah (by simpa using h2),Ah h2]
  .rw[Ai (by simpa using h2),Ai h2]
   by_cases h3:x=3
   .rw[Ah (by simpa using h3),Ah h3]
   .rw[Ai (by simpa using h3),Ai h3]
theorem Yru (x:Int):bB x=some (JE x):=by
 have hl:Xd (([Zd [105,100,108,101],ByteArray.empty,Zd [102,105,114,115,116],Zd [110,101,120,116]]:List ByteArray).length:Int) 1=3:=by rfl
 by_cases h0:x < 0
 .unfold bB RB Ym JE
  rw[Ai (by simp;omega),Ai (by omega),Ai (by omega),Ai (by omega)];rfl
 .by_cases h3:3 < x
  .unfold bB RB Ym JE
   rw[hl,Ah (by simp;omega),Ag,Ah (by simp;omega),Ai (by omega),Ai (by omega),Ai (by omega)];rfl
  .have:x=0\/x=1\/x=2\/x=3:=by omega
   rcases this with rfl|rfl|rfl|rfl<;>rfl
def DQ (x:Int):ByteArray:=if x < 0 then Zd [45] else Zz x
theorem Ja {x:Int} (h:B3 x):(DQ x).size<=20:=by
 unfold DQ;split
 .rw[Z5];simp
 .exact Xo h
theorem U0 {x:Int} (h:B3 x):M3 x=some (DQ x):=by
 unfold M3 DQ;by_cases h0:x < 0
 .rw[Ah (by simpa using h0),Ah h0]
 .rw[Ai (by simpa using h0),Ai h0,Qk h];rfl
theorem U4 {x:Int} (h:B3 x):M6 x=some (DQ x):=by
 unfold M6 DQ;by_cases h0:x < 0
 .rw[Ah (by simpa using h0),Ah h0]
 .rw[Ai (by simpa using h0),Ai h0,Ho h];rfl
structure Zq.B7 (w:Zq):Prop where
 A4:B3 w.A4
 Aj:B3 w.Aj
 addr:B3 w.addr
 from_:B3 w.from_
 Aa:B3 w.Aa
 C0:B3 w.C0
def Sr (b:Bool):List UInt8:=if b=true then [114,101,97,100,121] else [119,97,105,116]
def Hu (w:Zq):List UInt8:=Lib.itoa w.A4++[32]++L8 (JE w.kind)++[32]++L8 (DQ w.Aj)++[58]++L8 (DQ w.addr)++[32]++L8 (DQ w.from_)++[58]++L8 (DQ w.Aa)++[32]++Sr w.ready++[32]++L8 (FT w.Ar)++[32]++L8 (DQ w.C0)
theorem Yrk {w:Zq} (h:w.B7):lV w=some ⟨(Hu w).toArray⟩:=by
 have h1:=Xo h.A4;have h2:=Ja h.Aj;have h3:=Ja h.addr;have h4:=Ja h.from_;have h5:=Ja h.Aa;have h6:=Ja h.C0;have h7:=dQ w.Ar;have h8:=Z8j w.kind;have key:∀(v0:ByteArray) (X:List UInt8),v0.size<=1000->L8 v0++L8 (FT w.Ar)++[32]++L8 (DQ w.C0)=X->ZG w v0=some ⟨X.toArray⟩:=λv0 X hv hX=>by
  unfold ZG;rw[U0 h.C0,Ya7];simp (disch:=(first|omega|(simp only[Y3,Z5,AV,Bq];omega))) only[Wr,Ag];refine congrArg some (K3 ?_);rw[<-hX];simp only[Wd,Z4];rfl
 unfold lV;rw[Qk h.A4,U0 h.Aj,U0 h.addr,U0 h.from_,U0 h.Aa,Yrx];simp (disch:=(first|omega|(simp only[Y3,Z5,AV,Bq];omega))) only[Wr,Ag];cases hw:w.ready with
 | true=>
  rw[Ah rfl];refine key _ _ (by simp only[Y3,Z5,AV,Bq];omega) ?_;unfold Hu Sr;rw[Ah hw];simp only[Wd,Z4,Yw,List.append_assoc,HU,L3]
 | false=>
  rw[Ai (by simp)];refine key _ _ (by simp only[Y3,Z5,AV,Bq];omega) ?_;unfold Hu Sr;rw[Ai (by rw[hw];simp)];simp only[Wd,Z4,Yw,List.append_assoc,HU,L3]
theorem Yq1 {w:Zq} (h:w.B7):pI w=some ⟨(Hu w).toArray⟩:=by
 have h1:=Xo h.A4;have h2:=Ja h.Aj;have h3:=Ja h.addr;have h4:=Ja h.from_;have h5:=Ja h.Aa;have h6:=Ja h.C0;have h7:=dQ w.Ar;have h8:=Z8j w.kind;have key:∀v0:ByteArray,L8 v0=Sr w.ready->bC w v0=some ⟨(Hu w).toArray⟩:=λv0 hv=>by
  have hv5:v0.size<=5:=by rw[Z9,hv];unfold Sr;split<;>simp
  have ej:Lib.join ([Zz w.A4,JE w.kind,DQ w.Aj++Zd [58]++DQ w.addr,DQ w.from_++Zd [58]++DQ w.Aa,v0,FT w.Ar,DQ w.C0].map L8) (L8 (Zd [32]))=Hu w:=by
   unfold Hu;simp only[C7,GX,Lib.join,List.intercalate,List.intersperse,DS,UN,Z4,Yw,Wd,hv];simp
  have hl:(Hu w).length<=1000:=by
   rw[<-ej];simp only[C7,GX,Lib.join,List.intercalate,List.intersperse,DS,UN,Cw,<-Z9,Y3,Z5,Z4,AV,Bq];omega
  unfold bC;rw[Ho h.A4,U4 h.Aj,U4 h.addr,U4 h.from_,U4 h.Aa,U4 h.C0,Yru,Yar];simp (disch:=(simp only[Y3,Z5,AV,Bq];omega)) only[Wr,Ag];rw[MH (by simp) (by rw[ej];omega),Ag,ej]
 unfold pI;cases hw:w.ready with
 | true=>rw[Ah rfl];exact key _ (by rw[hw];rfl)
 | false=>rw[Ai (by simp)];exact key _ (by rw[hw];rfl)
theorem sH {l:List Int} (hl:l.length < 1048577) (h:∀x∈l,B3 x):Ld l=some (l.map Zz):=by
 unfold Ld;refine K7 (σ:=List ByteArray) (n:=l.length) (by omega) (λk=>(l.take k).map Zz) (B:=λκ st j=>mO l κ st j) (L:=λm st j=>mP l m st j) (λm s i=>rfl) (λk hk κ=>?_) λκ=>?_
 .unfold mO
  have h2:(l.take k).length<=k:=by rw[FX];omega
  rw[Ah (by simpa using hk),Zy hk,Ag,Ho (h _ (B6 hk)),Ag,Yp (by simp;omega) (by simp;omega),Ag,List.take_succ_eq_append_getElem hk,Gv];rfl
 .unfold mO
  rw[Ai (by simp),EY]
def Wl (l:List Int):List UInt8:=l.flatMap λx=>[32]++Lib.itoa x
theorem Ymy (l:List Int) (x:Int):Wl (l++[x])=Wl l++[32]++Lib.itoa x:=by
 unfold Wl;rw[tB];simp
theorem Ss:∀{l:List Int},(∀x∈l,B3 x)->(Wl l).length<=21*l.length:=by
 intro l
 induction l with
 | nil=>intro _;simp[Wl]
 | cons d l ih=>
  intro h;have h1:=K5 (h d BJ);have h2:=ih λx hx=>h x (Co _ hx);have e:Wl (d::l)=([32]++Lib.itoa d)++Wl l:=rfl;rw[e,Cw,Cw,AV];simp only[AV,Bq];omega
theorem Y7d (w:ByteArray) (l:List Int):Lib.join ((w::l.map Zz).map L8) [32]=L8 w++Wl l:=by
 rw[C7,Lib.join_cons]
 congr 1
 unfold Lib.joinTail Wl;rw[GY,GY,UO];rfl
theorem Yu9 (a:ByteArray) (ws:List ByteArray) (l:List Int):Lib.join (((a::ws)++l.map Zz).map L8) [32]=Lib.join ((a::ws).map L8) [32]++Wl l:=by
 rw[HU,C7,Lib.join_cons,C7,Lib.join_cons,List.append_assoc]
 congr 1
 unfold Lib.joinTail Wl;rw[Gv,Gv,List.flatten_append]
 congr 1
 rw[GY,GY,UO];rfl
def GR (w:List UInt8) (l:List Int):List UInt8:=if l=[] then [] else w++Wl l++[10]
theorem Ya5 {w:ByteArray} {l:List Int} (hw:w.size<=100) (hl:l.length < 1048577) (h:∀x∈l,B3 x):ZX w l=some ⟨(GR (L8 w) l).toArray⟩:=by
 unfold ZX GR;cases l with
 | nil=>rw[Ah (by simp),Ah rfl];rfl
 | cons x l=>
  rw[Ai (by simp;omega),Ai (by simp),sH hl h];have hn:=Ss h;have ej:Lib.join (((x::l).map Zz).map L8) (L8 (Zd [32]))=Lib.itoa x++Wl l:=by
   rw[Z4,C7,Y7d,Yw]
  have en:Wl (x::l)=[32]++(Lib.itoa x++Wl l):=by unfold Wl;simp
  rw[en] at hn ⊢;have hb:(Lib.itoa x++Wl l).length<=30000000:=by rw[Cw] at hn;simp only[AV,Bq] at hn hl;omega
  rw[Wr (by rw[Z5];simp;omega),Ag,Ag,MH (by simp only[JL];omega) (by rw[ej];omega),Ag,ej];have z:(⟨(Lib.itoa x++Wl l).toArray⟩:ByteArray).size=(Lib.itoa x++Wl l).length:=by rw[Z9,Wh]
  rw[Wr (by simp only[Y3,Z5,z,AV,Bq];omega),Ag,Wr (by simp only[Y3,Z5,z,AV,Bq];omega),Ag];refine congrArg some (K3 (Gx ?_ (Wh _).symm));rw[Wd,Wd,Wd,Z4,Z4,Wh (Lib.itoa x++Wl l)];simp
theorem Ycd {w:ByteArray} {l:List Int} (hw:w.size<=100) (hl:l.length < 1048577) (h:∀x∈l,B3 x):ZO w l=some ⟨(GR (L8 w) l).toArray⟩:=by
 have hn:=Ss h;unfold ZO GR;cases hc:l with
 | nil=>rw[Ah (by simp),Ah rfl];rfl
 | cons x r=>
  rw[<-hc,Ai (by rw[hc];simp;omega),Ai (by rw[hc];simp)];clear hc;have e0:w++(⟨(Wl (l.take 0)).toArray⟩:ByteArray)=w:=K3 (by rw[Wd,Wh (Wl (l.take 0))];simp[Wl]);have hs:∀k,(⟨(Wl (l.take k)).toArray⟩:ByteArray).size<=30000000:=λk=>by
   have h1:=Ss (l:=l.take k) λx hx=>h x (FW hx);have h2:(l.take k).length<=l.length:=by rw[FX];omega
   rw[Z9,Wh];omega
  refine Gx (congrArg (λv=>ZN w l FU v 0) e0.symm) (K7 (σ:=ByteArray) (n:=l.length) (by omega) (λk=>w++(⟨(Wl (l.take k)).toArray⟩:ByteArray)) (B:=λκ st j=>mG w l κ st j) (L:=λm st j=>ZN w l m st j) (λm s i=>rfl) (λk hk κ=>?_) (λκ=>?_))
  .have h1:=hs k
   have h2:=Xo (h _ (B6 hk));unfold mG;rw[Ah (by simpa using hk),Wr (by simp only[Y3,Z5,AV,Bq];omega),Ag,Zy hk,Ag,Qk (h _ (B6 hk)),Ag,Wr (by simp only[Y3,Z5,AV,Bq];omega),Ag]
   congr 1
   refine K3 ?_;rw[Wd,Wd,Wd,Wd,Z4,Wh (Wl (l.take k)),Wh (Wl (l.take (k+1))),List.take_succ_eq_append_getElem hk,Ymy,Yw];simp
  .have h1:=hs l.length
   unfold mG;rw[Ai (by simp),Wr (by simp only[Y3,Z5,AV,Bq];omega),Ag];refine congrArg some (K3 (Gx ?_ (Wh _).symm));rw[Wd,Wd,Z4,Wh (Wl (l.take l.length)),EY]
def EO (s:Int):ByteArray:=if s=0 then Zd [98,121,116,101] else if s=1 then Zd [104,97,108,102] else Zd [119,111,114,100]
def EP (b:Int):ByteArray:=if b=0 then Zd [111,110,101] else if b=1 then Zd [102,111,117,114] else if b=2 then Zd [119,114,97,112] else Zd [101,105,103,104,116]
theorem Z97 (x:Int):(EO x).size<=5:=by
 unfold EO
 repeat' split
 all_goals (rw[Z5];simp)
theorem Z5x (x:Int):(EP x).size<=5:=by
 unfold EP
 repeat' split
 all_goals (rw[Z5];simp)
theorem sI {r:Zk} (h:Qn r=true):idx [Zd [98,121,116,101],Zd [104,97,108,102],Zd [119,111,114,100]] r.size=some (EO r.size)/\idx [Zd [111,110,101],Zd [102,111,117,114],Zd [119,114,97,112],Zd [101,105,103,104,116]] r.Az=some (EP r.Az):=by
 have hb:=(IW h).1;have hl:=O5 hb;have h2:r.Az=0\/r.Az=1\/r.Az=2\/r.Az=3:=by
  have:=hl.2;unfold Xv at this
  repeat' split at this
  all_goals omega
 have h1:r.size=0\/r.size=1\/r.size=2:=by
  have Yh:Ki r.addr r.size r.Az≠[]:=λe=>by rw[e] at hl;simp at hl;omega
  have hn:(Xv r.Az).toNat≠0:=by omega
  obtain⟨n,SI⟩:=Nat.exists_eq_succ_of_ne_zero hn;have hx:¬FO r.addr r.size r.Az < 0:=λe=>Yh (by
   unfold Ki;rw[SI];unfold E7;rw[Ah e];rfl)
  have ha:X4 r.addr r.size=true:=by
   unfold FO at hx;by_cases hc:(X4 r.addr r.size=true/\r.addr < 512)/\Xv r.Az≠0
   .exact hc.1.1
   .rw[Ai hc] at hx;omega
  have:=(Jm ha).1;unfold Y1 at this
  repeat' split at this
  all_goals omega
 constructor
 .rcases h1 with e|e|e<;>rw[e]<;>rfl
 .rcases h2 with e|e|e|e<;>rw[e]<;>rfl
def Ly (b:Bool):List UInt8:=if b=true then [32,108,111,99,107] else []
def Ee (b:Bool):List UInt8:=if b=true then [119,114,105,116,101] else [114,101,97,100]
def K0 (r:Zk):List UInt8:=Ee r.write++[32]++L8 (EO r.size)++[32]++L8 (EP r.Az)++[32]++Lib.itoa r.addr++Ly r.lock++Wl r.Aa
def Zk.B7 (r:Zk):Prop:=B3 r.addr/\∀x∈r.Aa,B3 x
theorem U5 {r:Zk} (h:Qn r=true):r.Aa.length<=8:=by
 have h1:=(IW h).2.1;have h2:=O4 r.Az;split at h1<;>omega
theorem Z70 {r:Zk} (hd:r.Aa.length<=8) (hn:∀x∈r.Aa,B3 x) {v0:ByteArray} (hv:v0.size<=1000):T2 r FU v0 0=some ⟨(L8 v0++Wl r.Aa).toArray⟩:=by
 have e0:v0++(⟨(Wl (r.Aa.take 0)).toArray⟩:ByteArray)=v0:=K3 (by rw[Wd,Wh (Wl (r.Aa.take 0))];simp[Wl]);have hs:∀k,(⟨(Wl (r.Aa.take k)).toArray⟩:ByteArray).size<=300:=λk=>by
  have h1:=Ss (l:=r.Aa.take k) λx hx=>hn x (FW hx);have h2:(r.Aa.take k).length<=r.Aa.length:=by rw[FX];omega
  rw[Z9,Wh];omega
 refine Gx (congrArg (λv=>T2 r FU v 0) e0.symm) (K7 (σ:=ByteArray) (n:=r.Aa.length) (by omega) (λk=>v0++(⟨(Wl (r.Aa.take k)).toArray⟩:ByteArray)) (B:=λκ st j=>mE r κ st j) (L:=λm st j=>T2 r m st j) (λm s i=>rfl) (λk hk κ=>?_) (λκ=>?_))
 .have h1:=hs k
  have h2:=Xo (hn _ (B6 hk));unfold mE;rw[Ah (by simpa using hk),Wr (by simp only[Y3,Z5,AV,Bq];omega),Ag,Zy hk,Ag,Qk (hn _ (B6 hk)),Ag,Wr (by simp only[Y3,Z5,AV,Bq];omega),Ag]
  congr 1
  refine K3 ?_;rw[Wd,Wd,Wd,Wd,Z4,Wh (Wl (r.Aa.take k)),Wh (Wl (r.Aa.take (k+1))),List.take_succ_eq_append_getElem hk,Ymy,Yw];simp
 .unfold mE
  rw[Ai (by simp)];refine congrArg some (K3 (Gx ?_ (Wh _).symm));rw[Wd,Wh (Wl (r.Aa.take r.Aa.length)),EY]
theorem Ybo {r:Zk} (hs:r.sm) (hn:r.B7):T3 r=some (if Qn r=true then ⟨(K0 r).toArray⟩ else ByteArray.empty):=by
 unfold T3;rw[Z8u r hs,Ag];by_cases h:Qn r=true
 .rw[Ai (by simp[h]),Ah h]
  have z1:=Z97 r.size;have z2:=Z5x r.Az;have z3:=Xo hn.1;have hd:=U5 h;have key:∀(v0:ByteArray),v0.size<=5->L8 v0=Ee r.write->Zip r v0=some ⟨(K0 r).toArray⟩:=λv0 hv hw=>by
   unfold Zip;rw[(sI h).1,(sI h).2,Qk hn.1];simp (disch:=(first|omega|(simp only[Y3,Z5,AV,Bq];omega))) only[Wr,Ag];unfold mF;cases hk:r.lock with
   | true=>
    rw[Ah rfl,Z70 hd hn.2 (by simp only[Y3,Z5,AV,Bq];omega)];refine congrArg some (K3 (Gx (Wh _) (Gx ?_ (Wh _).symm)));unfold K0 Ly;rw[hk,Ah rfl];simp only[Wd,Z4,Yw,hw]
   | false=>
    rw[Ai (by simp),Z70 hd hn.2 (by simp only[Y3,Z5,AV,Bq];omega)];refine congrArg some (K3 (Gx (Wh _) (Gx ?_ (Wh _).symm)));unfold K0 Ly;rw[hk,Ai (by simp),Gu];simp only[Wd,Z4,Yw,hw]
  cases hw:r.write with
  | true=>rw[Ah rfl];exact key _ (by rw[Z5];simp) (by rw[hw];rfl)
  | false=>rw[Ai (by simp)];exact key _ (by rw[Z5];simp) (by rw[hw];rfl)
 .rw[Ah (by simp[h]),Ai h]
theorem Yde {r:Zk} (hs:r.sm) (hn:r.B7):TA r=some (if Qn r=true then ⟨(K0 r).toArray⟩ else ByteArray.empty):=by
 unfold TA;rw[rH r hs,Ag];by_cases h:Qn r=true
 .rw[Ai (by simp[h]),Ah h]
  have z1:=Z97 r.size;have z2:=Z5x r.Az;have z3:=K5 hn.1;have hd:=U5 h;have z4:=Ss hn.2;rw[Z9] at z1 z2;have hw:R0 r.write=some (Zd (Ee r.write)):=by
   unfold R0 Ee;cases r.write<;>rfl
  have zw:(Ee r.write).length<=5:=by unfold Ee;split<;>simp
  rw[hw,Ag];unfold T8 T9;rw[Ag,(sI h).1,Ag,Ag,(sI h).2,Ag,Ho hn.1,Ag,sH (by omega) hn.2];cases hk:r.lock with
  | true=>
   have ej:Lib.join (([Zd (Ee r.write),EO r.size,EP r.Az,Zz r.addr,Zd [108,111,99,107]]++r.Aa.map Zz).map L8) (L8 (Zd [32]))=K0 r:=by
    rw[Z4,Yu9];unfold K0 Ly;rw[hk,Ah rfl]
    congr 1
    simp only[C7,GX,Lib.join,List.intercalate,List.intersperse,DS,UN,Z4,Yw];simp
   have hl:(K0 r).length<=1000:=by
    unfold K0 Ly;rw[hk,Ah rfl];simp only[Cw,AV,Bq];omega
   rw[Ah rfl,Yp (by simp) (by simp),Ag,Ag,Yp (by simp;omega) (by simp;omega),Ag];show (Qf ([Zd (Ee r.write),EO r.size,EP r.Az,Zz r.addr,Zd [108,111,99,107]]++r.Aa.map Zz) (Zd [32])).bind _=_;rw[MH (by simp;omega) (by rw[ej];omega),ej];rfl
  | false=>
   have ej:Lib.join (([Zd (Ee r.write),EO r.size,EP r.Az,Zz r.addr]++r.Aa.map Zz).map L8) (L8 (Zd [32]))=K0 r:=by
    rw[Z4,Yu9];unfold K0 Ly;rw[hk,Ai (by simp),Gu]
    congr 1
    simp only[C7,GX,Lib.join,List.intercalate,List.intersperse,DS,UN,Z4,Yw];simp
   have hl:(K0 r).length<=1000:=by
    unfold K0 Ly;rw[hk,Ai (by simp)];simp only[Cw,AV,Bq];omega
   rw[Ai (by simp),Ag,Yp (by simp;omega) (by simp;omega),Ag,MH (by simp;omega) (by rw[ej];omega),ej];rfl
 .rw[Ah (by simp[h]),Ai h]
theorem Ka (a b:ByteArray):(a.toList == b.toList)=decide (L8 a=L8 b):=by
 rw[Lib.toList_data,Lib.toList_data];by_cases h:L8 a=L8 b
 .rw[decide_eq_true h];exact beq_iff_eq.2 h
 .rw[decide_eq_false h];exact beq_eq_false_iff_ne.2 h
def F9 (p:Zl):List UInt8:=[112,111,115,116,32]++Lib.itoa p.at_++[32]++Lib.itoa p.Aj++[32]++K0 p.Bo++[10]
def Zl.B7 (p:Zl):Prop:=B3 p.at_/\B3 p.Aj/\p.Bo.B7
theorem Y0y (r:Zk):K0 r≠[]:=by
 unfold K0 Ee;split<;>simp
theorem sJ {r:Zk} (h:Qn r=true) (hn:r.B7):(K0 r).length<=300:=by
 have z1:=Z97 r.size;have z2:=Z5x r.Az;have z3:=K5 hn.1;have hd:=U5 h;have z4:=Ss hn.2;rw[Z9] at z1 z2;have zw:(Ee r.write).length<=5:=by unfold Ee;split<;>simp
 have zl:(Ly r.lock).length<=5:=by unfold Ly;split<;>simp
 unfold K0;simp only[Cw,AV,Bq];omega
theorem Yst {r:Zk}:((⟨(K0 r).toArray⟩:ByteArray).toList == ByteArray.empty.toList)=false:=by
 rw[Ka,Wh,FM];simp[Y0y]
theorem Ypv:(ByteArray.empty.toList == ByteArray.empty.toList)=true:=by rw[Ka];simp
def Hv (v0:ByteArray) (ps:List Zl):ByteArray:=if ps.all (λp=>Qn p.Bo)=true then ⟨(L8 v0++ps.flatMap F9).toArray⟩ else ByteArray.empty
theorem Ypo (v0:ByteArray):Hv v0 []=v0:=by
 unfold Hv;rw[Ah (by simp)];exact K3 (by rw[Wh (L8 v0++([]:List Zl).flatMap F9)];simp)
theorem Yqm {p:Zl} {ps:List Zl} (h:¬Qn p.Bo=true) (v0:ByteArray):Hv v0 (p::ps)=ByteArray.empty:=by
 unfold Hv;rw[Ai (by simp[h])]
theorem Yki {p:Zl} {ps:List Zl} (h:Qn p.Bo=true) {v0 v1:ByteArray} (hv:L8 v1=L8 v0++F9 p):Hv v0 (p::ps)=Hv v1 ps:=by
 unfold Hv;rw[hv,DT,h,GV,FE,List.append_assoc]
theorem Yfx {s:Zb} (hp:s.Al.length < 1048600) (Yg:∀p∈s.Al,p.B7/\p.Bo.sm):∀(m k:Nat) (v0:ByteArray),k<=s.Al.length->s.Al.length - k < m->v0.size<=100000000+1000*k->
  ZP s m v0 (k:Int)=some (Hv v0 (s.Al.drop k)):=by
 intro m
 induction m with
 | zero=>intro k v0 _ h;omega
 | succ m ih=>
  intro k v0 hk hm hv;show y4 s (ZP s m) v0 (k:Int)=_;unfold y4;by_cases hc:k < s.Al.length
  .obtain⟨⟨n1,n2,n3⟩,n4⟩:=Yg _ (B6 hc)
   have z1:=Xo n1;have z2:=Xo n2;rw[Ah (by simpa using hc),Zy hc,Ag,Ybo n4 n3,Ag,D5 hc];by_cases hr:Qn s.Al[k].Bo=true
   .have z3:=sJ hr n3
    have z4:(⟨(K0 s.Al[k].Bo).toArray⟩:ByteArray).size<=300:=by rw[Z9,Wh];exact z3
    rw[Ah hr,Ai (by rw[Yst];simp),Qk n1,Qk n2];simp (disch:=(first|omega|(simp only[Y3,Z5,AV,Bq];omega))) only[Wr,Ag];rw[Yf (by omega),ih (k+1) _ (by omega) (by omega) (by simp only[Y3,Z5,AV,Bq];omega)];refine congrArg some (Yki hr ?_).symm;simp only[Wd,Z4,Yw,Wh (K0 s.Al[k].Bo)];unfold F9;simp
   .rw[Ai hr,Ah (by rw[Ypv]),Yqm hr]
  .rw[Ai (by simpa using hc),EX (by omega),Ypo]
theorem Yfv {s:Zb} (hp:s.Al.length < 1048600) (Yg:∀p∈s.Al,p.B7/\p.Bo.sm):∀(m k:Nat) (v0:ByteArray),k<=s.Al.length->s.Al.length - k < m->v0.size<=100000000+1000*k->
  ZY s m v0 (k:Int)=some (Hv v0 (s.Al.drop k)):=by
 intro m
 induction m with
 | zero=>intro k v0 _ h;omega
 | succ m ih=>
  intro k v0 hk hm hv;show zA s (ZY s m) v0 (k:Int)=_;unfold zA;by_cases hc:k < s.Al.length
  .obtain⟨⟨n1,n2,n3⟩,n4⟩:=Yg _ (B6 hc)
   have z1:=Xo n1;have z2:=Xo n2;rw[Ah (by simpa using hc),Zy hc,Ag,Yde n4 n3,Ag,D5 hc];by_cases hr:Qn s.Al[k].Bo=true
   .have z3:=sJ hr n3
    have z4:(⟨(K0 s.Al[k].Bo).toArray⟩:ByteArray).size<=300:=by rw[Z9,Wh];exact z3
    rw[Ah hr,Ai (by rw[Yst];simp),Ho n1,Ho n2];simp (disch:=(first|omega|(simp only[Y3,Z5,AV,Bq];omega))) only[Wr,Ag];rw[Yf (by omega),ih (k+1) _ (by omega) (by omega) (by simp only[Y3,Z5,AV,Bq];omega)];refine congrArg some (Yki hr ?_).symm;simp only[Wd,Z4,Yw,Wh (K0 s.Al[k].Bo)];unfold F9;simp
   .rw[Ai hr,Ah (by rw[Ypv]),Yqm hr]
  .rw[Ai (by simpa using hc),EX (by omega),Ypo]
structure MV (s:Zb):Prop where
 FA:s.Al.length < 1048600
 waits:s.waits.length < 1048577
 A3:s.A3.length < 1048577
 Al:∀p∈s.Al,p.B7/\p.Bo.sm
 wn:∀x∈s.waits,B3 x
 sn:∀x∈s.A3,B3 x
def JF (s:Zb):ByteArray:=⟨(GR [119,97,105,116,115] s.waits).toArray⟩++⟨(GR [115,97,121,115] s.A3).toArray⟩
theorem Ytc {w:List UInt8} (hw:w.length<=10) {l:List Int} (hl:l.length < 1048577) (h:∀x∈l,B3 x):(GR w l).length<=30000000:=by
 have:=Ss h;unfold GR;split
 .simp
 .simp only[Cw,AV,Bq];omega
theorem Yho {s:Zb} (h:MV s):(⟨(GR [119,97,105,116,115] s.waits).toArray⟩:ByteArray).size<=30000000/\(⟨(GR [115,97,121,115] s.A3).toArray⟩:ByteArray).size<=30000000:=by
 rw[Z9,Z9,Wh,Wh];exact⟨Ytc (by simp) h.waits h.wn,Ytc (by simp) h.A3 h.sn⟩
theorem Z41 {s:Zb} (h:MV s):mH s=some (Hv (JF s) s.Al):=by
 have ⟨z1,z2⟩:=Yho h;unfold mH;rw[Ycd (by rw[Z5];simp) h.waits h.wn,Ag,Ycd (by rw[Z5];simp) h.A3 h.sn,Ag,Z4,Z4,Wr (by omega),Ag];have:=Yfx h.FA h.Al FU 0 (JF s) (Cd _) (by have:=Y5;have:=h.FA;omega) (by unfold JF;rw[Y3];omega);exact this
theorem Z45 {s:Zb} (h:MV s):mZ s=some (Hv (JF s) s.Al):=by
 have ⟨z1,z2⟩:=Yho h;unfold mZ;rw[Ya5 (by rw[Z5];simp) h.waits h.wn,Ag,Ya5 (by rw[Z5];simp) h.A3 h.sn,Ag,Z4,Z4,Wr (by omega),Ag];have:=Yfv h.FA h.Al FU 0 (JF s) (Cd _) (by have:=Y5;have:=h.FA;omega) (by unfold JF;rw[Y3];omega);exact this
def Xa (c:UInt8):List UInt8->List (List UInt8)
 | []=>[[]]
 | x::l=>if x=c then []::Xa c l else match Xa c l with
  | []=>[[x]]
  | w::r=>(x::w)::r
theorem dR (c:UInt8) (l:List UInt8):Xa c l≠[]:=by
 cases l with
 | nil=>simp[Xa]
 | cons x l=>
  unfold Xa;split
  .simp
  .split<;>simp
theorem U6 {c:UInt8}:∀{w:List UInt8},(∀x∈w,x≠c)->∀l,Xa c (w++c::l)=w::Xa c l:=by
 intro w
 induction w with
 | nil=>intro _ l;simp[Xa]
 | cons x w ih=>
  intro h l;rw[HU,Xa,Ai (h x BJ),ih (λy hy=>h y (Co _ hy)) l]
theorem dS {c:UInt8}:∀{w:List UInt8},(∀x∈w,x≠c)->Xa c w=[w]:=by
 intro w
 induction w with
 | nil=>intro _;rfl
 | cons x w ih=>
  intro h;rw[Xa,Ai (h x BJ),ih (λy hy=>h y (Co _ hy))]
theorem sK {c:UInt8}:∀{ws:List (List UInt8)},ws≠[]->(∀w∈ws,∀x∈w,x≠c)->Xa c (Lib.join ws [c])=ws:=by
 intro ws
 induction ws with
 | nil=>intro h;exact absurd rfl h
 | cons w r ih=>
  intro _ h;have hw:=h w BJ;cases r with
  | nil=>rw[Lib.join_one,dS hw]
  | cons v r=>
   have e:Lib.join (w::v::r) [c]=w++c::Lib.join (v::r) [c]:=by
    rw[Lib.join_cons,Lib.join_cons];simp[Lib.joinTail]
   rw[e,U6 hw,ih (by simp) λu hu=>h u (Co _ hu)]
theorem Ypt (c:UInt8):∀l:List UInt8,(Xa c l).length<=l.length+1:=by
 intro l
 induction l with
 | nil=>simp[Xa]
 | cons x l ih=>
  unfold Xa;split
  .simp;omega
  .split
   .simp
   .rename_i w r h
    rw[h] at ih;simp at ih ⊢;omega
theorem Yjz {c:UInt8}:∀{l w:List UInt8},w∈Xa c l->w.length<=l.length:=by
 intro l
 induction l with
 | nil=>intro w h;simp[Xa] at h;simp[h]
 | cons x l ih=>
  intro w h;unfold Xa at h;split at h
  .rcases Cj.1 h with rfl|h
   .simp
   .have:=ih h;simp;omega
  .split at h
   .rename_i hs;exact absurd hs (dR c l)
   .rename_i v r hs
    rcases Cj.1 h with rfl|h
    .have:=ih (w:=v) (by rw[hs];exact BJ);simp;omega
    .have:=ih (w:=w) (by rw[hs];exact Co _ h);simp;omega
theorem Y11 (c:UInt8):∀s:List UInt8,Lib.splitK [c] 0 (s.count c) s=Xa c s:=by
 intro s
 induction s with
 | nil=>rfl
 | cons b l ih=>
  by_cases hb:b=c
  .subst hb
   rw[List.count_cons_self,Lib.splitK];have hi:Lib.index (b::l) [b]=0:=by
    unfold Lib.index;rw[Ah (by simp[List.isPrefixOf])]
   rw[hi,Ai (by decide),Xa,Ah rfl];show _::Lib.splitK [b] 0 (l.count b) l=_;rw[ih];rfl
  .have hc:(b::l).count c=l.count c:=List.count_cons_of_ne hb
   have hi:Lib.index (b::l) [c]=if (Lib.index l [c] == -1)=true then -1 else Lib.index l [c]+1:=by
    rw[Lib.index,Ai (by simp[List.isPrefixOf];exactλh=>hb h.symm)]
   rw[hc,Xa,Ai hb,<-ih];cases hk:l.count c with
   | zero=>rfl
   | succ k=>
    have Yh:¬(Lib.index l [c] == -1)=true:=λh=>by
     have h0:Lib.count l [c]=0:=Lib.count_miss (beq_iff_eq.1 h);rw[Lib.count_one] at h0;omega
    have hg:=Lib.index_ge l [c];have hne2:Lib.index l [c]≠-1:=λh=>Yh (beq_iff_eq.2 h);rw[Ai Yh] at hi;rw[Lib.splitK,Lib.splitK,hi,Ai Yh,Ai (by rw[beq_iff_eq];omega)];have e1:(Lib.index l [c]+1).toNat=(Lib.index l [c]).toNat+1:=by omega
    rw[e1];rfl
theorem JG {x:ByteArray} (c:UInt8) (h:x.size < 4294967281):∃ws,Kr x (Zd [c])=some ws/\ws.map L8=Xa c (L8 x):=by
 unfold Kr;rw[Ah ⟨h,by rw[Z5];simp⟩];refine⟨_,rfl,?_⟩;have:=Lib.splitB_data (Zd [c]) 0 (Lib.countB x (Zd [c])) x;have e:Lib.countB x (Zd [c])=(L8 x).count c:=Lib.count_one c (L8 x);rw[e] at this ⊢;exact this.trans (Y11 c (L8 x))
theorem JH {x:ByteArray} {k:Nat} (h:k < (L8 x).length):GG x (k:Int)=some ((L8 x)[k].toNat:Int):=by
 have h2:k < x.size:=by rw[Z9];exact h
 unfold GG;rw[Ah (by omega),Nh];have:x[k]?=some (L8 x)[k]:=by
  rw[getElem?_pos x k h2];rfl
 rw[this];rfl
theorem Su {x:ByteArray} {a b:Nat} (h1:a<=b) (h2:b<=(L8 x).length):∃y,Hk x (a:Int) (b:Int)=some y/\L8 y=((L8 x).drop a).take (b - a):=by
 unfold Hk;rw[Ah ⟨by omega,by omega,by rw[Z9,Nh];exact h2⟩];exact⟨_,rfl,Lib.extract_data x _ _⟩
theorem Hw {x:ByteArray} (c:UInt8) (h:x.size < 4294967281):∃ws,Wt x (c.toNat:Int)=some ws/\ws.map L8=Xa c (L8 x):=by
 rw[Z9] at h;have key:∀(m i a:Nat) (out:List ByteArray),i<=(L8 x).length->(L8 x).length - i < m->a<=i->out.length<=a->(∀y∈((L8 x).drop a).take (i - a),y≠c)->
   ∃ws,XV x (c.toNat:Int) m out (a:Int) (i:Int)=some ws/\ws.map L8=out.map L8++Xa c ((L8 x).drop a):=by
  intro m
  induction m with
  | zero=>intro i a out _ hm;omega
  | succ m ih=>
   intro i a out hi hm ha ho hn;show ∃ws,yJ x (c.toNat:Int) (XV x (c.toNat:Int) m) out (a:Int) (i:Int)=some ws/\_;unfold yJ;by_cases hc:i < (L8 x).length
   .rw[Ah (by rw[Z9];simpa using hc),JH hc,Ag]
    have Xan:(L8 x).drop a=((L8 x).drop a).take (i - a)++(L8 x)[i]::(L8 x).drop (i+1):=by
     have e:=(eT (i - a) ((L8 x).drop a)).symm;rw[List.drop_drop,show a+(i - a)=i by omega,D5 hc] at e;exact e
    by_cases hx:(L8 x)[i]=c
    .obtain⟨y,Cy,DJ⟩:=Su (x:=x) ha hi
     rw[Ah (by rw[hx];simp),Cy,Ag,Yp (by simp;omega) (by simp;omega),Ag,Yf (by omega)];obtain⟨ws,h1,h2⟩:=ih (i+1) (i+1) (out++[y]) (by omega) (by omega) (by omega) (by simp;omega) (by simp);refine⟨ws,h1,?_⟩;rw[hx] at Xan;rw[h2,Xan,U6 hn,Gv,List.append_assoc,C7,GX,DJ];rfl
    .rw[Ai (by
      rw[Bj];intro he;exact hx (UInt8.toNat_inj.1 (by omega))),Yf (by omega)]
     refine ih (i+1) a out (by omega) (by omega) (by omega) ho λy hy=>?_;rw[show i+1 - a=(i - a)+1 by omega,List.take_add_one] at hy;rcases BT.1 hy with hy|hy
     .exact hn y hy
     .rw[D7,show a+(i - a)=i by omega,CB hc] at hy
      simp at hy;rw[hy];exact hx
   .have hil:i=(L8 x).length:=by omega
    obtain⟨y,Cy,DJ⟩:=Su (x:=x) (a:=a) (b:=(L8 x).length) (by omega) (B4 _);rw[Ai (by rw[Z9];simpa using hc),show ((x.size:Nat):Int)=((L8 x).length:Int) by rw[Z9],Cy,Ag,Yp (by simp;omega) (by simp;omega),Ag];refine⟨_,rfl,?_⟩;have ht:((L8 x).drop a).take ((L8 x).length - a)=(L8 x).drop a:=by rw[D6 (by simp)]
    rw[hil,ht] at hn;rw[Gv,C7,GX,DJ,ht,dS hn]
 obtain⟨ws,h1,h2⟩:=key FU 0 0 [] (Cd _) (by have:=Y5;omega) (B4 _) (B4 _) (by simp);exact⟨ws,h1,by simpa using h2⟩
def Qq (c:UInt8):Prop:=48<=c.toNat/\c.toNat<=57
instance (c:UInt8):Decidable (Qq c):=inferInstanceAs (Decidable (_/\_))
theorem MW {d:Nat} (h:d < 10):(UInt8.ofNat (48+d)).toNat=48+d:=by
 rw[UInt8.toNat_ofNat'];omega
theorem Ys3:∀(k u:Nat),u < 10^(k+1)->∀c∈Lib.decDigits u,Qq c:=by
 intro k
 induction k with
 | zero=>
  intro u hu c hc;rw[Lib.decDigits,dif_pos (by omega)] at hc;rw[List.mem_singleton] at hc;subst hc;have:=MW (d:=u) (by omega);unfold Qq;omega
 | succ k ih=>
  intro u hu c hc;rw[Lib.decDigits] at hc;split at hc
  .rw[List.mem_singleton] at hc;subst hc
   have:=MW (d:=u) (by omega);unfold Qq;omega
  .rcases BT.1 hc with hc|hc
   .exact ih (u / 10) (by rw[SD] at hu;omega) c hc
   .rw[List.mem_singleton] at hc;subst hc
    have:=MW (d:=u % 10) (by omega);unfold Qq;omega
theorem Ys2 (u:Nat):u < 10^(u+1):=by
 have h1:u < 2^u:=Nat.lt_two_pow_self;have h2:2^u<=10^u:=Nat.pow_le_pow_left (by omega) u;have h3:10^u<=10^(u+1):=UI (by omega) (by omega);omega
theorem Lz {u:Nat} {c:UInt8} (h:c∈Lib.decDigits u):Qq c:=Ys3 u u (Ys2 u) c h
theorem Yek (u:Nat):Lib.decDigits u≠[]:=by
 rw[Lib.decDigits];split<;>simp
theorem Y0p {v:Int} {c:UInt8} (h:c∈Lib.itoa v):c=45\/Qq c:=by
 unfold Lib.itoa at h;split at h
 .rcases Cj.1 h with h|h
  .exact .inl h
  .exact .inr (Lz h)
 .exact .inr (Lz h)
theorem JI {v:Int} {c b:UInt8} (h:c∈Lib.itoa v) (hb:b.toNat=32\/b.toNat=58\/b.toNat=10):c≠b:=by
 rintro rfl;rcases Y0p h with rfl|h
 .rcases hb with hb|hb|hb<;>cases hb
 .unfold Qq at h;omega
theorem Yni (v:Int):Lib.itoa v≠[]:=by
 unfold Lib.itoa;split
 .simp
 .exact Yek _
theorem Yty {v:Int}:∃c l,Lib.itoa v=c::l:=by
 cases h:Lib.itoa v with
 | nil=>exact absurd h (Yni v)
 | cons c l=>exact⟨c,l,rfl⟩
def Em (a:Nat) (c:UInt8):Nat:=if Qq c then a*10+(c.toNat - 48) else a
theorem Yz5:∀(k u:Nat),u < 10^(k+1)->(Lib.decDigits u).foldl Em 0=u:=by
 intro k
 induction k with
 | zero=>
  intro u hu;have e:=MW (d:=u) (by omega);rw[Lib.decDigits,dif_pos (by omega)];simp only[H2,fE,Em];rw[Ah (by unfold Qq;omega)];omega
 | succ k ih=>
  intro u hu;rw[Lib.decDigits];split
  .have e:=MW (d:=u) (by omega)
   simp only[H2,fE,Em];rw[Ah (by unfold Qq;omega)];omega
  .have e:=MW (d:=u % 10) (by omega)
   rw[SB,ih (u / 10) (by rw[SD] at hu;omega)];simp only[H2,fE,Em];rw[Ah (by unfold Qq;omega)];omega
theorem dT (u:Nat):(Lib.decDigits u).foldl Em 0=u:=Yz5 u u (Ys2 u)
theorem sL (v:Int):(Lib.itoa v).foldl Em 0=v.natAbs:=by
 unfold Lib.itoa;split
 .rw[H2]
  show (Lib.decDigits v.natAbs).foldl Em (if Qq 45 then _ else 0)=_;rw[Ai (by unfold Qq;decide),dT]
 .rw[dT];omega
theorem Y5f:∀(l1 l2:List UInt8) (a:Nat),Lib.parseUint10 a (l1++l2)=match Lib.parseUint10 a l1 with|.ok u=>Lib.parseUint10 u l2|Lib.NumEnd.syntax=>Lib.NumEnd.syntax|.range=>.range:=by
 intro l1
 induction l1 with
 | nil=>intro l2 a;rfl
 | cons c r ih=>
  intro l2 a;simp only[HU,Lib.parseUint10];split
  .split
   .rfl
   .split
    .rfl
    .exact ih l2 _
  .rfl
theorem Ytu:∀(k u:Nat),u < 10^(k+1)->u < 18446744073709551616->Lib.parseUint10 0 (Lib.decDigits u)=.ok u:=by
 intro k
 induction k with
 | zero=>
  intro u hu hb;have e:=MW (d:=u) (by omega);rw[Lib.decDigits,dif_pos (by omega)];simp only[Lib.parseUint10];rw[Ah (by omega),Ai (by omega),Ai (by omega)]
  congr 1;omega
 | succ k ih=>
  intro u hu hb;rw[Lib.decDigits];split
  .have e:=MW (d:=u) (by omega)
   simp only[Lib.parseUint10];rw[Ah (by omega),Ai (by omega),Ai (by omega)]
   congr 1;omega
  .have e:=MW (d:=u % 10) (by omega)
   rw[Y5f,ih (u / 10) (by rw[SD] at hu;omega) (by omega)];simp only[Lib.parseUint10];rw[Ah (by omega),Ai (by omega),Ai (by omega)]
   congr 1;omega
theorem Y44 {v:Int} (h:B3 v):Lib.atoiAll (Lib.itoa v)=.ok v:=by
 obtain⟨h1,h2⟩:=h;have hp:∀u:Nat,u < 18446744073709551616->Lib.parseMag (Lib.decDigits u)=.ok u:=λu hu=>by
  unfold Lib.parseMag;rw[Ai (Yek u),Ytu u u (Ys2 u) hu]
 unfold Lib.itoa;split
 .rename_i hn
  rw[Lib.atoiAll_minus,hp _ (by omega)];unfold Lib.signed;simp only;rw[Ai (by omega)]
  congr 1;omega
 .rename_i hn
  obtain⟨c,l,hl⟩:∃c l,Lib.decDigits v.toNat=c::l:=by
   cases h:Lib.decDigits v.toNat with
   | nil=>exact absurd h (Yek _)
   | cons c l=>exact⟨c,l,rfl⟩
  have hd:Qq c:=Lz (u:=v.toNat) (by rw[hl];exact BJ);unfold Qq at hd;rw[hl,Lib.atoiAll_plain c l (by omega) (by omega),<-hl,hp _ (by omega)];unfold Lib.signless;simp only;rw[Ai (by omega)]
  congr 1;omega
theorem U7 {k u:Nat} (h:u < 10^(k+1)):(Lib.decDigits u).length<=k+1:=Z1x k u h
theorem Ym1 {v d:Int} (h:-1000000000000000000 < v/\v < 1000000000000000000) (hd:18<=d):La (Zz v) d=some (v,true):=by
 have hr:B3 v:=⟨by omega,by omega⟩;have hz:=Xo hr;unfold La;have e:(Zz v).data.toList=Lib.itoa v:=rfl;rw[Ah (by omega),e,Y44 hr];simp only;rw[Ah];refine⟨trivial,?_⟩;unfold Lib.trimPrefix;by_cases hn:v < 0
 .have e2:Lib.itoa v=45::Lib.decDigits v.natAbs:=by unfold Lib.itoa;rw[Ah hn]
  have:=U7 (k:=17) (u:=v.natAbs) (by omega);rw[e2,Ah (by simp[Lib.hasPrefix,List.isPrefixOf])];simp;omega
 .have e2:Lib.itoa v=Lib.decDigits v.toNat:=by unfold Lib.itoa;rw[Ai hn]
  have:=U7 (k:=17) (u:=v.toNat) (by omega);rw[e2];split
  .simp;omega
  .omega
theorem Yd3 {x:ByteArray} {d:Int} (h:x.size<=281474976710656):∃r,La x d=some r/\(r.2=true->L8 x=Lib.itoa r.1/\B3 r.1):=by
 unfold La;rw[Ah h]
 match hq:Lib.atoiAll x.data.toList with
 | .ok v=>
  simp only;by_cases hc:Lib.itoa v=x.data.toList/\((Lib.trimPrefix x.data.toList [45]).length:Int)<=d
  .rw[Ah hc]
   refine⟨_,rfl,λ_=>⟨hc.1.symm,?_⟩⟩;unfold Lib.atoiAll at hq;split at hq
   .cases hq
   .simp only at hq
    split at hq
    .cases hq
    .cases hq
    .split at hq
     .cases hq
     .rename_i h1
      split at hq
      .cases hq
      .rename_i h2
       injection hq with hq;split at hq
       .rename_i h3
        have:=eY λhh=>h2 ⟨h3,hh⟩;exact⟨by show _<=v;omega,by show v<=_;omega⟩
       .rename_i h3
        have:=tH λhh=>h1 ⟨h3,hh⟩;exact⟨by show _<=v;omega,by show v<=_;omega⟩
  .rw[Ai hc];exact⟨_,rfl,λh=>by cases h⟩
 | Lib.NumEnd.syntax=>exact⟨_,rfl,λh=>by cases h⟩
 | .range=>exact⟨_,rfl,λh=>by cases h⟩
theorem Y73 (a:Int):B3 (IntKind.i64.wrap a):=by
 unfold B3;simp[IntKind.wrap,IntKind.bits,IntKind.signed];constructor<;>omega
theorem Yvg:∀(l:List UInt8) (a k:Nat),a < 10^k->l.foldl Em a < 10^(k+l.length):=by
 intro l
 induction l with
 | nil=>intro a k h;exact h
 | cons c l ih=>
  intro a k h;rw[H2,AV,show k+(l.length+1)=(k+1)+l.length by omega];refine ih _ _ ?_;unfold Em;rw[SD];split
  .rename_i hd;unfold Qq at hd;omega
  .omega
def ER (l:List UInt8):Nat:=l.foldl Em 0
def EB (l:List UInt8):Nat:=l.countP λc=>decide (Qq c)
theorem Y81 (l:List UInt8) (c:UInt8):ER (l++[c])=Em (ER l) c:=by unfold ER;rw[SB];rfl
theorem Y8o (l:List UInt8) (c:UInt8):EB (l++[c])=EB l+if Qq c then 1 else 0:=by
 unfold EB;rw[List.countP_append,fB,List.countP_nil];simp
theorem dgW {c:UInt8} (h:Qq c):NQ (yC (c.toNat:Int) 48)=((c.toNat - 48:Nat):Int):=by
 unfold Qq at h;simp[NQ,yC,IntKind.wrap,IntKind.bits,IntKind.signed];omega
theorem Ybv (x:ByteArray):Jr x=(if 0 < (L8 x).length then (GG x 0).bind λa=>Wj x (ER ((L8 x).take 11)) (EB ((L8 x).take 11)) (decide (a=45)) else Wj x (ER ((L8 x).take 11)) (EB ((L8 x).take 11)) false):=by
 unfold Jr;have Ww:=Z9 x;have fin:∀(κ:Int->Int->Int->Option (Int×Bool)) (n k:Int) (i:Int),Tz x κ n k i false=(if 0 < (L8 x).length then (GG x 0).bind λa=>Wj x n k (decide (a=45)) else Wj x n k false):=λκ n k i=>by
  unfold Tz;rw[Ai (by simp),Ww];by_cases h0:0 < (L8 x).length
  .rw[Ah (by simpa using h0),Ah h0]
  .rw[Ai (by simpa using h0),Ai h0]
 have hT:((L8 x).take 11).length=min 11 (L8 x).length:=FX;have:=K7 (σ:=Int×Int) (n:=((L8 x).take 11).length) (by omega) (λk=>((ER (((L8 x).take 11).take k):Int),(EB (((L8 x).take 11).take k):Int))) (B:=λκ st j=>mC x (λa b c=>κ (a,b) c) st.1 st.2 j) (L:=λm st j=>mD x m st.1 st.2 j) (λm s i=>rfl) (λk hk κ=>?_) (r:=(if 0 < (L8 x).length then (GG x 0).bind λa=>Wj x (ER ((L8 x).take 11)) (EB ((L8 x).take 11)) (decide (a=45)) else Wj x (ER ((L8 x).take 11)) (EB ((L8 x).take 11)) false)) λκ=>?_
 .simpa [ER,EB] using this
 .have Uy:k < (L8 x).length:=by omega
  have GM:k < 11:=by omega
  have hg:((L8 x).take 11)[k]=(L8 x)[k]:=by simp
  have e:=List.take_succ_eq_append_getElem (l:=(L8 x).take 11) hk;have hb:=Yvg (((L8 x).take 11).take k) 0 0 (by simp);have Ew:10^(0+(((L8 x).take 11).take k).length)<=10^11:=UI (by omega) (by simp;omega);have Nx:ER (((L8 x).take 11).take k) < 10^11:=GU hb Ew;have uQ:EB (((L8 x).take 11).take k)<=11:=by
   unfold EB;have:=Vef (p:=λc=>decide (Qq c)) (l:=((L8 x).take 11).take k);simp at this;omega
  unfold mC;rw[Ah (by rw[Ww];simpa using Uy)];unfold Tz;simp only;rw[Ah (by simp;omega),JH Uy,Ag,e,Y81,Y8o,hg];have step:∀b:Bool,(b=true↔Qq (L8 x)[k])->ZK x (λa b c=>κ (a,b) c) (ER (((L8 x).take 11).take k)) (EB (((L8 x).take 11).take k)) k b=κ (((Em (ER (((L8 x).take 11).take k)) (L8 x)[k]:Nat):Int),((EB (((L8 x).take 11).take k)+if Qq (L8 x)[k] then 1 else 0:Nat):Int)) (Zo k 1):=λb hb=>by
   unfold ZK Em;by_cases hd:Qq (L8 x)[k]
   .rw[Ah (hb.2 hd),Ah hd,Ah hd,JH Uy,Ag,dgW hd,EN (by omega) (by omega),Yl (a:=_*10) (by unfold Qq at hd;omega) (by unfold Qq at hd;omega),Yf (by omega)]
    rfl
   .rw[Ai (λh=>hd (hb.1 h)),Ai hd,Ai hd];rfl
  by_cases h48:48<=(L8 x)[k].toNat
  .rw[Ah (decide_eq_true (by omega))]
   exact step _ (by unfold Qq;simp;omega)
  .rw[Ai (by rw[Bj];omega)]
   exact step _ (by unfold Qq;simp;omega)
 .unfold mC
  rw[EY];simp only;by_cases hc:((L8 x).take 11).length < (L8 x).length
  .rw[Ah (by rw[Ww];simpa using hc),show decide (((((L8 x).take 11).length:Nat):Int) < 11)=false by simp;omega,fin]
  .rw[Ai (by rw[Ww];simpa using hc),fin]
theorem Sv (l:List UInt8):ER (l.take 11) < 10^11:=by
 have hb:=Yvg (l.take 11) 0 0 (by simp);exact GU hb (UI (by omega) (by simp;omega))
theorem OG (x:ByteArray):∃r,Jr x=some r:=by
 have RZ:=Sv (L8 x);have j5:∀(v k:Int),B3 v->∃r,Rk x v k=some r:=λv k hv=>by
  unfold Rk;rw[Qk hv,Ag];split
  .exact⟨_,rfl⟩
  .split
   .exact⟨_,rfl⟩
   .split<;>exact⟨_,rfl⟩
 have j4:∀b,∃r,Wj x (ER ((L8 x).take 11)) (EB ((L8 x).take 11)) b=some r:=λb=>by
  unfold Wj;split
  .exact j5 _ _ (Y73 _)
  .exact j5 _ _ ⟨by omega,by omega⟩
 rw[Ybv];split
 .rename_i h0
  rw[show (0:Int)=((0:Nat):Int) from rfl,JH h0,Ag];exact j4 _
 .exact j4 _
theorem Yke {l:List UInt8} (h:∀c∈l,Qq c):EB l=l.length:=by
 unfold EB;rw[List.countP_eq_length];intro c hc;exact decide_eq_true (h c hc)
theorem Y45 (x:ByteArray):(x.toList == x.toList)=true:=beq_self_eq_true _
theorem MX {v:Int} (h:-1000000000 < v/\v < 1000000000):Jr (Zz v)=some (v,true):=by
 have hr:B3 v:=⟨by omega,by omega⟩;have key:∀k:Int,k<=9->(Zz v).size<=10->Rk (Zz v) v k=some (v,true):=λk hk hz=>by
  unfold Rk;rw[Ai (by rw[Bj];omega),Ai (by rw[Bj];omega),Qk hr,Ag,Ai (by rw[Y45];simp)]
 have ha:=sL v;rw[Ybv,Yw];by_cases hn:v < 0
 .have e2:Lib.itoa v=45::Lib.decDigits v.natAbs:=by unfold Lib.itoa;rw[Ah hn]
  have hl:=U7 (k:=8) (u:=v.natAbs) (by omega);have ht:(Lib.itoa v).take 11=Lib.itoa v:=D6 (by rw[e2];simp;omega);have hk:EB (Lib.itoa v)=(Lib.decDigits v.natAbs).length:=by
   rw[e2];unfold EB;rw[fB,Ai (by decide)];exact Yke λc hc=>Lz hc
  rw[Ah (by rw[e2];simp),ht,show (0:Int)=((0:Nat):Int) from rfl,JH (by rw[Yw,e2];simp),Ag];have h45:(L8 (Zz v))[0]'(by rw[Yw,e2];simp)=45:=by simp[Yw,e2]
  rw[h45];show Wj (Zz v) _ _ true=_;unfold Wj;rw[Ah rfl,show ((ER (Lib.itoa v):Nat):Int)=-v by unfold ER;rw[ha];omega,hk];have:Tf (-v)=v:=by simp[Tf,IntKind.wrap,IntKind.bits,IntKind.signed];omega
  rw[this];exact key _ (by omega) (by rw[Z9,Yw,e2];simp;omega)
 .have e2:Lib.itoa v=Lib.decDigits v.toNat:=by unfold Lib.itoa;rw[Ai hn]
  have hl:=U7 (k:=8) (u:=v.toNat) (by omega);have ht:(Lib.itoa v).take 11=Lib.itoa v:=D6 (by rw[e2];omega);have Yh:=Yni v;have Mf:0 < (Lib.itoa v).length:=Cv.2 Yh;have hk:EB (Lib.itoa v)=(Lib.decDigits v.toNat).length:=by
   rw[e2];exact Yke λc hc=>Lz hc
  rw[Ah Mf,ht,show (0:Int)=((0:Nat):Int) from rfl,JH (by rw[Yw];exact Mf),Ag];have hd:Qq ((L8 (Zz v))[0]'(by rw[Yw];exact Mf)):=by
   refine Lz (u:=v.toNat) ?_;rw[<-e2];exact B6 Mf
  rw[show decide ((((L8 (Zz v))[0]'(by rw[Yw];exact Mf)).toNat:Int)=45)=false by unfold Qq at hd;simp;omega];unfold Wj;rw[Ai (by simp),show ((ER (Lib.itoa v):Nat):Int)=v by unfold ER;rw[ha];omega,hk];exact key _ (by omega) (by rw[Z9,Yw,e2];omega)
theorem Yaq {ws:List ByteArray} (hl:ws.length < 1048600) (hz:∀w∈ws,w.size<=281474976710656):∃r,Lb ws=some r/\(r.2=true->r.1.length=ws.length/\∀v∈r.1,B3 v):=by
 have key:∀(m k:Nat) (out:List Int),k<=ws.length->ws.length - k < m->out.length=k->(∀v∈out,B3 v)->∃r,Oj ws m out (k:Int)=some r/\(r.2=true->r.1.length=ws.length/\∀v∈r.1,B3 v):=by
  intro m
  induction m with
  | zero=>intro k out _ h;omega
  | succ m ih=>
   intro k out hk hm ho hv;show ∃r,Oi ws (Oj ws m) out (k:Int)=some r/\_;unfold Oi;by_cases hc:k < ws.length
   .obtain⟨r,h1,h2⟩:=Yd3 (d:=18) (hz _ (B6 hc))
    rw[Ah (by simpa using hc),Zy hc,Ag,h1,Ag];by_cases hr:r.2=true
    .rw[Ai (by simp[hr]),Yp (by simp;omega) (by simp;omega),Ag,Yf (by omega)]
     refine ih (k+1) _ (by omega) (by omega) (by simp;omega) λv D4=>?_;rcases BT.1 D4 with D4|D4
     .exact hv v D4
     .rw[List.mem_singleton.1 D4];exact (h2 hr).2
    .rw[Ah (by simp[hr])]
     exact⟨_,rfl,λh=>by cases h⟩
   .rw[Ai (by simpa using hc)]
    exact⟨_,rfl,λ_=>⟨by show out.length=_;omega,hv⟩⟩
 exact key FU 0 [] (Cd _) (by have:=Y5;omega) rfl (by simp)
theorem U8 {l:List Int} (hl:l.length < 1048600) (h:∀v∈l,-1000000000000000000 < v/\v < 1000000000000000000):Lb (l.map Zz)=some (l,true):=by
 unfold Lb;refine K7 (σ:=List Int) (n:=l.length) (by omega) (λk=>l.take k) (B:=λκ st j=>Oi (l.map Zz) κ st j) (L:=λm st j=>Oj (l.map Zz) m st j) (λm s i=>rfl) (λk hk κ=>?_) λκ=>?_
 .unfold Oi
  rw[Ah (by simpa using hk),Zy (by simpa using hk),Ag,fC,Ym1 (h _ (B6 hk)) (by omega),Ag,Ai (by simp),Yp (by simp;omega) (by simp;omega),Ag,List.take_succ_eq_append_getElem hk]
 .unfold Oi
  rw[Ai (by simp),EY]
theorem Yo7 {ws:List ByteArray} {l:List Int} (h:ws.map L8=l.map Lib.itoa):ws=l.map Zz:=by
 induction ws generalizing l with
 | nil=>cases l with
  | nil=>rfl
  | cons a l=>simp at h
 | cons w ws ih=>cases l with
  | nil=>simp at h
  | cons a l=>
   simp only[C7,UP] at h ⊢;exact⟨K3 h.1,ih h.2⟩
def mW (m:Ze):List UInt8:=if m.prio=true then Lib.itoa m.weight++[58]++Lib.itoa m.every++[58]++Lib.itoa m.cap else Lib.itoa m.weight
def U9 (c:Zh):List UInt8:=Lib.itoa c.Av++[32]++Lib.itoa c.As++[32]++Lib.itoa c.An++[32]++Lib.itoa c.Ap++[32]++Lib.itoa c.Am
def DR (c:Zh):List UInt8:=U9 c++c.Ab.flatMap λm=>[32]++mW m
def Ks (c:Zh):List Int:=[c.Av,c.As,c.An,c.Ap,c.Am]
def ES (c:Zh):List (List UInt8):=(Ks c).map Lib.itoa++c.Ab.map mW
theorem Z9h (c:Zh):DR c=Lib.join (ES c) [32]:=by
 unfold DR ES U9 Ks;simp only[C7,GX,HU,L3];rw[Lib.join_cons];unfold Lib.joinTail;simp only[C7,DS,List.append_assoc,GY,UO];rfl
structure dU (c:Zh):Prop where
 q:1<=c.Av/\c.Av<=4
 w:0<=c.As/\c.As<=3
 r:0<=c.An/\c.An<=3
 s:1<=c.Ap/\c.Ap<=12
 k:1<=c.Am/\c.Am<=40
 n:1<=c.Ab.length/\c.Ab.length<=4
 m:∀m∈c.Ab,(1<=m.weight/\m.weight<=4)/\(-1<=m.every/\m.every<=1000)/\(0<=m.cap/\m.cap<=8)/\(m.prio=false->m.every=0/\m.cap=0)
theorem dV {c:Zh} (h:Yr c=true):dU c:=by
 have h0:=h;simp only[Yr,Bg,Bj,Cb] at h;obtain⟨⟨⟨⟨h1,h2⟩,h3⟩,h4⟩,h5⟩:=h;have hk:F0 c≠0/\1<=c.Am/\c.Am<=40:=by
  unfold Ji at h4;split at h4
  .exact absurd rfl h4
  .split at h4
   .rename_i a b;exact⟨a,b⟩
   .exact absurd rfl h4
 have hc:(0<=c.An/\c.An<=3)/\(0<=c.As/\c.As<=3):=by
  have:=hk.1;unfold F0 at this;split at this
  .assumption
  .exact absurd rfl this
 refine⟨h2,hc.2,hc.1,h3,hk.2,by omega,λm hm=>?_⟩;have JY:=h5 m hm;have he:=MJ JY;refine⟨Z5z h0 hm,⟨he.1,he.2.1⟩,he.2.2,λhp=>?_⟩;simp only[Q0,Bg,Bj,hp] at JY;simpa using JY.2
theorem Y1s {m:Ze} (h1:B3 m.weight) (h2:B3 m.every) (h3:B3 m.cap):(mW m).length<=62:=by
 have:=K5 h1;have:=K5 h2;have:=K5 h3;unfold mW;split<;>simp<;>omega
theorem Ya6 {c:Zh} (hl:c.Ab.length < 1048577):Tj c=some (if Yr c=true then ⟨(DR c).toArray⟩ else ByteArray.empty):=by
 unfold Tj;rw[RN c hl,Ag];by_cases h:Yr c=true
 .obtain⟨hq,hw,hr,hs,hk,hn,hm⟩:=dV h
  have iq:B3 c.Av:=⟨by omega,by omega⟩;have iw:B3 c.As:=⟨by omega,by omega⟩;have ir:B3 c.An:=⟨by omega,by omega⟩;have sM:B3 c.Ap:=⟨by omega,by omega⟩;have ik:B3 c.Am:=⟨by omega,by omega⟩;have z1:=Xo iq;have z2:=Xo iw;have z3:=Xo ir;have z4:=Xo sM;have z5:=Xo ik;rw[Ai (by simp[h]),Ah h];simp only[Qk iq,Qk iw,Qk ir,Qk sM,Qk ik,Ag];simp (disch:=(first|omega|(simp only[Y3,Z5,AV,Bq];omega))) only[Wr,Ag];have key:∀(m k:Nat) (v0:ByteArray),k<=c.Ab.length->c.Ab.length - k < m->v0.size<=200+70*k->XZ c m v0 (k:Int)=some ⟨(L8 v0++(c.Ab.drop k).flatMap λm=>[32]++mW m).toArray⟩:=by
   intro m
   induction m with
   | zero=>intro k v0 _ h;omega
   | succ m ih=>
    intro k v0 hk D9 hv;show yO c (XZ c m) v0 (k:Int)=_;unfold yO;by_cases hc:k < c.Ab.length
    .obtain⟨⟨m1,m2⟩,⟨m3,m4⟩,⟨m5,m6⟩,_⟩:=hm _ (B6 hc)
     have i1:B3 c.Ab[k].weight:=⟨by omega,by omega⟩;have i2:B3 c.Ab[k].every:=⟨by omega,by omega⟩;have i3:B3 c.Ab[k].cap:=⟨by omega,by omega⟩;have y1:=Xo i1;have y2:=Xo i2;have y3:=Xo i3;rw[Ah (by simpa using hc),Zy hc,Ag,Qk i1,Qk i2,Qk i3,D5 hc,FE];simp (disch:=(first|omega|(simp only[Y3,Z5,AV,Bq];omega))) only[Wr,Ag];rw[Yf (by omega)];by_cases hp:c.Ab[k].prio=true
     .rw[Ah hp,ih (k+1) _ (by omega) (by omega) (by simp only[Y3,Z5,AV,Bq];omega)]
      simp only[Wd,Z4,Yw,mW,hp,if_true,List.append_assoc]
     .rw[Ai hp,ih (k+1) _ (by omega) (by omega) (by simp only[Y3,Z5,AV,Bq];omega)]
      simp only[Wd,Z4,Yw,mW,hp,if_false,List.append_assoc,Bn]
    .rw[Ai (by simpa using hc),EX (by omega)]
     exact congrArg some (K3 (by rw[Wh (L8 v0++([]:List Ze).flatMap _)];simp))
  rw[show (0:Int)=((0:Nat):Int) from rfl,key FU 0 _ (Cd _) (by have:=Y5;omega) (by simp only[Y3,Z5,AV,Bq];omega)];simp only[Wd,Z4,Yw,L4,DR,U9]
 .rw[Ah (by simp[h]),Ai h]
theorem Zzm {c:Zh} (hl:c.Ab.length < 1048577):Rv c=some (if Yr c=true then ⟨(DR c).toArray⟩ else ByteArray.empty):=by
 unfold Rv;rw[Uh c hl,Ag];by_cases h:Yr c=true
 .obtain⟨hq,hw,hr,hs,hk,hn,hm⟩:=dV h
  have iq:B3 c.Av:=⟨by omega,by omega⟩;have iw:B3 c.As:=⟨by omega,by omega⟩;have ir:B3 c.An:=⟨by omega,by omega⟩;have sM:B3 c.Ap:=⟨by omega,by omega⟩;have ik:B3 c.Am:=⟨by omega,by omega⟩;rw[Ai (by simp[h]),Ah h];have hi:∀x∈Ks c,B3 x:=by
   intro x hx;unfold Ks at hx;simp only[Cj,HV,or_false] at hx;rcases hx with rfl|rfl|rfl|rfl|rfl<;>assumption
  have e0:Ld [c.Av,c.As,c.An,c.Ap,c.Am]=some ((Ks c).map Zz):=sH (l:=Ks c) (by simp[Ks]) hi;rw[e0,Ag];have mi:∀m∈c.Ab,B3 m.weight/\B3 m.every/\B3 m.cap:=λm D9=>by
   obtain⟨⟨m1,m2⟩,⟨m3,m4⟩,⟨m5,m6⟩,_⟩:=hm m D9;exact⟨⟨by omega,by omega⟩,⟨by omega,by omega⟩,⟨by omega,by omega⟩⟩
  have hj:(Lib.join (ES c) [32]).length<=1000:=by
   rw[<-Z9h];unfold DR U9;have:=K5 iq;have:=K5 iw;have:=K5 ir;have:=K5 sM;have:=K5 ik;have hf:∀l:List Ze,(∀m∈l,m∈c.Ab)->(l.flatMap λm=>[32]++mW m).length<=63*l.length:=by
    intro l
    induction l with
    | nil=>intro _;simp
    | cons m l ih=>
     intro hh;have h1:=ih λx hx=>hh x (Co _ hx);obtain⟨a1,a2,a3⟩:=mi m (hh m BJ);have h2:=Y1s a1 a2 a3;rw[FE,Cw,AV];simp only[Cw,AV,Bq];omega
   have:=hf c.Ab λ_ h=>h;simp only[Cw,AV,Bq];omega
  refine K7 (σ:=List ByteArray) (n:=c.Ab.length) (by omega) (λk=>(Ks c).map Zz++(c.Ab.take k).map λm=>(⟨(mW m).toArray⟩:ByteArray)) (B:=λκ st j=>mQ c κ st j) (L:=λm st j=>mR c m st j) (λm s i=>rfl) (λk W2 κ=>?_) λκ=>?_
  .unfold mQ
   obtain⟨i1,i2,i3⟩:=mi _ (B6 W2);have h2:(c.Ab.take k).length<=k:=by rw[FX];omega
   have h5:(Ks c).length=5:=rfl;rw[Ah (by simpa using W2),Zy W2,Ag,Ho i1,Ag,List.take_succ_eq_append_getElem W2,Gv,<-List.append_assoc];by_cases hp:c.Ab[k].prio=true
   .have ed:Ld [c.Ab[k].weight,c.Ab[k].every,c.Ab[k].cap]=some ([c.Ab[k].weight,c.Ab[k].every,c.Ab[k].cap].map Zz):=sH (by simp) (by
     intro x hx;simp only[Cj,HV,or_false] at hx;rcases hx with rfl|rfl|rfl<;>assumption)
    have ej:Lib.join (([c.Ab[k].weight,c.Ab[k].every,c.Ab[k].cap].map Zz).map L8) (L8 (Zd [58]))=mW c.Ab[k]:=by
     unfold mW;rw[Ah hp];simp only[C7,GX,Yw,Z4];rw[Lib.join_cons];simp[Lib.joinTail]
    have hz:=Y1s i1 i2 i3;rw[Ah hp,ed,Ag,MH (by simp) (by rw[ej];omega),Ag,ej,Yp (by simp;omega) (by simp;omega),Ag];rfl
   .rw[Ai hp,Yp (by simp;omega) (by simp;omega),Ag]
    have:Zz c.Ab[k].weight=⟨(mW c.Ab[k]).toArray⟩:=K3 (by rw[Yw,Wh (mW _)];unfold mW;rw[Ai hp]);rw[this];rfl
  .unfold mQ
   have em:((Ks c).map Zz++(c.Ab.take c.Ab.length).map λm=>(⟨(mW m).toArray⟩:ByteArray)).map L8=ES c:=by
    rw[EY,Gv,GY,GY];rfl
   rw[Ai (by simp),MH (by simp[Ks];omega) (by rw[em,Z4];omega),Ag,em,Z4,<-Z9h]
 .rw[Ah (by simp[h]),Ai h]
def dW (x:ByteArray) (c:Zh):Prop:=Yr c=true/\L8 x=DR c
def HP (x:ByteArray) (r:Zh×Bool):Prop:=r=(Zh.z0,false)\/(r.2=true/\dW x r.1)
theorem Ysp (c:Zh):DR c≠[]:=by
 unfold DR U9;obtain⟨a,l,h⟩:=Yty (v:=c.Av);rw[h];simp
theorem Yl0 {x:ByteArray} {c:Zh} (h:L8 x=DR c):Xa 32 (L8 x)=ES c:=by
 rw[h,Z9h,sK (by simp[ES,Ks])];intro w hw y hy;unfold ES at hw;rcases BT.1 hw with hw|hw
 .obtain⟨v,_,rfl⟩:=Dx.1 hw
  exact JI hy (.inl rfl)
 .obtain⟨m,_,rfl⟩:=Dx.1 hw
  unfold mW at hy;split at hy
  .simp only[BT,List.mem_singleton] at hy
   rcases hy with (((hy|hy)|hy)|hy)|hy
   .exact JI hy (.inl rfl)
   .subst hy;decide
   .exact JI hy (.inl rfl)
   .subst hy;decide
   .exact JI hy (.inl rfl)
  .exact JI hy (.inl rfl)
def HQ (m:Ze):List Int:=if m.prio=true then [m.weight,m.every,m.cap] else [m.weight]
theorem Ytx (m:Ze):Xa 58 (mW m)=(HQ m).map Lib.itoa:=by
 have sN:∀v:Int,∀y∈Lib.itoa v,y≠58:=λv y hy=>JI hy (.inr (.inl rfl));unfold mW HQ;by_cases hp:m.prio=true
 .rw[Ah hp,Ah hp]
  have e:Lib.itoa m.weight++[58]++Lib.itoa m.every++[58]++Lib.itoa m.cap=Lib.itoa m.weight++58::(Lib.itoa m.every++58::Lib.itoa m.cap):=by simp
  rw[e,U6 (sN _),U6 (sN _),dS (sN _)];rfl
 .rw[Ai hp,Ai hp,dS (sN _)];rfl
theorem Z7a {x:ByteArray} {c:Zh} (hl:c.Ab.length < 1048577):∃r,((Tj c).bind λr4=>
  if (!(r4.toList == x.toList))=true then (some (Zh.z0,false)) else (if (x.toList == ByteArray.empty.toList)=true then (some (Zh.z0,false)) else (some (c,true))))=some r/\HP x r/\(dW x c->r=(c,true)):=by
 rw[Ya6 hl,Ag];by_cases h:Yr c=true
 .rw[Ah h,Lib.toList_data,Lib.toList_data,Lib.toList_data]
  by_cases he:DR c=L8 x
  .have e1:((⟨(DR c).toArray⟩:ByteArray).data.toList == x.data.toList)=true:=beq_iff_eq.2 he
   have e2:¬(x.data.toList == ByteArray.empty.data.toList)=true:=λhh=>Ysp c (by rw[he];exact beq_iff_eq.1 hh);rw[Ai (by simp[e1]),Ai e2];exact⟨_,rfl,.inr ⟨rfl,h,he.symm⟩,λ_=>rfl⟩
  .have e1:¬((⟨(DR c).toArray⟩:ByteArray).data.toList == x.data.toList)=true:=λhh=>he (beq_iff_eq.1 hh)
   rw[Ah (by simpa using e1)];exact⟨_,rfl,.inl rfl,λhh=>absurd hh.2.symm he⟩
 .rw[Ai h]
  split
  .exact⟨_,rfl,.inl rfl,λhh=>absurd hh.1 h⟩
  .rename_i h1
   have h2:(ByteArray.empty.toList == x.toList)=true:=by simpa using h1
   rw[Ah (by rw[beq_iff_eq] at h2 ⊢;exact h2.symm)];exact⟨_,rfl,.inl rfl,λhh=>absurd hh.1 h⟩
theorem Jf {x w:ByteArray} {c:UInt8} {ws:List ByteArray} (h:ws.map L8=Xa c (L8 x)) (hw:w∈ws):w.size<=x.size:=by
 rw[Z9,Z9];refine Yjz (c:=c) ?_;rw[<-h];exact List.mem_map_of_mem hw
theorem HR {x:ByteArray} {c:UInt8} {ws:List ByteArray} (h:ws.map L8=Xa c (L8 x)):ws.length<=x.size+1/\1<=ws.length:=by
 have h1:=congrArg List.length h;rw[JL] at h1;have h2:=Ypt c (L8 x);rw[<-Z9] at h2;have h3:0 < (Xa c (L8 x)).length:=Cv.2 (dR c (L8 x));omega
theorem Yks {x:ByteArray} {ws:List ByteArray} (hw:ws.map L8=Xa 32 (L8 x)) (hx:x.size<=1048576):∀(m j:Nat) (c:Zh),j<=ws.length->ws.length - j < m->c.Ab.length+5<=j->
  ∃r,Jj x m c ws (j:Int)=some r/\HP x r:=by
 have Yn:=HR hw;intro m
 induction m with
 | zero=>intro j c _ h;omega
 | succ m ih=>
  intro j c hj hm hc;show ∃r,ZL x (Jj x m) c ws (j:Int)=some r/\_;unfold ZL;by_cases Z6:j < ws.length
  .have Ww:ws[j].size<=x.size:=Jf hw (B6 Z6)
   obtain⟨ps,h1,h2⟩:=Hw (x:=ws[j]) 58 (by omega);have h1:Wt ws[j] 58=some ps:=h1;have hp:=HR h2;rw[Ah (by simpa using Z6),Zy Z6,Ag,h1,Ag,show (0:Int)=((0:Nat):Int) from rfl,Zy (by omega),Ag];obtain⟨q1,e1⟩:=OG ps[0];rw[e1,Ag];have next:∀mc:Ze,∃r,Rl x (Jj x m) c mc ws (j:Int)=some r/\HP x r:=λmc=>by
    unfold Rl;rw[Yp (by simp;omega) (by simp;omega),Ag,Yf (by omega)];exact ih (j+1) _ (by omega) (by omega) (by simp;omega)
   by_cases h3:ps.length=3
   .obtain⟨q2,e2⟩:=OG ps[1]
    obtain⟨q3,e3⟩:=OG ps[2];rw[Ah (by simp[h3]),show (1:Int)=((1:Nat):Int) from rfl,Zy (by omega),Ag,e2,Ag,show (2:Int)=((2:Nat):Int) from rfl,Zy (by omega),Ag,e3,Ag];exact next _
   .rw[Ai (by simp;omega)]
    exact next _
  .rw[Ai (by simpa using Z6)]
   obtain⟨r,h1,h2,_⟩:=Z7a (x:=x) (c:=c) (by omega);exact⟨r,h1,h2⟩
theorem Yja {x:ByteArray} (hx:x.size<=1048576):∃r,Od x=some r/\HP x r:=by
 obtain⟨ws,h1,h2⟩:=Hw (x:=x) 32 (by omega);have h1:Wt x 32=some ws:=h1;unfold Od;rw[h1,Ag];by_cases hl:ws.length < 6
 .rw[Ah (by simp;omega)]
  exact⟨_,rfl,.inl rfl⟩
 .obtain⟨q0,e0⟩:=OG ws[0]
  obtain⟨q1,e1⟩:=OG ws[1];obtain⟨q2,e2⟩:=OG ws[2];obtain⟨q3,e3⟩:=OG ws[3];obtain⟨q4,e4⟩:=OG ws[4];have i0:idx ws 0=some ws[0]:=Zy (k:=0) (by omega);have i1:idx ws 1=some ws[1]:=Zy (k:=1) (by omega);have i2:idx ws 2=some ws[2]:=Zy (k:=2) (by omega);have i3:idx ws 3=some ws[3]:=Zy (k:=3) (by omega);have i4:idx ws 4=some ws[4]:=Zy (k:=4) (by omega);rw[Ai (by simp;omega),i0,Ag,e0,Ag,i1,Ag,e1,Ag,i2,Ag,e2,Ag,i3,Ag,e3,Ag,i4,Ag,e4,Ag];exact Yks h2 hx FU 5 _ (by omega) (by have:=Y5;have:=HR h2;omega) (by simp)
theorem Y01 {ws:List ByteArray} {c:Zh} (h:ws.map L8=ES c) {i:Nat} (hi:i < c.Ab.length):∃hl:5+i < ws.length,L8 ws[5+i]=mW c.Ab[i]:=by
 have Yn:ws.length=5+c.Ab.length:=by
  have:=congrArg List.length h;simp[ES,Ks] at this;omega
 refine⟨by omega,?_⟩;have h1:(ws.map L8)[5+i]?=some (mW c.Ab[i]):=by
  rw[h];unfold ES;rw[FD (by simp[Ks])];simp[Ks,hi]
 rw[Dt,CB (by omega)] at h1;simpa using h1
theorem dX {ws:List ByteArray} {c:Zh} (h:ws.map L8=ES c) {i:Nat} (hi:i < 5):∃hl:i < ws.length,ws[i]=Zz ((Ks c)[i]'hi):=by
 have Yn:ws.length=5+c.Ab.length:=by
  have:=congrArg List.length h;simp[ES,Ks] at this;omega
 refine⟨by omega,K3 ?_⟩;have h1:(ws.map L8)[i]?=some (Lib.itoa ((Ks c)[i]'hi)):=by
  rw[h];unfold ES;rw[EV (by simpa [Ks] using hi),Dt,CB (show i < (Ks c).length from hi)];rfl
 rw[Dt,CB (by omega)] at h1;rw[Yw];simpa using h1
theorem Yqd {c:Zh} {l:List Ze} (h:l=c.Ab):({c with Ab:=l}:Zh)=c:=by subst h;rfl
theorem OH {m:Ze} (h:m.prio=true):Ze.mk m.weight true m.every m.cap=m:=by cases m;simp at h;simp[h]
theorem Y6a {m:Ze} (h:m.prio=false) (h2:m.every=0/\m.cap=0):Ze.mk m.weight false 0 0=m:=by cases m;simp at h h2;simp[h,h2]
theorem Yih {x:ByteArray} {c:Zh} (h:dW x c) (hx:x.size<=1048576):Od x=some (c,true):=by
 obtain⟨hg,ht⟩:=h;have hS:=dV hg;obtain⟨hq,hw,hr,hs,hk,hn,hm⟩:=hS;obtain⟨ws,h1,h2⟩:=Hw (x:=x) 32 (by omega);have h1:Wt x 32=some ws:=h1;have hc:ws.map L8=ES c:=by rw[h2,Yl0 ht]
 have Yn:ws.length=5+c.Ab.length:=by
  have:=congrArg List.length hc;simp[ES,Ks] at this;omega
 obtain⟨l0,w0⟩:=dX hc (i:=0) (by omega);obtain⟨l1,w1⟩:=dX hc (i:=1) (by omega);obtain⟨l2,w2⟩:=dX hc (i:=2) (by omega);obtain⟨l3,w3⟩:=dX hc (i:=3) (by omega);obtain⟨l4,w4⟩:=dX hc (i:=4) (by omega);have w0:ws[0]=Zz c.Av:=w0;have w1:ws[1]=Zz c.As:=w1;have w2:ws[2]=Zz c.An:=w2;have w3:ws[3]=Zz c.Ap:=w3;have w4:ws[4]=Zz c.Am:=w4;have i0:idx ws 0=some (Zz c.Av):=by rw[<-w0];exact Zy (k:=0) (by omega)
 have i1:idx ws 1=some (Zz c.As):=by rw[<-w1];exact Zy (k:=1) (by omega)
 have i2:idx ws 2=some (Zz c.An):=by rw[<-w2];exact Zy (k:=2) (by omega)
 have i3:idx ws 3=some (Zz c.Ap):=by rw[<-w3];exact Zy (k:=3) (by omega)
 have i4:idx ws 4=some (Zz c.Am):=by rw[<-w4];exact Zy (k:=4) (by omega)
 have key:∀(m i:Nat),i<=c.Ab.length->c.Ab.length - i < m->Jj x m {c with Ab:=c.Ab.take i} ws ((5+i:Nat):Int)=some (c,true):=by
  intro m
  induction m with
  | zero=>intro i _ h;omega
  | succ m ih=>
   intro i hi D9;show ZL x (Jj x m) {c with Ab:=c.Ab.take i} ws ((5+i:Nat):Int)=some (c,true);unfold ZL;by_cases Z6:i < c.Ab.length
   .obtain⟨sO,hww⟩:=Y01 hc Z6
    obtain⟨ps,p1,p2⟩:=Hw (x:=ws[5+i]) 58 (by have:ws[5+i].size<=x.size:=Jf h2 (B6 sO);omega);have p1:Wt ws[5+i] 58=some ps:=p1;rw[hww,Ytx] at p2;have p3:=Yo7 p2;obtain⟨⟨m1,m2⟩,⟨m3,m4⟩,⟨m5,m6⟩,m7⟩:=hm _ (B6 Z6);rw[Ah (decide_eq_true (by show ((5+i:Nat):Int) < _;omega)),Zy sO,Ag,p1,Ag];have next:Rl x (Jj x m) {c with Ab:=c.Ab.take i} c.Ab[i] ws ((5+i:Nat):Int)=some (c,true):=by
     unfold Rl;simp only;rw[Yp (by simp;omega) (by simp;omega),Ag,Yf (by omega),<-List.take_succ_eq_append_getElem Z6];exact ih (i+1) (by omega) (by omega)
    by_cases hp:c.Ab[i].prio=true
    .have p4:ps=[Zz c.Ab[i].weight,Zz c.Ab[i].every,Zz c.Ab[i].cap]:=by rw[p3];unfold HQ;rw[Ah hp];rfl
     subst p4;have j0:idx [Zz c.Ab[i].weight,Zz c.Ab[i].every,Zz c.Ab[i].cap] 0=some (Zz c.Ab[i].weight):=rfl;have j1:idx [Zz c.Ab[i].weight,Zz c.Ab[i].every,Zz c.Ab[i].cap] 1=some (Zz c.Ab[i].every):=rfl;have j2:idx [Zz c.Ab[i].weight,Zz c.Ab[i].every,Zz c.Ab[i].cap] 2=some (Zz c.Ab[i].cap):=rfl;rw[j0,Ag,MX ⟨by omega,by omega⟩,Ag,Ah (by simp),j1,Ag,MX ⟨by omega,by omega⟩,Ag,j2,Ag,MX ⟨by omega,by omega⟩,Ag,OH hp];exact next
    .have p4:ps=[Zz c.Ab[i].weight]:=by rw[p3];unfold HQ;rw[Ai hp];rfl
     subst p4;have j0:idx [Zz c.Ab[i].weight] 0=some (Zz c.Ab[i].weight):=rfl;have dY:c.Ab[i].prio=false:=by simpa using hp
     rw[j0,Ag,MX ⟨by omega,by omega⟩,Ag,Ai (by simp),Y6a dY (m7 dY)];exact next
   .rw[Ai (by simp;omega),Yqd (D6 (by omega))]
    obtain⟨r,e1,_,e3⟩:=Z7a (x:=x) (c:=c) (by omega);rw[e1,e3 ⟨hg,ht⟩]
 unfold Od;rw[h1,Ag,Ai (by simp;omega),i0,Ag,MX ⟨by omega,by omega⟩,Ag,i1,Ag,MX ⟨by omega,by omega⟩,Ag,i2,Ag,MX ⟨by omega,by omega⟩,Ag,i3,Ag,MX ⟨by omega,by omega⟩,Ag,i4,Ag,MX ⟨by omega,by omega⟩,Ag];exact key FU 0 (Cd _) (by have:=Y5;omega)
theorem Z7h {x:ByteArray} {c:Zh} (hl:c.Ab.length < 1048577):∃r,((Lc c).bind λr2=>if (!r2)=true then (some (Zh.z0,false)) else (
   (Rv c).bind λr3=>if (!(r3.toList == x.toList))=true then (some (Zh.z0,false)) else (some (c,true))))=some r/\HP x r/\(dW x c->r=(c,true)):=by
 rw[Uh c hl,Zzm hl,Ag,Ag];by_cases h:Yr c=true
 .rw[Ai (by simp[h]),Ah h,Lib.toList_data,Lib.toList_data]
  by_cases he:DR c=L8 x
  .have e1:((⟨(DR c).toArray⟩:ByteArray).data.toList == x.data.toList)=true:=beq_iff_eq.2 he
   rw[Ai (by simp[e1])];exact⟨_,rfl,.inr ⟨rfl,h,he.symm⟩,λ_=>rfl⟩
  .have e1:¬((⟨(DR c).toArray⟩:ByteArray).data.toList == x.data.toList)=true:=λhh=>he (beq_iff_eq.1 hh)
   rw[Ah (by simpa using e1)];exact⟨_,rfl,.inl rfl,λhh=>absurd hh.2.symm he⟩
 .rw[Ah (by simp[h])]
  exact⟨_,rfl,.inl rfl,λhh=>absurd hh.1 h⟩
theorem idx0 {α:Type} {l:List α} (h:1<=l.length):∃a,idx l 0=some a:=⟨l[0],Zy (k:=0) (by omega)⟩
theorem OI {α:Type} {l:List α} (n:Nat) (h:n < l.length):∃a,idx l (n:Int)=some a:=⟨l[n],Zy h⟩
theorem Yl2 {x:ByteArray} {ws:List ByteArray} (hz:∀w∈ws,w.size<=1048576) (hn:ws.length<=10):∀(m j:Nat) (c:Zh),j<=ws.length->ws.length - j < m->c.Ab.length<=j->
  ∃r,Ql x m c ws (ws.length:Int) (j:Int)=some r/\HP x r:=by
 intro m
 induction m with
 | zero=>intro j c _ h;omega
 | succ m ih=>
  intro j c hj hm hc;show ∃r,Kl x (Ql x m) c ws (ws.length:Int) (j:Int)=some r/\_;unfold Kl;by_cases Z6:j < ws.length
  .have Ww:=hz _ (B6 Z6)
   obtain⟨ps,h1,h2⟩:=JG (x:=ws[j]) 58 (by omega);have hp:=HR h2;obtain⟨q,e1,e2⟩:=Yaq (ws:=ps) (by omega) (λw hw=>by have:=Jf h2 hw;omega);rw[Ah (by simpa using Z6),Zy Z6,Ag,h1,Ag,e1,Ag];have next:∀mc:Ze,∃r,((Y4 32 c.Ab [mc]).bind λz0=>Ql x m {c with Ab:=z0} ws (ws.length:Int) (Zo (j:Int) 1))=some r/\HP x r:=λmc=>by
    rw[Yp (by simp;omega) (by simp;omega),Ag,Yf (by omega)];exact ih (j+1) _ (by omega) (by omega) (by simp;omega)
   have j4:∀b:Bool,(b=true->q.1.length=3)->∃r,Rw x (Ql x m) c q.1 ws (ws.length:Int) (j:Int) b=some r/\HP x r:=λb hb=>by
    unfold Rw;by_cases Jl:b=true
    .have h3:=hb Jl
     obtain⟨a0,i0⟩:=OI (l:=q.1) 0 (by omega);obtain⟨a1,i1⟩:=OI (l:=q.1) 1 (by omega);obtain⟨a2,i2⟩:=OI (l:=q.1) 2 (by omega);have i0:idx q.1 0=some a0:=i0;have i1:idx q.1 1=some a1:=i1;have i2:idx q.1 2=some a2:=i2;rw[Ah Jl,i0,Ag,i1,Ag,i2,Ag];exact next _
    .rw[Ai Jl]
     exact⟨_,rfl,.inl rfl⟩
   have j3:∀(b c2:Bool),(c2=true->q.1.length=1)->∃r,Rx x (Ql x m) c q.1 b ws (ws.length:Int) (j:Int) c2=some r/\HP x r:=λb c2 hb=>by
    unfold Rx;by_cases Jl:c2=true
    .have h3:=hb Jl
     obtain⟨a0,i0⟩:=idx0 (l:=q.1) (by omega);rw[Ah Jl,i0,Ag];exact next _
    .rw[Ai Jl]
     split
     .exact j4 _ λh=>by simp at h;omega
     .exact j4 _ λh=>by cases h
   split
   .exact j3 _ _ λh=>by simp at h;omega
   .exact j3 _ _ λh=>by cases h
  .rw[Ai (by simpa using Z6)]
   obtain⟨r,h1,h2,_⟩:=Z7h (x:=x) (c:=c) (by omega);exact⟨r,h1,h2⟩
theorem W9 {α:Type} {xs:List α} {a b:Nat} (h1:a<=b) (h2:b<=xs.length):Ys xs (a:Int) (b:Int)=some ((xs.drop a).take (b - a)):=by
 unfold Ys;rw[Ah ⟨by omega,by omega,by omega⟩];rfl
theorem Yjf {x:ByteArray} (hx:x.size<=1048576):∃r,Le x=some r/\HP x r:=by
 obtain⟨ws,h1,h2⟩:=JG (x:=x) 32 (by omega);have hz:∀w∈ws,w.size<=1048576:=λw hw=>by have:=Jf h2 hw;omega
 unfold Le;rw[h1,Ag];have bad:∃r,T7 x ws true=some r/\HP x r:=⟨_,rfl,.inl rfl⟩;by_cases hl:ws.length < 6
 .rw[Ah (by simp;omega)];exact bad
 .rw[Ai (by simp;omega)]
  by_cases CJ:ws.length > 9
  .rw[show decide ((ws.length:Int) > 9)=true by simp;omega];exact bad
  .rw[show decide ((ws.length:Int) > 9)=false by simp;omega]
   unfold T7;have s0:Ys ws 0 5=some ((ws.drop 0).take 5):=W9 (a:=0) (b:=5) (by omega) (by omega);have s1:Ys ws 5 (ws.length:Int)=some ((ws.drop 5).take (ws.length - 5)):=W9 (a:=5) (by omega) (B4 _);rw[Ai (by simp),s0,Ag];obtain⟨q,e1,e2⟩:=Yaq (ws:=(ws.drop 0).take 5) (by simp;omega) (λw hw=>by have:=hz w (FV (FW hw));omega);rw[e1,Ag];by_cases hq:q.2=true
   .have h5:q.1.length=5:=by
     have:=(e2 hq).1;rw[this];simp;omega
    obtain⟨a0,i0⟩:=OI (l:=q.1) 0 (by omega);obtain⟨a1,i1⟩:=OI (l:=q.1) 1 (by omega);obtain⟨a2,i2⟩:=OI (l:=q.1) 2 (by omega);obtain⟨a3,i3⟩:=OI (l:=q.1) 3 (by omega);obtain⟨a4,i4⟩:=OI (l:=q.1) 4 (by omega);have i0:idx q.1 0=some a0:=i0;have i1:idx q.1 1=some a1:=i1;have i2:idx q.1 2=some a2:=i2;have i3:idx q.1 3=some a3:=i3;have i4:idx q.1 4=some a4:=i4;rw[Ai (by simp[hq]),i0,Ag,i1,Ag,i2,Ag,i3,Ag,i4,Ag,s1,Ag];exact Yl2 (λw hw=>hz w (FV (FW hw))) (by simp;omega) FU 0 _ (Cd _) (by have:=Y5;simp;omega) (by simp)
   .rw[Ah (by simp[hq])]
    exact⟨_,rfl,.inl rfl⟩
end Go.Proofs.YthdljdelfgofdaaGreatDoor.Ev
