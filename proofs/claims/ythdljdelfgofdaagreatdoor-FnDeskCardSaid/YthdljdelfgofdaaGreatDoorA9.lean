/- A part of the proof of FnDesk: see the text YthdljdelfgofdaaGreatDoorLawFnDesk for what is proved and its conditions. Conditions here: those in each line. -/
import Derived.Test.YthdljdelfgofdaaGreatDoorA8
import Derived.Lib.AtoiAllCases
import Derived.Lib.IndexBytes
import Derived.Lib.IndexLaws
import Derived.Lib.SplitLaws
set_option linter.unusedSimpArgs false
set_option linter.unusedVariables false
set_option linter.unusedSectionVars false
namespace Go.Proofs.YthdljdelfgofdaaGreatDoor.Ev
open Go Go.Proofs
theorem uG {b:Za} (s:Zb) (hn:0<=b.now) (h:Y6 b.now b):Y6 (b.now+1) (Z2 b s).1/\((Z2 b s).2.1=true->(Z2 b s).1.Aa=Zi.z0):=by
 unfold Z2;by_cases hd:b.Aa.live=false
 .rw[Ah hd]
  refine⟨h.mono,λ_=>?_⟩;have:=h.data;unfold K5 at this;rw[Ai (by simp[hd])] at this;exact this
 .have DL:b.Aa.live=true:=by simpa using hd
  have CY:=h.data;unfold K5 at CY;rw[Ah DL] at CY;rw[Ai hd];by_cases hl:b.Aa.left > 0
  .rw[Ah hl]
   exact⟨(Y60 h DL hl).mono,λhx=>by cases hx⟩
  .have PJ:b.Aa.left=0:=by have:=CY.1.2.1;omega
   rw[Ai hl];by_cases h2:b.Aa.Ar≠0/\b.Aa.second=false
   .rw[Ah h2]
    exact⟨(Y5p h DL PJ h2.1).mono,λhx=>by cases hx⟩
   .rw[Ai h2]
    have LP:b.Aa.Ar≠0->b.addr.live=false:=λhr=>by
     have:b.Aa.second=true:=by
      cases hs:b.Aa.second with
      | true=>rfl
      | false=>exact absurd ⟨hr,hs⟩ h2
     exact (CY.2.2.2 this).2.2
    have hw:=Kx h DL;have hm:=h.By _ hw;by_cases h3:b.Aa.Ar=2
    .rw[Ah h3]
     refine⟨?_,λ_=>?_⟩
     .refine (Ymk h DL (LP (by omega)) {Ak b.m b.Aa.Aj with tries:=(Ak b.m b.Aa.Aj).tries+1} b.splits rfl rfl rfl rfl ⟨?_,?_⟩ rfl (λi hi=>(h.By i hi).split) λ_ h=>h).mono
      .have:=hm.right.tries;show 0<=(Ak b.m b.Aa.Aj).tries+1;omega
      .have:=CY.2.1 h3;show (Ak b.m b.Aa.Aj).tries+1<=_;omega
     .unfold Wz;split
      .rfl
      .split<;>rfl
    .rw[Ai h3]
     by_cases h4:b.Aa.Ar=3
     .rw[Ah h4]
      have KE:=Xcv h.Ae s b.Aw;refine⟨?_,λ_=>?_⟩
      .refine (Ymk h DL (LP (by omega)) {Ak b.m b.Aa.Aj with Ay:=true} (b.splits.set b.Aa.Aj.toNat (HE b.Ae s b.Aw)) rfl rfl rfl rfl ⟨hm.right.tries,hm.tries⟩ (by simp) (λi hi=>?_) λh5 h6=>?_).mono
       .have hb:=X7 hw
        rw[fJ _ hb.1 (by have:=h.sl;omega) (X7 hi).1];split
        .omega
        .exact (h.By i hi).split
       .have hb:=X7 hw
        have hh:Zo b.Ae b.Af=true:=by
         have:=h.held.2;rw[Ai h5] at this;exact this.1
        rw[fJ _ hb.1 (by have:=h.sl;omega) (X7 hh).1,Ai (λe=>(CY.2.2.1 h4).2 e.symm)];exact h6
      .unfold Wz;split
       .rfl
       .split<;>rfl
     .rw[Ai h4]
      exact⟨Y1n hn h DL (by have:=CY.1.2.2;omega) LP,λ_=>rfl⟩
theorem HF {n:Int} {b:Za} (h:Y6 n b) (e:b.Af≠-1):Zo b.Ae b.Af=true/\Yu (Ak b.m b.Af)=true/\Ak b.splits b.Af=0/\(0<=b.held/\b.held<=b.Ae.Al):=by
 have:=h.held.2;rw[Ai e] at this;exact this
theorem uH {n:Int} {b:Za} (h:Y6 n b):Y6 n (Yy b):=by
 unfold Yy;split
 .rename_i hx
  obtain⟨hw,Nv,_,_⟩:=HF h hx.1;have hb:=X7 hw;have CJ:∀i,Zo b.Ae i=true->Ak (b.m.set b.Af.toNat {Ak b.m b.Af with broken:=true}) i=if i=b.Af then {Ak b.m b.Af with broken:=true} else Ak b.m i:=λi hi=>h.GH hw _ hi
  have DB:∀i,Zo b.Ae i=true->(Ak (b.m.set b.Af.toNat {Ak b.m b.Af with broken:=true}) i).Ao=(Ak b.m i).Ao/\(Ak (b.m.set b.Af.toNat {Ak b.m b.Af with broken:=true}) i).done=(Ak b.m i).done/\(Ak (b.m.set b.Af.toNat {Ak b.m b.Af with broken:=true}) i).tries=(Ak b.m i).tries/\(Ak (b.m.set b.Af.toNat {Ak b.m b.Af with broken:=true}) i).Ay=(Ak b.m i).Ay:=by
   intro i hi;rw[CJ i hi];split
   .rename_i e;subst e;exact⟨rfl,rfl,rfl,rfl⟩
   .exact⟨rfl,rfl,rfl,rfl⟩
  refine⟨h.Ae,?_,h.bl,h.sl,λi hi=>?_,h.Bo,h.last,h.model,h.alive,h.B9,λi hi=>?_,?_,?_,?_,h.log⟩
  .show (b.m.set b.Af.toNat _).length=_
   rw[KQ];exact h.ml
  .have Y7:Zo b.Ae i=true:=hi
   have hm:=h.By i Y7;refine⟨?_,?_,hm.bucket,hm.split⟩
   .show Y2 (Ak (b.m.set b.Af.toNat {Ak b.m b.Af with broken:=true}) i)
    rw[CJ i Y7];split
    .have hr:=(h.By _ hw).right
     exact⟨hr.len,hr.tries,hr.reqs,λhq=>absurd (show (Ak b.m b.Af).queue=[] from hq) (Yu9 Nv),hr.some⟩
    .exact hm.right
   .show (Ak (b.m.set b.Af.toNat {Ak b.m b.Af with broken:=true}) i).tries<=b.Ae.An
    rw[(DB i Y7).2.2.1];exact hm.tries
  .have Y7:Zo b.Ae i=true:=hi
   show (Ak (b.m.set b.Af.toNat {Ak b.m b.Af with broken:=true}) i).Ao - (Ak (b.m.set b.Af.toNat {Ak b.m b.Af with broken:=true}) i).done=C1 b i;rw[(DB i Y7).1,(DB i Y7).2.1];exact h.D1 i Y7
  .have:=h.addr
   unfold J8 at this ⊢;show if b.addr.live=true then b.addr.Ao=(Ak (b.m.set b.Af.toNat {Ak b.m b.Af with broken:=true}) b.addr.Aj).Ao - 1/\_ else _
   by_cases hl:b.addr.live=true
   .rw[Ah hl] at this ⊢
    rw[(DB _ (Hl h hl)).1];exact this
   .rw[Ai hl] at this ⊢;exact this
  .have:=h.data
   unfold K5 at this ⊢;show if b.Aa.live=true then _ else _
   by_cases hl:b.Aa.live=true
   .rw[Ah hl] at this ⊢
    have e:=DB _ (Kx h hl);show (b.Aa.Ao=(Ak (b.m.set b.Af.toNat {Ak b.m b.Af with broken:=true}) b.Aa.Aj).done/\_)/\(_->(Ak (b.m.set b.Af.toNat {Ak b.m b.Af with broken:=true}) b.Aa.Aj).tries < _)/\(_->(Ak (b.m.set b.Af.toNat {Ak b.m b.Af with broken:=true}) b.Aa.Aj).Ay=false/\b.Aa.Aj≠-1)/\_;rw[e.2.1,e.2.2.1,e.2.2.2];exact⟨this.1,this.2.1,λh3=>⟨(this.2.2.1 h3).1,by have:=X7 (Kx h hl);omega⟩,this.2.2.2⟩
   .rw[Ai hl] at this ⊢;exact this
  .refine⟨λi hi D9 hk=>?_,?_⟩
   .have Y7:Zo b.Ae i=true:=hi
    have hx3:(Ak (b.m.set b.Af.toNat {Ak b.m b.Af with broken:=true}) i).Ao > 0:=D9;have uI:Yu (Ak (b.m.set b.Af.toNat {Ak b.m b.Af with broken:=true}) i)=true:=hk;rw[CJ i Y7] at hx3 uI;split at uI
    .simp[Yu] at uI
    .rename_i e
     rw[Ai e] at hx3;exact absurd (h.held.1 i Y7 hx3 uI).symm e
   .show if (-1:Int)=-1 then (0:Int)=0 else _
    rw[Ah rfl]
 .exact h
theorem fO (b:Za):(Yy b).Aa=b.Aa/\(Yy b).addr=b.addr/\(Yy b).Aw=b.Aw/\(Yy b).now=b.now/\(Yy b).Ae=b.Ae/\(Yy b).log=b.log/\(Yy b).model=b.model:=by
 unfold Yy;split<;>exact⟨rfl,rfl,rfl,rfl,rfl,rfl,rfl⟩
theorem Yqf {c:Zg} (h:Yq c=true) (s:Zb) (k:Int):0<=Im c s k/\Im c s k<=c.As:=by
 have:=(Qd h).2.1;unfold Im;omega
theorem Xag {n:Int} {b:Za} (h:Y6 n b) (s:Zb) (hl:b.addr.live=true):(0<=(Hk b s b.addr).2/\(Hk b s b.addr).2<=b.Ae.As+2)/\(0<=(Hk b s b.addr).1/\(Hk b s b.addr).1<=3)/\
  ((Hk b s b.addr).1=2->(Ak b.m b.addr.Aj).tries < b.Ae.An)/\((Hk b s b.addr).1=3->(Ak b.m b.addr.Aj).Ay=false/\b.addr.Aj≠b.Af):=by
 have hw:=Hl h hl;have hm:=(h.By _ hw).right;have Jy:=Ydq h hl;have Vh:=Yxf hm Jy.1 Jy.2;have uE:=(Yam (w:=(Ak (Ak b.m b.addr.Aj).queue 0).write) (v:=Pm (Ak b.m b.addr.Aj) b.addr.Ao) h.model Vh.2.1).2.2;have hwt:=Yqf h.Ae s b.Aw;have SR:=(Qd h.Ae).2.1;have Vg:(Io b b.addr).2.2=0\/(Io b b.addr).2.2=1:=uE;unfold Hk;split
 .exact⟨by simp;omega,by simp,by simp,by simp⟩
 .refine⟨?_,?_,?_,?_⟩
  .simp only
   split<;>omega
  .simp only
   repeat' split
   all_goals omega
  .simp only
   split
   .rename_i h1;exactλ_=>h1.2.2
   .split
    .intro h2;omega
    .intro h2;omega
  .simp only
   split
   .intro h2;omega
   .split
    .rename_i h1;exactλ_=>h1.2.2
    .intro h2;omega
theorem uJ {n:Int} {b:Za} (h:Y6 n b) (s:Zb) (hd:b.Aa=Zi.z0):Y6 n (Qm b s)/\(Qm b s).addr=Zi.z0:=by
 unfold Qm;by_cases hl:b.addr.live=true
 .rw[Ah hl]
  refine⟨?_,rfl⟩;have hw:=Hl h hl;have ha:=Xag h s hl;have hA:=h.addr;unfold J8 at hA;rw[Ah hl] at hA;have IK:b.Aa.live=false:=by rw[hd]
  have Y7x:(Ak b.m b.addr.Aj).Ao - (Ak b.m b.addr.Aj).done=1:=by
   rw[h.D1 _ hw];unfold C1;rw[Ah ⟨hl,rfl⟩,IK];simp
  refine⟨h.Ae,h.ml,h.bl,h.sl,λi hi=>?_,h.Bo,h.last,h.model,(λhx=>by cases hx),λ_=>h.alive hl,λi hi=>?_,?_,?_,h.held,h.log⟩
  .have hm:=h.By i hi;exact⟨hm.right,hm.tries,hm.bucket,hm.split⟩
  .have BK:=h.D1 i hi
   rw[BK];unfold C1;simp only[IK,hl,Bp,false_and,if_false,true_and];omega
  .unfold J8
   simp
  .unfold K5
   show if b.addr.live=true then _ else _
   rw[Ah hl];refine⟨⟨by show b.addr.Ao=_;rw[hA.1];show (Ak b.m b.addr.Aj).Ao - 1=(Ak b.m b.addr.Aj).done;omega,ha.1,ha.2.1⟩,ha.2.2.1,ha.2.2.2,λhs=>?_⟩;have:b.addr.second=true:=hs;rw[hA.2.2.2] at this;cases this
 .rw[Ai hl]
  refine⟨h,?_⟩;have hA:=h.addr;unfold J8 at hA;rw[Ai hl] at hA;exact hA
theorem uK (b:Za) (s:Zb):(Qm b s).now=b.now/\(Qm b s).Ae=b.Ae/\(Qm b s).log=b.log/\(Qm b s).model=b.model/\(Qm b s).m=b.m/\(Qm b s).splits=b.splits/\(Qm b s).Af=b.Af/\b.Aw<=(Qm b s).Aw/\(Qm b s).Aw<=b.Aw+1:=by
 unfold Qm;split
 .exact⟨rfl,rfl,rfl,rfl,rfl,rfl,rfl,by show b.Aw<=b.Aw+1;omega,Md _⟩
 .exact⟨rfl,rfl,rfl,rfl,rfl,rfl,rfl,Md _,by omega⟩
theorem Nw (b:Za):(Kt b).length=b.m.length:=by simp[Kt]
theorem fP {n:Int} {b:Za} (h:Y6 n b) {i:Int} (hi:Zo b.Ae i=true):Ak (Kt b) i=Jm b i:=by
 obtain⟨k,rfl,hk⟩:=eZ hi;have:=h.ml;rw[Qp (by rw[Nw];omega)];simp[Kt]
structure SS (n:Int) (b:Za) (p:Int×Int×Za):Prop where
 ok:Y6 n p.2.2
 Aj:p.1=-1\/(Zo b.Ae p.1=true/\Jm b p.1=true/\(1<=p.2.1/\p.2.1<=3))
 Ae:p.2.2.Ae=b.Ae
 m:p.2.2.m=b.m
 splits:p.2.2.splits=b.splits
 Af:p.2.2.Af=b.Af
 held:p.2.2.held=b.held
 addr:p.2.2.addr=b.addr
 data:p.2.2.Aa=b.Aa
 model:p.2.2.model=b.model
 log:p.2.2.log=b.log
 last:p.2.2.last=b.last
 now:p.2.2.now=b.now
 Aw:p.2.2.Aw=b.Aw
theorem Vi {n:Int} {b:Za} (h:Y6 n b):SS n b (Kq b):=by
 unfold Kq;split
 .rename_i hx
  exact⟨h,.inr ⟨(HF h hx.1).1,hx.2,by simp⟩,rfl,rfl,rfl,rfl,rfl,rfl,rfl,rfl,rfl,rfl,rfl,rfl⟩
 .split
  .rename_i k hk
   have Vj:=List.find?_some hk;have Ea:=List.mem_of_find?_eq_some hk;rw[V9,h.ml] at Ea;simp only[E4,Bh] at Vj;have hm:=Gk (c:=b.Ae) Ea;have FR:=X7 hm;refine⟨?_,.inr ⟨hm,Vj.1,by simp⟩,rfl,rfl,rfl,rfl,rfl,rfl,rfl,rfl,rfl,rfl,rfl,rfl⟩;refine⟨h.Ae,h.ml,by show (b.buckets.set k _).length=_;rw[KQ];exact h.bl,h.sl,λi hi=>?_,h.Bo,h.last,h.model,h.alive,h.B9,h.D1,h.addr,h.data,h.held,h.log⟩;have LQ:=h.By i hi;refine⟨LQ.right,LQ.tries,?_,LQ.split⟩;show Y5 (Ak (b.buckets.set k (FO (Ak b.buckets (k:Int)) (Ak b.Ae.Ab (k:Int))).1) i) (Ak b.Ae.Ab i)=true;have e:=fJ (xs:=b.buckets) (w:=(k:Int)) (FO (Ak b.buckets (k:Int)) (Ak b.Ae.Ab (k:Int))).1 FR.1 (by have:=h.bl;omega) (X7 hi).1;rw[Iy] at e;rw[e];split
   .rename_i e2;subst e2;exact Xfl LQ.bucket (JY h.Ae hi)
   .exact LQ.bucket
  .split
   .exact⟨h,.inl rfl,rfl,rfl,rfl,rfl,rfl,rfl,rfl,rfl,rfl,rfl,rfl,rfl⟩
   .have hp:=Xbu (wants:=Kt b) h.Bo (by rw[Nw,h.ml])
    refine⟨⟨h.Ae,h.ml,h.bl,h.sl,λi hi=>?_,hp.1,h.last,h.model,h.alive,h.B9,h.D1,h.addr,h.data,h.held,h.log⟩,?_,rfl,rfl,rfl,rfl,rfl,rfl,rfl,rfl,rfl,rfl,rfl,rfl⟩
    .have LQ:=h.By i hi;exact⟨LQ.right,LQ.tries,LQ.bucket,LQ.split⟩
    .rcases hp.2 with fQ|fQ
     .exact .inl fQ
     .exact .inr ⟨fQ.1,by rw[<-fP h fQ.1];exact fQ.2,by simp⟩
theorem Yau {b:Za} {i:Int} (h:Jm b i=true):(Ak b.m i).Ao < Zy (Ak b.m i)/\Ak b.splits i=0/\(b.Af=-1\/b.Af=i):=by
 simp only[Jm,LL,Bh,NB,Bl] at h;exact⟨h.1,h.2.1,h.2.2⟩
theorem Y6y (m:Zh):(Wp m).queue=m.queue/\(Wp m).done=m.done/\(Wp m).tries=m.tries/\(Wp m).Ay=m.Ay/\(Wp m).broken=m.broken:=by
 unfold Wp;split<;>exact⟨rfl,rfl,rfl,rfl,rfl⟩
theorem Xes {n:Int} {b:Za} (h:Y6 n b) (ha:b.addr=Zi.z0) (LP:b.Aa.second=false) {Aj B5:Int} (hw:Zo b.Ae Aj=true) (Y7y:Jm b Aj=true) (PY:1<=B5/\B5<=3):Y6 n (SN b Aj B5):=by
 obtain⟨w1,w2,w3⟩:=Yau Y7y;have Cm:=(h.By _ hw).right;have Lh:b.addr.live=false:=by rw[ha]
 have uL:=h.D1 _ hw;have hle:(Ak b.m Aj).Ao - (Ak b.m Aj).done<=1:=by
  rw[uL];unfold C1;rw[Lh];simp only[Bp,false_and,if_false];split<;>omega
 have Jy:(Wp (Ak b.m Aj)).Ao=(Ak b.m Aj).Ao+1:=by
  unfold Wp;rw[Ah ⟨w1,by omega⟩]
 have hs:=Y6y (Ak b.m Aj);have CJ:∀i,Zo b.Ae i=true->Ak (b.m.set Aj.toNat (Wp (Ak b.m Aj))) i=if i=Aj then Wp (Ak b.m Aj) else Ak b.m i:=λi hi=>h.GH hw _ hi
 have DB:∀i,Zo b.Ae i=true->(Ak (b.m.set Aj.toNat (Wp (Ak b.m Aj))) i).queue=(Ak b.m i).queue/\(Ak (b.m.set Aj.toNat (Wp (Ak b.m Aj))) i).done=(Ak b.m i).done/\(Ak (b.m.set Aj.toNat (Wp (Ak b.m Aj))) i).tries=(Ak b.m i).tries/\(Ak (b.m.set Aj.toNat (Wp (Ak b.m Aj))) i).Ay=(Ak b.m i).Ay/\(Ak (b.m.set Aj.toNat (Wp (Ak b.m Aj))) i).broken=(Ak b.m i).broken:=λi hi=>by
  rw[CJ i hi];split
  .rename_i e;subst e;exact hs
  .exact⟨rfl,rfl,rfl,rfl,rfl⟩
 have FR:=X7 hw;refine⟨h.Ae,?_,h.bl,h.sl,λi hi=>?_,h.Bo,.inr hw,h.model,λ_=>⟨hw,PY,w2⟩,h.B9,λi hi=>?_,?_,?_,?_,h.log⟩
 .show (b.m.set Aj.toNat _).length=_
  rw[KQ];exact h.ml
 .have Y7:Zo b.Ae i=true:=hi
  have hm:=h.By i Y7;refine⟨?_,?_,hm.bucket,hm.split⟩
  .show Y2 (Ak (b.m.set Aj.toNat (Wp (Ak b.m Aj))) i)
   rw[CJ i Y7];split
   .exact Y1b Cm
   .exact hm.right
  .show (Ak (b.m.set Aj.toNat (Wp (Ak b.m Aj))) i).tries<=_
   rw[(DB i Y7).2.2.1];exact hm.tries
 .have Y7:Zo b.Ae i=true:=hi
  have BK:=h.D1 i Y7;show (Ak (b.m.set Aj.toNat (Wp (Ak b.m Aj))) i).Ao - (Ak (b.m.set Aj.toNat (Wp (Ak b.m Aj))) i).done=C1 (SN b Aj B5) i;rw[(DB i Y7).2.1,CJ i Y7];unfold C1 at BK ⊢;rw[Lh] at BK;simp only[Bp,false_and,if_false] at BK;show _=(if (true:Bool)=true/\Aj=i then (1:Int) else 0)+(if b.Aa.live=true/\b.Aa.Aj=i then 1 else 0);simp only[true_and];by_cases e:i=Aj
  .subst e
   rw[Ah rfl,Ah rfl,Jy];omega
  .rw[Ai e,Ai (λe2=>e e2.symm)];omega
 .unfold J8
  show if (true:Bool)=true then (Ak b.m Aj).Ao=(Ak (b.m.set Aj.toNat (Wp (Ak b.m Aj))) Aj).Ao - 1/\_ else _
  rw[Ah rfl,CJ _ hw,Ah rfl,Jy];exact⟨by omega,rfl,rfl,rfl⟩
 .have hD:=h.data
  unfold K5 at hD ⊢;show if b.Aa.live=true then _ else _
  by_cases hl:b.Aa.live=true
  .rw[Ah hl] at hD ⊢
   have e:=DB _ (Kx h hl);show (b.Aa.Ao=(Ak (b.m.set Aj.toNat (Wp (Ak b.m Aj))) b.Aa.Aj).done/\_)/\(_->(Ak (b.m.set Aj.toNat (Wp (Ak b.m Aj))) b.Aa.Aj).tries < _)/\(_->(Ak (b.m.set Aj.toNat (Wp (Ak b.m Aj))) b.Aa.Aj).Ay=false/\b.Aa.Aj≠(if Yu (Ak b.m Aj)=true/\b.Af=-1 then Aj else b.Af))/\_;rw[e.2.1,e.2.2.1,e.2.2.2.1];refine⟨hD.1,hD.2.1,λh3=>⟨(hD.2.2.1 h3).1,?_⟩,λh4=>?_⟩
   .split
    .rename_i e2
     intro e3;have hp:=Vf h hl;have hr:=GD (h.By _ (Kx h hl)).right;have:=h.held.1 _ (Kx h hl) (by omega) (by rw[e3];exact e2.1);omega
    .exact (hD.2.2.1 h3).2
   .have:b.Aa.second=true:=h4
    rw[LP] at this;cases this
  .rw[Ai hl] at hD ⊢;exact hD
 .have hh:=h.held
  unfold GF at hh ⊢;show (∀i,Zo b.Ae i=true->(Ak (b.m.set Aj.toNat (Wp (Ak b.m Aj))) i).Ao > 0->Yu (Ak (b.m.set Aj.toNat (Wp (Ak b.m Aj))) i)=true->(if Yu (Ak b.m Aj)=true/\b.Af=-1 then Aj else b.Af)=i)/\
   (if (if Yu (Ak b.m Aj)=true/\b.Af=-1 then Aj else b.Af)=-1 then (if Yu (Ak b.m Aj)=true/\b.Af=-1 then 0 else b.held)=0 else Zo b.Ae (if Yu (Ak b.m Aj)=true/\b.Af=-1 then Aj else b.Af)=true/\Yu (Ak (b.m.set Aj.toNat (Wp (Ak b.m Aj))) (if Yu (Ak b.m Aj)=true/\b.Af=-1 then Aj else b.Af))=true/\Ak b.splits (if Yu (Ak b.m Aj)=true/\b.Af=-1 then Aj else b.Af)=0/\(0<=(if Yu (Ak b.m Aj)=true/\b.Af=-1 then 0 else b.held)/\(if Yu (Ak b.m Aj)=true/\b.Af=-1 then 0 else b.held)<=b.Ae.Al))
  have Nv:∀i,Zo b.Ae i=true->Yu (Ak (b.m.set Aj.toNat (Wp (Ak b.m Aj))) i)=Yu (Ak b.m i):=λi hi=>fN (DB i hi).1 (DB i hi).2.2.2.2;have SR:=(Qd h.Ae).2.2.1;have NU:∀i,Zo b.Ae i=true->i≠Aj->(Ak (b.m.set Aj.toNat (Wp (Ak b.m Aj))) i).Ao > 0->Yu (Ak b.m i)=true->False:=by
   intro i hi e hx hk;rw[CJ i hi,Ai e] at hx;have:=hh.1 i hi hx hk;have:=X7 hi;omega
  by_cases e:Yu (Ak b.m Aj)=true/\b.Af=-1
  .simp only[Ah e]
   refine⟨λi hi hx hk=>?_,?_⟩
   .by_cases e2:i=Aj
    .exact e2.symm
    .rw[Nv i hi] at hk
     exact (NU i hi e2 hx hk).elim
   .rw[Ai (by omega)]
    exact⟨hw,by rw[Nv _ hw];exact e.1,w2,by omega,by omega⟩
  .simp only[Ai e]
   refine⟨λi hi hx hk=>?_,?_⟩
   .rw[Nv i hi] at hk
    by_cases e2:i=Aj
    .subst e2
     rcases w3 with w3|w3
     .exact absurd ⟨hk,w3⟩ e
     .exact w3
    .exact (NU i hi e2 hx hk).elim
   .have h2:=hh.2
    split
    .rename_i e2;rw[Ah e2] at h2;exact h2
    .rename_i e2
     rw[Ai e2] at h2;exact⟨h2.1,by rw[Nv _ h2.1];exact h2.2.1,h2.2.2⟩
theorem Xc0 {n:Int} {b:Za} (h:Y6 n b) (ha:b.addr=Zi.z0) (LP:b.Aa.second=false):Y6 n (J6 b).2:=by
 have hp:=Vi h;unfold J6;split
 .exact hp.ok
 .rename_i hx
  rcases hp.Aj with h1|h1
  .exact absurd (show (Kq b).1 < 0 by rw[h1];decide) hx
  .refine Xes hp.ok (by rw[hp.addr];exact ha) (by rw[hp.data];exact LP) (by rw[hp.Ae];exact h1.1) ?_ h1.2.2
   have:=h1.2.1;unfold Jm at this ⊢;rw[hp.m,hp.splits,hp.Af];exact this
theorem Ya6 {n:Int} {b:Za} (h:Y6 n b):(J6 b).2.now=b.now/\(J6 b).2.Ae=b.Ae/\(J6 b).2.log=b.log/\(J6 b).2.model=b.model/\(J6 b).2.Aw=b.Aw/\(J6 b).2.Aa=b.Aa:=by
 have hp:=Vi h;unfold J6;split
 .exact⟨hp.now,hp.Ae,hp.log,hp.model,hp.Aw,hp.data⟩
 .exact⟨hp.now,hp.Ae,hp.log,hp.model,hp.Aw,hp.data⟩
theorem Xck {n:Int} {b:Za} (h:Y6 n b) (s:Zb) (hd:b.Aa=Zi.z0):Y6 n (Xy b s).2/\(Xy b s).2.now=b.now/\b.Aw<=(Xy b s).2.Aw/\(Xy b s).2.Aw<=b.Aw+1/\(Xy b s).2.Ae=b.Ae/\(Xy b s).2.log=b.log/\(Xy b s).2.model=b.model:=by
 have h1:=uH h;have e1:=fO b;have h2:=uJ h1 s (by rw[e1.1];exact hd);have e2:=uK (Yy b) s;have LP:(Qm (Yy b) s).Aa.second=false:=by
  unfold Qm;split
  .rename_i hl
   have hA:=h1.addr;unfold J8 at hA;rw[Ah hl] at hA;exact hA.2.2.2
  .rw[e1.1,hd]
 have h3:=Xc0 h2.1 h2.2 LP;have e3:=Ya6 h2.1;unfold Xy;exact⟨h3,by rw[e3.1,e2.1,e1.2.2.2.1],by rw[e3.2.2.2.2.1,<-e1.2.2.1];exact e2.2.2.2.2.2.2.2.1,by rw[e3.2.2.2.2.1,<-e1.2.2.1];exact e2.2.2.2.2.2.2.2.2,by rw[e3.2.1,e2.2.1,e1.2.2.2.2.1],by rw[e3.2.2.1,e2.2.2.1,e1.2.2.2.2.2.1],by rw[e3.2.2.2.1,e2.2.2.2.1,e1.2.2.2.2.2.2]⟩
theorem Y90 (b:Za):(Xo b).now=b.now/\(Xo b).Ae=b.Ae/\(Xo b).Aw=b.Aw/\(Xo b).log=b.log/\(Xo b).model=b.model/\(Xo b).m=b.m/\(Xo b).addr=b.addr/\(Xo b).Aa=b.Aa/\(Xo b).Af=b.Af:=⟨rfl,rfl,rfl,rfl,rfl,rfl,rfl,rfl,rfl⟩
theorem Y8f (b:Za):(ET b).now=b.now/\(ET b).Ae=b.Ae/\(ET b).Aw=b.Aw/\(ET b).log=b.log/\(ET b).model=b.model/\(ET b).m=b.m/\(ET b).addr=b.addr/\(ET b).Aa=b.Aa/\(ET b).Af=b.Af:=by
 unfold ET;split<;>exact⟨rfl,rfl,rfl,rfl,rfl,rfl,rfl,rfl,rfl⟩
theorem fR (b:Za) (s:Zb):(Wj b s).now=b.now/\(Wj b s).Ae=b.Ae/\(Wj b s).Aw=b.Aw/\(Wj b s).log=b.log/\(Wj b s).model=b.model/\(Wj b s).addr=b.addr/\(Wj b s).Aa=b.Aa/\(Wj b s).Af=b.Af:=by
 have h1:=Y8f (Xo (Wd b (ES s b.now)));have h2:=Y90 (Wd b (ES s b.now));have h3:=fM b (ES s b.now);unfold Wj;refine⟨?_,?_,?_,?_,?_,?_,?_,?_⟩
 .rw[h1.1,h2.1,h3.2.1]
 .rw[h1.2.1,h2.2.1,h3.1]
 .rw[h1.2.2.1,h2.2.2.1,h3.2.2.1]
 .rw[h1.2.2.2.1,h2.2.2.2.1,h3.2.2.2.1]
 .rw[h1.2.2.2.2.1,h2.2.2.2.2.1,h3.2.2.2.2.1]
 .rw[h1.2.2.2.2.2.2.1,h2.2.2.2.2.2.2.1,h3.2.2.2.2.2.2.2.1]
 .rw[h1.2.2.2.2.2.2.2.1,h2.2.2.2.2.2.2.2.1,h3.2.2.2.2.2.2.2.2.1]
 .rw[h1.2.2.2.2.2.2.2.2,h2.2.2.2.2.2.2.2.2,h3.2.2.2.2.2.1]
theorem uM {b:Za} (h:De b) (s:Zb):Y6 b.now (Wj b s):=Y52 (Ybb (fL h.i _))
theorem uN (b:Za) (x:Zi):(Wz b x).now=b.now/\(Wz b x).Aw=b.Aw/\(Wz b x).Ae=b.Ae/\(Wz b x).log=b.log/\(Wz b x).model=b.model:=by
 unfold Wz;split
 .exact⟨rfl,rfl,rfl,rfl,rfl⟩
 .split<;>exact⟨rfl,rfl,rfl,rfl,rfl⟩
theorem Yb9 (b:Za) (s:Zb):(Z2 b s).1.now=b.now/\(Z2 b s).1.Aw=b.Aw/\(Z2 b s).1.Ae=b.Ae:=by
 unfold Z2
 repeat' split
 all_goals first
  | exact⟨rfl,rfl,rfl⟩
  | exact⟨(uN _ _).1,(uN _ _).2.1,(uN _ _).2.2.1⟩
theorem uO {b:Za} (h:De b) (s:Zb) (hn:b.now < 4000):De (D2 b s).1/\(D2 b s).1.now=b.now+1/\(D2 b s).1.Ae=b.Ae:=by
 have h1:=uM h s;have e1:=fR b s;have hI:Y6 (Wj b s).now (Wj b s):=by rw[e1.1];exact h1
 have h2:=uG s (by rw[e1.1];exact h.now.1) hI;have e2:=Yb9 (Wj b s) s;have hp:=h.Aw;have fS:=h.now;unfold D2;rw[e1.1] at h2;by_cases hr:(Z2 (Wj b s) s).2.1=true
 .rw[Ah hr]
  have h3:=Xck h2.1 s (h2.2 hr);refine⟨?_,rfl,by show (Xy _ s).2.Ae=_;rw[h3.2.2.2.2.1,e2.2.2,e1.2.1]⟩;have h4:=h3.1;have e3:(Z2 (Wj b s) s).1.Aw=b.Aw:=by rw[e2.2.1,e1.2.2.1]
  have h5:=h3.2.2.1;have h6:=h3.2.2.2.1;generalize (Xy (Z2 (Wj b s) s).1 s).2=r at h4 h5 h6 ⊢;exact⟨h4.Ae,⟨by show 0<=b.now+1;omega,by show b.now+1<=4000;omega⟩,h4.ml,h4.bl,h4.sl,λi hi=>⟨(h4.By i hi).right,(h4.By i hi).tries,(h4.By i hi).bucket,(h4.By i hi).split⟩,h4.Bo,h4.last,h4.model,⟨by show 0<=r.Aw;omega,by show r.Aw<=b.now+1;omega⟩,h4.alive,h4.B9,h4.D1,h4.addr,h4.data,h4.held,h4.log⟩
 .rw[Ai hr]
  refine⟨?_,rfl,by show (Z2 _ s).1.Ae=_;rw[e2.2.2,e1.2.1]⟩;have h4:=h2.1;have e3:(Z2 (Wj b s) s).1.Aw=b.Aw:=by rw[e2.2.1,e1.2.2.1]
  generalize (Z2 (Wj b s) s).1=r at h4 e3 ⊢;exact⟨h4.Ae,⟨by show 0<=b.now+1;omega,by show b.now+1<=4000;omega⟩,h4.ml,h4.bl,h4.sl,λi hi=>⟨(h4.By i hi).right,(h4.By i hi).tries,(h4.By i hi).bucket,(h4.By i hi).split⟩,h4.Bo,h4.last,h4.model,⟨by show 0<=r.Aw;omega,by show r.Aw<=b.now+1;omega⟩,h4.alive,h4.B9,h4.D1,h4.addr,h4.data,h4.held,h4.log⟩
structure Zb.sm (s:Zb):Prop where
 Am:s.Am.length < 1048577
 reqs:∀p∈s.Am,p.Bq.sm
 waits:s.waits.length < 1048577
 A3:s.A3.length < 1048577
 KF:∀w∈s.waits,-9223372036854775808<=w/\w < 9223372036854775808
theorem uP (l:List Int) (k:Int) (hl:l.length < 1048577):Ut l k=some (GG l k):=by
 unfold Ut p5 GG;by_cases h:l=[]
 .simp[h]
 .have h1:0 < l.length:=Cq.2 h
  rw[Ai (by simpa using h)];by_cases h2:k < 0
  .simp[h2]
  .have h3:0<=k % (l.length:Int):=Tv _ (by omega)
   have h4:k % (l.length:Int) < (l.length:Int):=Ts _ (by omega);rw[JU (by omega),Ag,HA (by omega),Xu h3 h4];simp[h,h2]
theorem Yfr (l:List Int) (k:Int) (hl:l.length < 1048577):aL l k=some (GG l k):=by
 rw[<-uP l k hl];rfl
theorem Ywf {l:List Int} {k:Int} (h:∀w∈l,-9223372036854775808<=w/\w < 9223372036854775808):-9223372036854775808<=GG l k/\GG l k < 9223372036854775808:=by
 unfold GG;split
 .omega
 .rename_i hx
  have h1:l≠[]:=λe=>hx (.inl e);have h2:0 < l.length:=Cq.2 h1;exact h _ (G9 (Tv _ (by omega)) (Ts _ (by omega)))
theorem Y0q (c:Zg) {s:Zb} (k:Int) (hs:s.sm):qR c s k=some (Im c s k):=by
 unfold qR Im;rw[uP _ _ hs.waits,Ag,Nl,GA]
theorem Y0g (c:Zg) {s:Zb} (k:Int) (hs:s.sm):nD c s k=some (Im c s k):=by
 unfold nD Im;rw[Yfr _ _ hs.waits,Ag,Nl,GA,VE]
theorem Y1d {s:Zb} (k:Int) (hs:s.sm):qS s k=some (Gl s k):=by
 unfold qS Gl;rw[uP _ _ hs.A3,Ag];by_cases h1:GG s.A3 k=2
 .simp[h1]
 .by_cases h2:GG s.A3 k=3<;>simp[h1,h2]
theorem Y2r {s:Zb} (k:Int) (hs:s.sm):nC s k=some (Gl s k):=by
 unfold nC Gl;rw[Yfr _ _ hs.A3,Ag];by_cases h1:GG s.A3 k=2
 .simp[h1]
 .by_cases h2:GG s.A3 k=3<;>simp[h1,h2]
theorem Yxk (c:Zg) {s:Zb} (k:Int) (hs:s.sm):p6 c s k=some (HE c s k):=by
 have h:=Ywf (k:=k) hs.KF;unfold p6 HE;rw[uP _ _ hs.waits,Ag,Nl,GA,Nl,GA,Ye (by omega) (by omega)]
theorem Yxt (c:Zg) {s:Zb} (k:Int) (hs:s.sm):mM c s k=some (HE c s k):=by
 have h:=Ywf (k:=k) hs.KF;unfold mM HE;rw[Yfr _ _ hs.waits,Ag,Nl,GA,GA,Ye (by omega) (by omega)]
 congr 1
 omega
theorem Yjl {α:Type} (p:α->Bool) (xs:List α) (k:Nat) (hk:k < xs.length):(xs.take (k+1)).filter p=(xs.take k).filter p++(if p xs[k] then [xs[k]] else []):=by
 rw[List.take_succ_eq_append_getElem hk,V3];cases hq:p xs[k]<;>simp[hq]
theorem Yy5 (s:Zb) (t:Int) (hs:s.sm):pR s t=some (ES s t):=by
 unfold pR ES;have hp:=hs.Am;refine Jh (σ:=List Zm) (n:=s.Am.length) (by omega) (λk=>(s.Am.take k).filter λp=>decide (p.at_=t)) (B:=pP s t) (L:=pQ s t) (λm s i=>rfl) (λk hk κ=>?_) λκ=>?_
 .unfold pP
  have Yp:((s.Am.take k).filter λp=>decide (p.at_=t)).length<=k:=I1 (Pz ..) (by rw[Ey];omega);rw[Ah (by simpa using hk),Zx hk,Ag,Yjl _ _ _ hk,Ygr _ (hs.reqs _ (B6 hk)),Ag];by_cases e:s.Am[k].at_=t
  .rw[Ah (by simpa using e),Yr (by simp only[AP,Bf];omega) (by simp only[AP,Bf];omega),Ag,Ah (decide_eq_true e)]
  .rw[Ai (by simpa using e),Ai (by simpa using e),FZ]
 .unfold pP
  rw[Ai (by simp),E9]
theorem Ywi (s:Zb) (t:Int) (hs:s.sm):mC s t=some (ES s t):=by
 unfold mC ES;have hp:=hs.Am;refine Jh (σ:=List Zm) (n:=s.Am.length) (by omega) (λk=>(s.Am.take k).filter λp=>decide (p.at_=t)) (B:=mA s t) (L:=mB s t) (λm s i=>rfl) (λk hk κ=>?_) λκ=>?_
 .unfold mA
  have Yp:((s.Am.take k).filter λp=>decide (p.at_=t)).length<=k:=I1 (Pz ..) (by rw[Ey];omega);rw[Ah (by simpa using hk),Zx hk,Ag,Yjl _ _ _ hk,Yfi _ (hs.reqs _ (B6 hk)),Ag];by_cases e:s.Am[k].at_=t
  .rw[Ah (by simpa using e),Yr (by simp only[AP,Bf];omega) (by simp only[AP,Bf];omega),Ag,Ah (decide_eq_true e)]
  .rw[Ai (by simpa using e),Ai (by simpa using e),FZ]
 .unfold mA
  rw[Ai (by simp),E9]
theorem Yxh {s:Zb} (hs:s.sm) (t:Int):(ES s t).length < 1048577/\∀p∈ES s t,p.Bq.sm:=by
 have hp:=hs.Am;refine⟨Nat.lt_of_le_of_lt (Pz ..) hp,λp hx=>hs.reqs p ?_⟩;unfold ES at hx;exact (P5.1 hx).1
theorem Yey (b:Za) (ps:List Zm) (k:Nat) (hk:k < ps.length):Wd b (ps.take (k+1))=Er (Wd b (ps.take k)) ps[k]:=by
 unfold Wd;rw[List.take_succ_eq_append_getElem hk,Tt];rfl
theorem uQ (c:Zg) (h:c.Ab.length < 1048577):bW c=some c/\ZQ c=some c:=by
 unfold bW pH ZQ;rw[Yr (by simp;omega) (by simp;omega)];exact⟨rfl,rfl⟩
theorem Yw9 (xs:List Zt) (h:xs.length < 1048577):Y4 56 [] xs=some xs:=by
 rw[Yr (by simp;omega) (by simp;omega)];rfl
theorem Ywl (xs:List Zk) (h:xs.length < 1048577):Y4 16 [] xs=some xs:=by
 rw[Yr (by simp;omega) (by simp;omega)];rfl
theorem Yid (b:Za) (hs:b.sm):cZ b=some b:=by
 unfold cZ;rw[(uQ b.Ae hs.Ae).1,Ag];have:=hs.ml;refine (Jh (σ:=Za×List Zh) (n:=b.m.length) (by omega) (λk=>(b,b.m.take k)) (B:=λκ s i=>rL b (λx y i=>κ (x,y) i) s.1 s.2 i) (L:=λm s i=>cY b m s.1 s.2 i) (λm s i=>rfl) (λk hk κ=>?_) λκ=>?_:cY b FU b [] 0=some b)
 .unfold rL
  have Yp:(b.m.take k).length=k:=by rw[Ey];omega
  simp only;rw[Ah (by simpa using hk),Zx hk,Ag,eS _ (hs.By _ (B6 hk)),Ag,Yr (by simp only[AP,Bf];omega) (by simp only[AP,Bf];omega),Ag,<-List.take_succ_eq_append_getElem hk]
 .unfold rL rJ rK
  simp only;rw[Ai (by simp),Ywl _ hs.bl,Ag,Vb _ hs.sl,Ag,Z05 _ hs.model,Ag,Yw9 _ hs.log,Ag,E9]
theorem uR (b:Za) (hs:b.sm):TR b=some b:=by
 unfold TR;rw[(uQ b.Ae hs.Ae).2,Ag];have:=hs.ml;refine (Jh (σ:=Za) (n:=b.m.length) (by omega) (λk=>{b with m:=b.m.take k}) (B:=l7 b) (L:=aI b) (λm s i=>rfl) (λk hk κ=>?_) λκ=>?_:aI b FU {b with m:=[]} 0=some b)
 .unfold l7
  have Yp:(b.m.take k).length=k:=by rw[Ey];omega
  simp only;rw[Ah (by simpa using hk),Zx hk,Ag,eT _ (hs.By _ (B6 hk)),Ag,Yr (by simp only[AP,Bf];omega) (by simp only[AP,Bf];omega),Ag,<-List.take_succ_eq_append_getElem hk]
 .unfold l7
  simp only;rw[Ai (by simp),Ywl _ hs.bl,Ag,eV _ hs.sl,Ag,Yik _ hs.model,Ag,Yw9 _ hs.log,Ag,E9]
theorem uS {c:Zg} {n:Int} (hn:n<=4001) {l:List Zt} (h:(∀d∈l,SE c n d)/\l.Pairwise λx y=>x.A5 < y.A5):l.length<=4001:=by
 have key:∀(l:List Zt) (a:Int),(∀d∈l,a<=d.A5/\d.A5 < n)->(l.Pairwise λx y=>x.A5 < y.A5)->l≠[]->(l.length:Int)<=n - a:=by
  intro l
  induction l with
  | nil=>intro a _ _ h;exact absurd rfl h
  | cons x xs ih=>
   intro a h1 h2 _;have h3:=h1 x (BI ..);by_cases hx:xs=[]
   .subst hx;simp;omega
   .have h4:=List.pairwise_cons.1 h2
    have:=ih (x.A5+1) (λd hd=>⟨by have:=h4.1 d hd;omega,(h1 d (Cg _ hd)).2⟩) h4.2 hx;simp only[AP];omega
 by_cases hx:l=[]
 .subst hx;simp
 .have:=key l 0 (λd hd=>(h.1 d hd).1) h.2 hx
  omega
theorem Y6.sm {n:Int} {b:Za} (h:Y6 n b) (hn:n<=4001):b.sm:=by
 have h1:=GB h.Ae;have h2:=h.ml;have h3:=h.bl;have h4:=h.sl;have h5:=uS hn h.log;refine⟨h1,by omega,λx hx=>?_,by omega,by omega,h.model.sm,by omega⟩;obtain⟨k,hk,rfl⟩:=P2 hx;have:=(h.By (k:Int) (Gk (by omega))).right.sm
 rwa [Qp hk] at this
theorem De.sm {b:Za} (h:De b):b.sm:=h.i.sm (by have:=h.now;omega)
section
variable {n:Int} {b:Za} {s:Zb}
theorem Z8c (x:Zi) (hc:Yq b.Ae=true) (hw:Zo b.Ae x.Aj=true) (CO:b.m.length=b.Ae.Ab.length) (Lb:b.buckets.length=b.Ae.Ab.length) (hr:Y2 (Ak b.m x.Aj)) (SQ:CN b.Bo b.Ae=true):Us b x=some (Wz b x):=by
 obtain⟨ok,DU⟩:=Yu4 hr;unfold Us Wz;rw[Wx CO hw,Ag,DU,Ag,Wy,Ag,Vd Lb hw,Ag,Pg hw,Ag,Yoc _ (JY hc hw),Ag,Wy,Ag,Yw4 _ _ _ SQ,Ag];by_cases h1:x.B5=1
 .simp[h1]
 .by_cases h2:x.B5=2<;>simp[h1,h2]
theorem Z70 (x:Zi) (hc:Yq b.Ae=true) (hw:Zo b.Ae x.Aj=true) (CO:b.m.length=b.Ae.Ab.length) (Lb:b.buckets.length=b.Ae.Ab.length) (hr:Y2 (Ak b.m x.Aj)) (SQ:CN b.Bo b.Ae=true):TS b x=some (Wz b x):=by
 obtain⟨ok,DU⟩:=Yxz hr;unfold TS Wz;rw[Wx CO hw,Ag,DU,Ag,Wy,Ag,Vd Lb hw,Ag,Pg hw,Ag,Ymc _ (JY hc hw),Ag,Wy,Ag,Yv0 _ _ _ SQ,Ag];by_cases h1:x.B5=1
 .simp[h1]
 .by_cases h2:x.B5=2<;>simp[h1,h2]
theorem Y0v {m:Zh} {k:Int} (h:Y2 m) (hq:m.queue≠[]) (h0:0<=k) (h1:k < Zy m):p7 m k=some (Pm m k):=by
 have hl:0 < m.queue.length:=Cq.2 hq;unfold p7 Pm;rw[Xu (xs:=m.queue) (by omega) (by omega),Ag];by_cases hw:(Ak m.queue 0).write=true
 .have:=Yon h h0 h1 hw
  rw[Ah hw,Ah hw,Xu this.1 this.2];rfl
 .rw[Ai hw,Ai hw]
theorem Yok {m:Zh} {k:Int} (h:Y2 m) (hq:m.queue≠[]) (h0:0<=k) (h1:k < Zy m):aM (Ak m.queue 0) k=some (Pm m k):=by
 unfold aM Pm;by_cases hw:(Ak m.queue 0).write=true
 .have:=Yon h h0 h1 hw
  rw[Ai (by simp[hw]),Ah hw,Xu this.1 this.2];rfl
 .rw[Ah (by simpa using hw),Ai hw]
theorem Pn {m:Zh} {k:Int} (h0:0<=k) (h1:k < Zy m):m.queue≠[]:=by
 intro hq;unfold Zy at h1;rw[Ah hq] at h1;omega
theorem fT {m:Zh} (hq:m.queue≠[]):idx m.queue 0=some (Ak m.queue 0):=by
 have hl:0 < m.queue.length:=Cq.2 hq;exact Xu (by omega) (by omega)
theorem Y24 (x:Zi) (hw:Zo b.Ae x.Aj=true) (CO:b.m.length=b.Ae.Ab.length) (hr:Y2 (Ak b.m x.Aj)) (hm:Ep b.model) (h0:0<=x.Ao) (h1:x.Ao < Zy (Ak b.m x.Aj)):cK b x=some (Io b x):=by
 have hq:=Pn h0 h1;unfold cK Io;rw[Wx CO hw,Ag,fT hq,Ag,SA _ hr,Ag,Y0v hr hq h0 h1,Ag,Ydu _ _ _ _ hm];rfl
theorem Yjb {m:Zh} (h:Y2 m) (hp:m.Ao - m.done≥1):((CA m).queue.length:Int) < (m.queue.length:Int)↔m.done+1=Zy m:=by
 have hq:=LM h (by omega);have hl:0 < m.queue.length:=Cq.2 hq;have hf:=Yfd h hp;by_cases e:m.done+1=Zy m
 .rw[(hf.1 e).2.1];simp[e];omega
 .rw[(hf.2 e).1];simp[e]
theorem Yyu {m:Zh} (h:Y2 m) (hp:m.Ao - m.done≥1):(CA m).done=0↔m.done+1=Zy m:=by
 have hb:=GD h;have hf:=Yfd h hp;by_cases e:m.done+1=Zy m
 .rw[(hf.1 e).2.2.2.1];simp[e]
 .rw[(hf.2 e).2.2.1];simp[e];omega
theorem Ytz (x:Zi) (h1:Zo b.Ae x.Aj=true) (CO:b.m.length=b.Ae.Ab.length) (hr:Y2 (Ak b.m x.Aj)) (hm:Ep b.model) (hp:(Ak b.m x.Aj).Ao - (Ak b.m x.Aj).done≥1) (h2:0<=x.Ao) (h3:x.Ao < Zy (Ak b.m x.Aj)) (hl:b.log.length < 1048577):qO b x=some (Nu b x):=by
 have hq:=Pn h2 h3;obtain⟨ok,he⟩:=Y2g hr;unfold qO;rw[Wx CO h1,Ag,fT hq,Ag,SA _ hr,Ag,Y24 x h1 CO hr hm h2 h3,Ag];have hJ:∀(mo:Zf) (d:Zt),cM b x {b with model:=mo} (Ak b.m x.Aj) d=some {b with model:=mo,log:=b.log++[d],m:=b.m.set x.Aj.toNat (CA (Ak b.m x.Aj)),Af:=if b.Af=x.Aj/\(Ak b.m x.Aj).done+1=Zy (Ak b.m x.Aj) then -1 else b.Af,held:=if b.Af=x.Aj/\(Ak b.m x.Aj).done+1=Zy (Ak b.m x.Aj) then 0 else b.held}:=by
  intro mo d;unfold cM qN qM cL;simp only;rw[Yr (by simp only[AP,Bf];omega) (by simp only[AP,Bf];omega),Ag,he,Ag];simp only[Ag,Wx CO h1,Wy];have hi:idx b.m x.Aj=some (Ak b.m x.Aj):=Wx CO h1;by_cases e1:b.Af=x.Aj
  .by_cases e2:(Ak b.m x.Aj).done+1=Zy (Ak b.m x.Aj)
   .have e3:=(Yjb hr hp).2 e2
    simp only[decide_eq_true e1,decide_eq_true e3,if_true,Ah (And.intro e1 e2)]
   .have e3:=mt (Yjb hr hp).1 e2
    simp only[decide_eq_true e1,decide_eq_false e3,if_true,if_false,Bp,Ai (λhx:b.Af=x.Aj/\_=>e2 hx.2)]
  .simp only[decide_eq_false e1,if_false,Bp,Ai (λhx:b.Af=x.Aj/\_=>e1 hx.1)]
 unfold Nu fI;by_cases e:x.Ar=0
 .rw[Ah (decide_eq_true e),hJ]
  simp only[Ah e]
 .rw[Ai (by simpa using e)]
  have:=hJ b.model (Zt.mk b.now x.Aj (Ak (Ak b.m x.Aj).queue 0).write (Xt (Ak b.m x.Aj) x.Ao) (Ak (Ak b.m x.Aj).queue 0).size 0 x.Ar);refine GM (b:=_) ?_ (this.trans ?_)
  .rfl
  .simp only[Ai e]
theorem Y1f (w:Zr) (h:Y6 b.now b) (hs:s.sm) (hn:b.now<=4000):qQ b s w=some ((Z2 b s).2.1,(Z2 b s).1,if b.Aa.live=true/\¬b.Aa.left > 0 then {w with Ar:=b.Aa.Ar} else w):=by
 unfold qQ Z2;by_cases hd:b.Aa.live=true
 .have Eh:¬b.Aa.live=false:=by simp[hd]
  rw[Ai (by simp[hd]),Ai Eh];have CY:=h.data;unfold K5 at CY;rw[Ah hd] at CY;have hw:=Kx h hd;have Cm:=(h.By _ hw).right;have hp:=Vf h hd;have Jy:=Ydk h hd;have Gz:=(Qd h.Ae).2.1;by_cases hl:b.Aa.left > 0
  .rw[Ah (decide_eq_true hl),Ah hl,Ai (λhx:_/\¬b.Aa.left > 0=>hx.2 hl),Xd (by omega) (by omega)]
  .rw[Ai (by simpa using hl),Ai hl,Ah (And.intro hd hl)]
   have hJf:¬(b.Aa.Ar≠0/\b.Aa.second=false)->Ux b s w false=some ((if b.Aa.Ar=2 then (Wz {b with Aa:=Zi.z0,m:=b.m.set b.Aa.Aj.toNat {Ak b.m b.Aa.Aj with tries:=(Ak b.m b.Aa.Aj).tries+1}} b.Aa,true,b.Aa.Ar)
 else if b.Aa.Ar=3 then (Wz {b with Aa:=Zi.z0,m:=b.m.set b.Aa.Aj.toNat {Ak b.m b.Aa.Aj with Ay:=true},splits:=b.splits.set b.Aa.Aj.toNat (HE b.Ae s b.Aw)} b.Aa,true,b.Aa.Ar)
 else (Nu {b with Aa:=Zi.z0} b.Aa,true,b.Aa.Ar):Za×Bool×Int).2.1,(if b.Aa.Ar=2 then (Wz {b with Aa:=Zi.z0,m:=b.m.set b.Aa.Aj.toNat {Ak b.m b.Aa.Aj with tries:=(Ak b.m b.Aa.Aj).tries+1}} b.Aa,true,b.Aa.Ar)
 else if b.Aa.Ar=3 then (Wz {b with Aa:=Zi.z0,m:=b.m.set b.Aa.Aj.toNat {Ak b.m b.Aa.Aj with Ay:=true},splits:=b.splits.set b.Aa.Aj.toNat (HE b.Ae s b.Aw)} b.Aa,true,b.Aa.Ar)
 else (Nu {b with Aa:=Zi.z0} b.Aa,true,b.Aa.Ar):Za×Bool×Int).1,{w with Ar:=b.Aa.Ar}):=by
    intro QP;have FR:=X7 hw;have CO:=h.ml;have fU:∀x:Zh,Y2 x->Y2 (Ak (b.m.set b.Aa.Aj.toNat x) b.Aa.Aj):=λx hx=>by rw[eH x FR.1 (by omega)];exact hx
    have Yp:∀x:Zh,(b.m.set b.Aa.Aj.toNat x).length=b.Ae.Ab.length:=λx=>by rw[KQ];exact CO
    unfold Ux;rw[Ai (by simp)];by_cases h2:b.Aa.Ar=2
    .have ht:=CY.2.1 h2
     have WI:=(Qd h.Ae).1;have kA:=Cm.tries;have Cw:Y2 {Ak b.m b.Aa.Aj with tries:=(Ak b.m b.Aa.Aj).tries+1}:=⟨Cm.len,by show 0<=(Ak b.m b.Aa.Aj).tries+1;omega,Cm.reqs,λhq=>absurd (show (Ak b.m b.Aa.Aj).queue=[] from hq) (Pn Jy.1 Jy.2),Cm.some⟩;simp only[decide_eq_true h2,if_true,Ah h2,Wx CO hw,Ag,Wy,Ye (a:=(Ak b.m b.Aa.Aj).tries) (b:=1) (by omega) (by omega)];rw[Z8c (b:={b with Aa:=Zi.z0,m:=b.m.set b.Aa.Aj.toNat {Ak b.m b.Aa.Aj with tries:=(Ak b.m b.Aa.Aj).tries+1}}) b.Aa h.Ae hw (Yp _) h.bl (fU _ Cw) h.Bo];rfl
    .by_cases h3:b.Aa.Ar=3
     .have fV:Y2 {Ak b.m b.Aa.Aj with Ay:=true}:=⟨Cm.len,Cm.tries,Cm.reqs,λhq=>absurd (show (Ak b.m b.Aa.Aj).queue=[] from hq) (Pn Jy.1 Jy.2),Cm.some⟩
      simp only[decide_eq_false h2,decide_eq_true h3,if_true,if_false,Bp,Ai h2,Ah h3,Wx CO hw,Ik h.sl hw,Ag,Wy,Yxk _ _ hs];rw[Z8c (b:={b with Aa:=Zi.z0,m:=b.m.set b.Aa.Aj.toNat {Ak b.m b.Aa.Aj with Ay:=true},splits:=b.splits.set b.Aa.Aj.toNat (HE b.Ae s b.Aw)}) b.Aa h.Ae hw (Yp _) h.bl (fU _ fV) h.Bo];rfl
     .simp only[decide_eq_false h2,decide_eq_false h3,if_false,Bp,Ai h2,Ai h3]
      have hlog:=uS (by omega) h.log;rw[Ytz (b:={b with Aa:=Zi.z0}) b.Aa hw CO Cm h.model hp Jy.1 Jy.2 (by show b.log.length < _;omega)];rfl
   by_cases h2:b.Aa.Ar≠0
   .rw[Ah (decide_eq_true h2)]
    by_cases h3:b.Aa.second=false
    .rw[Ah (And.intro h2 h3),h3]
     unfold Ux qP;rw[Ah (by rfl)];by_cases ha:b.addr.live=true
     .rw[Ah ha,Ah ha]
      have FT:=Hl h ha;rw[Z8c (b:={b with Aa:={b.Aa with second:=true}}) b.addr h.Ae FT h.ml h.bl (h.By _ FT).right h.Bo];rfl
     .rw[Ai ha,Ai ha]
    .have h4:b.Aa.second=true:=by simpa using h3
     rw[Ai (λhx:_/\b.Aa.second=false=>h3 hx.2),h4,D6,hJf (λhx=>h3 hx.2)]
   .rw[Ai (by simpa using h2),Ai (λhx:b.Aa.Ar≠0/\_=>h2 hx.1),hJf (λhx=>h2 hx.1)]
 .rw[Ah (by simpa using hd),Ah (by simpa using hd),Ai (λhx:b.Aa.live=true/\_=>hd hx.1)]
theorem Y0s (h:Y6 b.now b) (hs:s.sm) (hn:b.now<=4000) (hd:b.Aa.live=true) (hl:¬b.Aa.left > 0) (QP:¬(b.Aa.Ar≠0/\b.Aa.second=false)):nB b s=some (Z2 b s).1:=by
 have Eh:¬b.Aa.live=false:=by simp[hd]
 have CY:=h.data;unfold K5 at CY;rw[Ah hd] at CY;have hw:=Kx h hd;have Cm:=(h.By _ hw).right;have hp:=Vf h hd;have Jy:=Ydk h hd;have FR:=X7 hw;have CO:=h.ml;have hq:=Pn Jy.1 Jy.2;have fU:∀x:Zh,Y2 x->Y2 (Ak (b.m.set b.Aa.Aj.toNat x) b.Aa.Aj):=λx hx=>by rw[eH x FR.1 (by omega)];exact hx
 have Yp:∀x:Zh,(b.m.set b.Aa.Aj.toNat x).length=b.Ae.Ab.length:=λx=>by rw[KQ];exact CO
 unfold nB Z2;rw[Ai Eh,Ai hl,Ai QP,Wx CO hw,Ag];by_cases h2:b.Aa.Ar=2
 .have ht:=CY.2.1 h2
  have WI:=(Qd h.Ae).1;have kA:=Cm.tries;have Cw:Y2 {Ak b.m b.Aa.Aj with tries:=(Ak b.m b.Aa.Aj).tries+1}:=⟨Cm.len,by show 0<=(Ak b.m b.Aa.Aj).tries+1;omega,Cm.reqs,λhq=>absurd (show (Ak b.m b.Aa.Aj).queue=[] from hq) (Pn Jy.1 Jy.2),Cm.some⟩;simp only[decide_eq_true h2,if_true,Ah h2,Ag,Wy,Ye (a:=(Ak b.m b.Aa.Aj).tries) (b:=1) (by omega) (by omega)];rw[Z70 (b:={b with Aa:=Zi.z0,m:=b.m.set b.Aa.Aj.toNat {Ak b.m b.Aa.Aj with tries:=(Ak b.m b.Aa.Aj).tries+1}}) b.Aa h.Ae hw (Yp _) h.bl (fU _ Cw) h.Bo];rfl
 .by_cases h3:b.Aa.Ar=3
  .have fV:Y2 {Ak b.m b.Aa.Aj with Ay:=true}:=⟨Cm.len,Cm.tries,Cm.reqs,λhq=>absurd (show (Ak b.m b.Aa.Aj).queue=[] from hq) (Pn Jy.1 Jy.2),Cm.some⟩
   simp only[decide_eq_false h2,decide_eq_true h3,if_true,if_false,Bp,Ai h2,Ah h3,Ik h.sl hw,Ag,Wy,Yxt _ _ hs];rw[Z70 (b:={b with Aa:=Zi.z0,m:=b.m.set b.Aa.Aj.toNat {Ak b.m b.Aa.Aj with Ay:=true},splits:=b.splits.set b.Aa.Aj.toNat (HE b.Ae s b.Aw)}) b.Aa h.Ae hw (Yp _) h.bl (fU _ fV) h.Bo];rfl
  .have hlog:=uS (by omega) h.log
   obtain⟨ok,he⟩:=Y2i Cm;have hJ:∀(mo:Zf) (d:Zt),aS b s {b with Aa:=Zi.z0,model:=mo} (Ak b.m b.Aa.Aj) d=some {b with Aa:=Zi.z0,model:=mo,log:=b.log++[d],m:=b.m.set b.Aa.Aj.toNat (CA (Ak b.m b.Aa.Aj)),Af:=if b.Af=b.Aa.Aj/\(Ak b.m b.Aa.Aj).done+1=Zy (Ak b.m b.Aa.Aj) then -1 else b.Af,held:=if b.Af=b.Aa.Aj/\(Ak b.m b.Aa.Aj).done+1=Zy (Ak b.m b.Aa.Aj) then 0 else b.held}:=by
    intro mo d;unfold aS;simp only;rw[Yr (by simp only[AP,Bf];omega) (by simp only[AP,Bf];omega),Ag,he,Ag];simp only[Ag,Wx CO hw,Wy];by_cases e1:b.Af=b.Aa.Aj
    .by_cases e2:(Ak b.m b.Aa.Aj).done+1=Zy (Ak b.m b.Aa.Aj)
     .have e3:=(Yyu Cm hp).2 e2
      simp only[decide_eq_true e1,decide_eq_true e3,if_true,Ah (And.intro e1 e2)]
     .have e3:=mt (Yyu Cm hp).1 e2
      simp only[decide_eq_true e1,decide_eq_false e3,if_true,if_false,Bp,Ai (λhx:b.Af=b.Aa.Aj/\_=>e2 hx.2)]
    .simp only[decide_eq_false e1,if_false,Bp,Ai (λhx:b.Af=b.Aa.Aj/\_=>e1 hx.1)]
   simp only[decide_eq_false h2,decide_eq_false h3,if_false,Bp,Ai h2,Ai h3];rw[fT hq,Ag,Va _ Cm,Ag];unfold Nu fI Io;by_cases e:b.Aa.Ar=0
   .rw[Ah (decide_eq_true e),Yok Cm hq Jy.1 Jy.2,Ag,Z4w _ _ _ _ h.model,Ag,hJ]
    simp only[Ah e]
   .rw[Ai (by simpa using e)]
    have:=hJ b.model (Zt.mk b.now b.Aa.Aj (Ak (Ak b.m b.Aa.Aj).queue 0).write (Xt (Ak b.m b.Aa.Aj) b.Aa.Ao) (Ak (Ak b.m b.Aa.Aj).queue 0).size 0 b.Aa.Ar);refine GM (b:=_) ?_ (this.trans ?_)
    .rfl
    .simp only[Ai e]
end
section
variable {n:Int} {b:Za} {s:Zb}
theorem Y2s (h:Y6 n b) (hs:s.sm) (hl:b.addr.live=true):qT b s b.addr=some (Hk b s b.addr):=by
 have hw:=Hl h hl;have Cm:=(h.By _ hw).right;have Jy:=Ydq h hl;have hwt:=Yqf h.Ae s b.Aw;have SR:=(Qd h.Ae).2.1;unfold qT;rw[Wx h.ml hw,Ag,SA _ Cm,Ag,Z36,Ag];have Nt:Sg b s b.addr (Ak b.m b.addr.Aj) (Y9 (Xt (Ak b.m b.addr.Aj) b.addr.Ao)) false=some (if Gl s b.Aw=2/\Y9 (Xt (Ak b.m b.addr.Aj) b.addr.Ao)≠3/\(Ak b.m b.addr.Aj).tries < b.Ae.An then 2
  else if Gl s b.Aw=3/\Y9 (Xt (Ak b.m b.addr.Aj) b.addr.Ao)=2/\(Ak b.m b.addr.Aj).Ay=false/\b.addr.Aj≠b.Af then 3 else (Io b b.addr).2.2,if Y9 (Xt (Ak b.m b.addr.Aj) b.addr.Ao)=3 then Im b.Ae s b.Aw+2 else Im b.Ae s b.Aw):=by
  unfold Sg;rw[Ai (by simp),Y24 _ hw h.ml Cm h.model Jy.1 Jy.2,Ag,Y0q _ _ hs,Ag,Ye (by omega) (by omega)];have fG:∀(r t:Int),cN b s b.addr (Ak b.m b.addr.Aj) (Y9 (Xt (Ak b.m b.addr.Aj) b.addr.Ao)) r t=some (if Gl s b.Aw=2/\Y9 (Xt (Ak b.m b.addr.Aj) b.addr.Ao)≠3/\(Ak b.m b.addr.Aj).tries < b.Ae.An then 2
  else if Gl s b.Aw=3/\Y9 (Xt (Ak b.m b.addr.Aj) b.addr.Ao)=2/\(Ak b.m b.addr.Aj).Ay=false/\b.addr.Aj≠b.Af then 3 else r,t):=by
   intro r t;unfold cN;rw[Y1d _ hs,Ag];generalize Y9 (Xt (Ak b.m b.addr.Aj) b.addr.Ao)=sl;have SF:Jf b s b.addr (Ak b.m b.addr.Aj) sl r t (Gl s b.Aw) false=some (if Gl s b.Aw=3/\sl=2/\(Ak b.m b.addr.Aj).Ay=false/\b.addr.Aj≠b.Af then 3 else r,t):=by
    unfold Jf;rw[Ai (by simp)];by_cases e1:Gl s b.Aw=3
    .by_cases e2:sl=2
     .by_cases e3:(Ak b.m b.addr.Aj).Ay=true
      .simp[e1,e2,e3]
      .by_cases e4:b.addr.Aj=b.Af<;>simp[e1,e2,e3,e4]
     .simp[e1,e2]
    .simp[e1]
   have hJ3t:Jf b s b.addr (Ak b.m b.addr.Aj) sl r t (Gl s b.Aw) true=some (2,t):=by
    unfold Jf;rw[Ah rfl]
   by_cases e1:Gl s b.Aw=2
   .by_cases e2:sl=3
    .rw[Ah (decide_eq_true e1),Ai (by simpa using e2),SF,Ai (λhx:_/\sl≠3/\_=>hx.2.1 e2)]
    .by_cases e3:(Ak b.m b.addr.Aj).tries < b.Ae.An
     .rw[Ah (decide_eq_true e1),Ah (by simpa using e2),decide_eq_true e3,hJ3t,Ah ⟨e1,e2,e3⟩]
     .rw[Ah (decide_eq_true e1),Ah (by simpa using e2),decide_eq_false e3,SF,Ai (λhx:_/\_/\_=>e3 hx.2.2)]
   .rw[Ai (by simpa using e1),SF,Ai (λhx:_/\_/\_=>e1 hx.1)]
  by_cases e:Y9 (Xt (Ak b.m b.addr.Aj) b.addr.Ao)=3
  .rw[Ah (decide_eq_true e),fG,Ah e]
  .rw[Ai (by simpa using e),fG,Ai e]
 have fW:Sg b s b.addr (Ak b.m b.addr.Aj) (Y9 (Xt (Ak b.m b.addr.Aj) b.addr.Ao)) true=some (1,0):=by
  unfold Sg;rw[Ah rfl]
 unfold Hk;by_cases e1:(Ak b.m b.addr.Aj).broken=true
 .rw[Ah e1,fW,Ah (.inl e1)]
 .by_cases e2:Y9 (Xt (Ak b.m b.addr.Aj) b.addr.Ao)=0
  .rw[Ai e1,decide_eq_true e2,fW,Ah (.inr e2)]
  .rw[Ai e1,decide_eq_false e2,Nt,Ai (show ¬((Ak b.m b.addr.Aj).broken=true\/Y9 (Xt (Ak b.m b.addr.Aj) b.addr.Ao)=0) fromλhx=>hx.elim e1 e2)]
theorem Y2q (a:Int):Y9 a=0\/Y9 a=1\/Y9 a=2\/Y9 a=3:=by
 unfold Y9
 repeat' split
 all_goals simp
theorem Y55 (h:Y6 n b) (hs:s.sm) (hp:0<=b.Aw/\b.Aw<=4000):nE b s=some (Qm b s):=by
 unfold nE Qm;by_cases hl:b.addr.live=true
 .have hw:=Hl h hl
  have Cm:=(h.By _ hw).right;have Jy:=Ydq h hl;have hq:=Pn Jy.1 Jy.2;have hwt:=Yqf h.Ae s b.Aw;have SR:=(Qd h.Ae).2.1;have hA:=h.addr;unfold J8 at hA;rw[Ah hl] at hA;rw[Ai (by simp[hl]),Ah hl,Wx h.ml hw,Ag,fT hq,Ag,Va _ Cm,Ag,Yef,Ag,Y2r _ hs,Ag];have hsr:=Y2q (Xt (Ak b.m b.addr.Aj) b.addr.Ao);have SU:∀x:Zi,aT b s x=some {b with addr:=Zi.z0,Aa:=x,Aw:=b.Aw+1}:=by
   intro x;unfold aT;rw[Ye (by omega) (by omega)]
  unfold Hk;by_cases e1:(Ak b.m b.addr.Aj).broken=true
  .rw[Ah e1,Ah (.inl e1)]
   unfold TY TX TW TV Jp TU Ju;simp only[if_true,e1,D6,Bp,if_false,SU,Ykb]
   congr 2
   rw[hA.2.1]
  .have EF:(Ak b.m b.addr.Aj).broken=false:=by simpa using e1
   rw[Ai e1];generalize Gv:Y9 (Xt (Ak b.m b.addr.Aj) b.addr.Ao)=sl at hsr;by_cases e2:sl=0
   .rw[decide_eq_true e2,Ah (.inr e2)]
    unfold TY TX TW TV Jp TU Ju;have f1:¬sl=3:=by omega
    have f2:¬sl=1:=by omega
    have f3:¬sl=2:=by omega
    simp only[if_true,EF,f1,f2,f3,decide_false,Ga,Bp,if_false,SU,Ykb]
    congr 2
    rw[hA.2.1]
   .rw[decide_eq_false e2,Ai (λhx=>hx.elim e1 e2)]
    unfold TY;rw[Ai (by simp),Y0g _ _ hs,Ag,Yok Cm hq Jy.1 Jy.2,Ag,Z4w _ _ _ _ h.model,Ag];have Vg:Q9 b.model (Ak (Ak b.m b.addr.Aj).queue 0).write (Xt (Ak b.m b.addr.Aj) b.addr.Ao) (Ak (Ak b.m b.addr.Aj).queue 0).size (Pm (Ak b.m b.addr.Aj) b.addr.Ao)=Io b b.addr:=rfl;rw[Vg];unfold TX TW TV Jp TU Ju;simp only[EF,Ga,if_true,SU,Ye (a:=Im b.Ae s b.Aw) (b:=2) (by omega) (by omega)];generalize Gl s b.Aw=sd;by_cases g1:sl=3
    .subst g1
     by_cases g2:sd=2
     .subst g2;simp
     .by_cases g3:sd=3
      .subst g3;simp
      .simp[g2,g3]
    .by_cases g4:sl=2
     .subst g4
      by_cases g2:sd=2
      .subst g2
       by_cases g5:(Ak b.m b.addr.Aj).tries < b.Ae.An<;>simp[g5]
      .by_cases g3:sd=3
       .subst g3
        by_cases g5:(Ak b.m b.addr.Aj).Ay=true
        .simp[g5]
        .by_cases g6:b.addr.Aj=b.Af
         .simp[g5,g6]
         .have g7:¬b.Af=b.addr.Aj:=λe=>g6 e.symm
          simp[g5,g6,g7]
       .simp[g2,g3]
     .have g8:sl=1:=by omega
      subst g8;by_cases g2:sd=2
      .subst g2
       by_cases g5:(Ak b.m b.addr.Aj).tries < b.Ae.An<;>simp[g5]
      .by_cases g3:sd=3
       .subst g3;simp
       .simp[g2,g3]
 .rw[Ah (by simpa using hl),Ai hl]
  have hA:=h.addr;unfold J8 at hA;rw[Ai hl] at hA;rw[<-hA]
theorem Ym9 (b:Za) (k:Nat):((List.range (k+1)).map λj:Nat=>Jm b (j:Int))=((List.range k).map λj:Nat=>Jm b (j:Int))++[Jm b (k:Int)]:=by
 rw[List.range_succ,Gt];rfl
theorem uT (h:Y6 n b):b.Af=-1\/Zo b.Ae b.Af=true:=by
 by_cases e:b.Af=-1
 .exact .inl e
 .exact .inr (HF h e).1
theorem Xal (h:Y6 n b):rA b=some ((Kq b).1,(Kq b).2.1,(Kq b).2.2):=by
 have Yp:=Km h.Ae;have CO:=h.ml;have M9:cQ b FU (Kt b) ((Kt b).length:Int) 0=some (match (List.range b.m.length).find? (E4 b) with
  | some k=>((k:Int),1,{b with buckets:=b.buckets.set k (FO (Ak b.buckets (k:Int)) (Ak b.Ae.Ab (k:Int))).1})
  | none=>if b.Af≠-1 then (-1,0,b) else ((FP b.Bo b.Ae (Kt b)).2,2,{b with Bo:=(FP b.Bo b.Ae (Kt b)).1})):=by
  rw[Nw];have key:∀(r m k:Nat),r < m->k+r=b.m.length->(∀j,j < k->E4 b j=false)->cQ b m (Kt b) (b.m.length:Int) (k:Int)=some (match (List.range' k r).find? (E4 b) with
  | some k=>((k:Int),1,{b with buckets:=b.buckets.set k (FO (Ak b.buckets (k:Int)) (Ak b.Ae.Ab (k:Int))).1})
  | none=>if b.Af≠-1 then (-1,0,b) else ((FP b.Bo b.Ae (Kt b)).2,2,{b with Bo:=(FP b.Bo b.Ae (Kt b)).1})):=by
   intro r
   induction r with
   | zero=>
    intro m k hm hk _;obtain⟨m,rfl⟩:∃m',m=m'+1:=⟨m - 1,by omega⟩;show cP b _ (Kt b) (b.m.length:Int) (k:Int)=_;unfold cP;rw[Ai (by simp;omega),Yv5 _ _ _ h.Bo (by rw[Nw,CO]),Ag];by_cases e:b.Af=-1
    .simp[e]
    .simp[e]
   | succ r ih=>
    intro m k hm hk hj;obtain⟨m,rfl⟩:∃m',m=m'+1:=⟨m - 1,by omega⟩;show cP b _ (Kt b) (b.m.length:Int) (k:Int)=_;have Df:=Gk (c:=b.Ae) (k:=k) (by omega);unfold cP;have hix:idx (Kt b) (k:Int)=some (Jm b (k:Int)):=by
     rw[Xu (by omega) (by rw[Nw];omega),fP h Df]
    rw[Ah (by simp;omega),hix,Ag,Vd h.bl Df,Ag,Pg Df,Ag,Yn2 _ (JY h.Ae Df),Ag,Wy,Ag,vV,List.find?_cons];by_cases e1:Jm b (k:Int)=true
    .by_cases e2:(FO (Ak b.buckets (k:Int)) (Ak b.Ae.Ab (k:Int))).2=true
     .have e3:E4 b k=true:=by simp[E4,e1,e2]
      rw[e1,Ai (by simp),Ah e2,e3];rfl
     .have e3:E4 b k=false:=by simp[E4,e1,e2]
      rw[e1,Ai (by simp),Ai e2,e3,Z8 (by omega)];exact ih m (k+1) (by omega) (by omega) (λj hj2=>by
       by_cases eX:j=k
       .subst eX;exact e3
       .exact hj j (by omega))
    .have e3:E4 b k=false:=by simp[E4,e1]
     have e4:Jm b (k:Int)=false:=by simpa using e1
     rw[e4,Ah (by simp),e3,Z8 (by omega)];exact ih m (k+1) (by omega) (by omega) (λj hj2=>by
       by_cases eX:j=k
       .subst eX;exact e3
       .exact hj j (by omega))
  have:=key b.m.length FU 0 (by have:=Yx;omega) (by omega) (λj hj=>by omega);rw[vK];simpa using this
 unfold rA;refine Jh (σ:=List Bool) (n:=b.m.length) (by omega) (λk=>(List.range k).map λj:Nat=>Jm b (j:Int)) (B:=q7 b) (L:=q8 b) (λm s i=>rfl) (λk hk κ=>?_) λκ=>?_
 .have Df:=Gk (c:=b.Ae) (k:=k) (by omega)
  unfold q7;have Xdj:∀x:Bool,Y4 1 ((List.range k).map λj:Nat=>Jm b (j:Int)) [x]=some (((List.range k).map λj:Nat=>Jm b (j:Int))++[x]):=λx=>Yr (by simp;omega) (by simp;omega);rw[Ah (by simpa using hk),Wx CO Df,Ag,Ycx (h.By _ Df).right,Ag,Ik h.sl Df,Ag,Ym9];simp only[Xdj,Ag];unfold Jm;by_cases e1:LL (Ak b.m (k:Int))=true
  .by_cases e2:Ak b.splits (k:Int)=0
   .by_cases e3:b.Af=-1
    .simp[e1,e2,e3]
    .simp[e1,e2,e3]
   .simp[e1,e2]
  .simp[e1]
 .unfold q7 q6
  rw[Ai (by simp)];show (if decide (b.Af≠-1)=true then (idx (Kt b) b.Af).bind _ else _)=_;unfold Kq;by_cases e:b.Af=-1
  .rw[Ai (by simpa using e),Ai (by simp),Ai (λhx:b.Af≠-1/\_=>hx.1 e)]
   exact M9
  .have hw:=(HF h e).1
   have FR:=X7 hw;rw[Ah (by simpa using e),Xu FR.1 (by rw[Nw];omega),Ag,fP h hw];by_cases e2:Jm b b.Af=true
   .rw[Ah e2,Ah ⟨e,e2⟩]
   .rw[Ai e2,Ai (λhx:_/\Jm b b.Af=true=>e2 hx.2)]
    exact M9
theorem Xd0 {b:Za} {i:Int} (hr:Y2 (Ak b.m i)) (h:Jm b i=true):(Ak b.m i).queue≠[]:=by
 have:=(Yau h).1;have:=GD hr;intro hq;unfold Zy at*;rw[Ah hq] at*;omega
theorem Xah (x0:Za) (h:Y6 n b) {Aj B5:Int} (hw:Zo b.Ae Aj=true):((idx b.m Aj).bind λKG=>
  if decide (KG.Ao=0)=true then Sh x0 {b with addr:=(Zi.mk true Aj KG.Ao true B5 0 0 false)} KG Aj
  else Sh x0 {b with addr:=(Zi.mk true Aj KG.Ao (decide (b.last≠Aj)) B5 0 0 false)} KG Aj)=some (Aj,SN b Aj B5):=by
 obtain⟨ok,hi⟩:=Yun (h.By _ hw).right;rw[Wx h.ml hw,Ag];have hJ:∀f:Bool,Sh x0 {b with addr:=(Zi.mk true Aj (Ak b.m Aj).Ao f B5 0 0 false)} (Ak b.m Aj) Aj=some (Aj,{b with addr:=Zi.mk true Aj (Ak b.m Aj).Ao f B5 0 0 false,Af:=if Yu (Ak b.m Aj)=true/\b.Af=-1 then Aj else b.Af,held:=if Yu (Ak b.m Aj)=true/\b.Af=-1 then 0 else b.held,m:=b.m.set Aj.toNat (Wp (Ak b.m Aj)),last:=Aj}):=by
  intro f;unfold Sh rE rD;simp only[Ybd,Ag,hi,Wx h.ml hw,Wy];by_cases e1:Yu (Ak b.m Aj)=true
  .by_cases e2:b.Af=-1
   .simp only[e1,if_true,decide_eq_true e2,true_and,Ah e2]
   .simp only[e1,if_true,decide_eq_false e2,Bp,if_false,true_and,Ai e2]
  .simp only[e1,if_false,Bp,false_and]
 unfold SN;by_cases e:(Ak b.m Aj).Ao=0
 .rw[Ah (decide_eq_true e),hJ,decide_eq_true e];rfl
 .rw[Ai (by simpa using e),hJ,decide_eq_false e,VB]
end
section
variable {n:Int} {b:Za} {s:Zb}
theorem Y6h (h:Y6 n b):rF b=some ((J6 b).1,(J6 b).2):=by
 have hp:=Vi h;unfold rF J6;rw[Xal h,Ag];by_cases e:(Kq b).1 < 0
 .rw[Ah (decide_eq_true e),Ah e]
 .rw[Ai (by simpa using e),Ai e]
  rcases hp.Aj with h1|h1
  .exact absurd (show (Kq b).1 < 0 by rw[h1];decide) e
  .exact Xah b hp.ok (by rw[hp.Ae];exact h1.1)
theorem Xbr {c:Zk} {m:Zd} (h:Y5 c m=true):(FO c m).2=decide (c.tokens > 0):=by
 unfold FO;by_cases hp:m.prio=true
 .have h2:=h
  unfold Y5 at h2;rw[Ah hp] at h2;simp only[Bh,Bl] at h2;by_cases e:c.tokens=0
  .simp[hp,h,e]
  .have:c.tokens > 0:=by omega
   simp[hp,h,e,this]
 .have h2:=h
  unfold Y5 at h2;rw[Ai hp] at h2;simp only[Bh,Bl] at h2;simp[hp,h2.1]
theorem Ygi (x0:Za) (h:Y6 n b) {Aj B5:Int} (hw:Zo b.Ae Aj=true) (Y7y:Jm b Aj=true):O4 x0 b (Zi.mk false Aj 0 false B5 0 0 false)=some (SN b Aj B5):=by
 obtain⟨ok,hi⟩:=Yub (h.By _ hw).right;have hq:=Xd0 (h.By _ hw).right Y7y;have FR:=X7 hw;unfold O4;simp only;rw[Ai (by simp;omega),Wx h.ml hw,Ag];have hh:=uT h;have Ya:b.Af < 0↔b.Af=-1:=by
  rcases hh with hh|hh
  .omega
  .have:=X7 hh;omega
 have hJ:∀f:Bool,aX x0 b (Zi.mk true Aj (Ak b.m Aj).Ao f B5 0 0 false) (Ak b.m Aj)=some {b with addr:=Zi.mk true Aj (Ak b.m Aj).Ao f B5 0 0 false,Af:=if Yu (Ak b.m Aj)=true/\b.Af=-1 then Aj else b.Af,held:=if Yu (Ak b.m Aj)=true/\b.Af=-1 then 0 else b.held,m:=b.m.set Aj.toNat (Wp (Ak b.m Aj)),last:=Aj}:=by
  intro f;unfold aX aW nN;simp only[fT hq,Ag,hi,Wx h.ml hw,Wy];unfold Yu;by_cases e1:(Ak (Ak b.m Aj).queue 0).lock=true
  .by_cases e2:(Ak b.m Aj).broken=true
   .simp[e1,e2]
   .by_cases e3:b.Af=-1
    .have e4:=Ya.2 e3
     simp[e1,e2,e3,hq]
    .have e4:=mt Ya.1 e3
     simp[e1,e2,e3,e4]
  .simp[e1]
 unfold SN;by_cases e:(Ak b.m Aj).Ao=0
 .rw[Ah (decide_eq_true e),hJ,decide_eq_true e];rfl
 .rw[Ai (by simpa using e),hJ,decide_eq_false e,VB]
theorem Yh6 (x0:Za) (c:Za) (B5:Int):O4 x0 c (Zi.mk false (-1) 0 false B5 0 0 false)=some c:=by
 unfold O4;rw[Ah (by simp)]
theorem Y5u (h:Y6 n b):nS b=some (J6 b).2:=by
 have Yp:=Km h.Ae;have CO:=h.ml;have hh:=uT h;have Ya:b.Af < 0↔b.Af=-1:=by
  rcases hh with hh|hh
  .omega
  .have:=X7 hh;omega
 have hp:=Vi h;have Lq:∀(m:Nat) (c:Za) (Aj B5:Int) (k:Nat),0<=Aj->RB b (m+1) c (Zi.mk false Aj 0 false B5 0 0 false) (Kt b) (k:Int)=O4 b c (Zi.mk false Aj 0 false B5 0 0 false):=by
  intro m c Aj B5 k hwho;have hn:¬Aj < 0:=by omega
  show RA b _ c _ _ _=_;unfold RA Ua aY;simp only[decide_eq_false hn,Bp,if_false,Ykb]
 have M9:(¬(b.Af≠-1/\Jm b b.Af=true))->RB b FU b (Zi.mk false (-1) 0 false 0 0 0 false) (Kt b) 0=some (J6 b).2:=by
  intro VP;have key:∀(r m k:Nat),r+1 < m->k+r=b.m.length->(List.range b.m.length).find? (E4 b)=(List.range' k r).find? (E4 b)->RB b m b (Zi.mk false (-1) 0 false 0 0 0 false) (Kt b) (k:Int)=some (J6 b).2:=by
   intro r
   induction r with
   | zero=>
    intro m k hm hk Nx;obtain⟨m,rfl⟩:∃m',m=m'+1:=⟨m - 1,by omega⟩;show RA b _ b _ (Kt b) (k:Int)=_;unfold RA Ua aY;have hf:(List.range b.m.length).find? (E4 b)=none:=by rw[Nx];rfl
    rw[Ai (by simp;omega),Ai (by simp),Ah (by simp)];have KH:Kq b=if b.Af≠-1 then (-1,0,b) else ((FP b.Bo b.Ae (Kt b)).2,2,{b with Bo:=(FP b.Bo b.Ae (Kt b)).1}):=by
     unfold Kq;rw[Ai VP,hf]
    by_cases e:b.Af=-1
    .rw[decide_eq_true (Ya.2 e),Ah rfl,Yvn _ _ _ h.Bo (by rw[Nw,CO]),Ag]
     rw[Ai (by simpa using e)] at KH;have hw:=hp.Aj;have Yl:=hp.ok;unfold J6;rw[KH] at hw Yl ⊢;simp only at hw Yl ⊢;rcases hw with hw|hw
     .rw[hw,Yh6,Ah (by decide)]
     .have FR:=X7 hw.1
      rw[Ai (by omega)];exact Ygi b Yl hw.1 hw.2.1
    .rw[decide_eq_false (mt Ya.1 e),Ai (by simp),Yh6]
     rw[Ah e] at KH;unfold J6;rw[KH,Ah (show (-1:Int) < 0 by decide)]
   | succ r ih=>
    intro m k hm hk Nx;obtain⟨m,rfl⟩:∃m',m=m'+1:=⟨m - 1,by omega⟩;show RA b _ b _ (Kt b) (k:Int)=_;have Df:=Gk (c:=b.Ae) (k:=k) (by omega);have hix:idx (Kt b) (k:Int)=some (Jm b (k:Int)):=by
     rw[Xu (by omega) (by rw[Nw];omega),fP h Df]
    rw[vV,List.find?_cons] at Nx;unfold RA Ua nM;rw[Ah (by simp;omega),Ah (by simp),hix,Ag,Vd h.bl Df,Ag,Ag,Pg Df,Ag,Yml _ (JY h.Ae Df),Ag,Wy,Ag,Z8 (by omega),<-Xbr (h.By _ Df).bucket];by_cases e1:Jm b (k:Int)=true
    .by_cases e2:(FO (Ak b.buckets (k:Int)) (Ak b.Ae.Ab (k:Int))).2=true
     .have e3:E4 b k=true:=by simp[E4,e1,e2]
      rw[e3] at Nx;have KH:Kq b=((k:Int),1,{b with buckets:=b.buckets.set k (FO (Ak b.buckets (k:Int)) (Ak b.Ae.Ab (k:Int))).1}):=by
       unfold Kq;rw[Ai VP,Nx]
      rw[Ah e1,Ah e2];obtain⟨m,rfl⟩:∃m',m=m'+1:=⟨m - 1,by omega⟩;rw[Lq m _ _ _ _ (by omega)];have hw:=hp.Aj;have Yl:=hp.ok;unfold J6;rw[KH] at hw Yl ⊢;simp only at hw Yl ⊢;rcases hw with hw|hw
      .omega
      .rw[Ai (by omega)]
       exact Ygi b Yl hw.1 hw.2.1
     .have e3:E4 b k=false:=by simp[E4,e1,e2]
      rw[e3] at Nx;rw[Ah e1,Ai e2];exact ih m (k+1) (by omega) (by omega) Nx
    .have e3:E4 b k=false:=by simp[E4,e1]
     rw[e3] at Nx;rw[Ai e1,Ai (by simp)];exact ih m (k+1) (by omega) (by omega) Nx
  have:=key b.m.length FU 0 (by have:=Yx;omega) (by omega) (by rw[vK]);simpa using this
 unfold nS;refine Jh (σ:=List Bool) (n:=b.m.length) (by omega) (λk=>(List.range k).map λj:Nat=>Jm b (j:Int)) (B:=nQ b) (L:=nR b) (λm s i=>rfl) (λk hk κ=>?_) λκ=>?_
 .have Df:=Gk (c:=b.Ae) (k:=k) (by omega)
  unfold nQ;have Xdj:∀x:Bool,Y4 1 ((List.range k).map λj:Nat=>Jm b (j:Int)) [x]=some (((List.range k).map λj:Nat=>Jm b (j:Int))++[x]):=λx=>Yr (by simp;omega) (by simp;omega);rw[Ah (by simpa using hk),Wx CO Df,Ag,Ycp (h.By _ Df).right,Ag,Ik h.sl Df,Ag,Ym9];simp only[Xdj,Ag];unfold Jm;by_cases e1:LL (Ak b.m (k:Int))=true
  .by_cases e2:Ak b.splits (k:Int)=0
   .by_cases e3:b.Af=-1
    .simp[e1,e2,e3]
    .have e4:=mt Ya.1 e3
     simp only[e1,e2,e3,e4,decide_true,decide_false,if_true,Bp,if_false,Hs,VB]
   .simp[e1,e2]
  .simp[e1]
 .unfold nQ nP nO
  rw[Ai (by simp)];show (if decide (b.Af≥0)=true then (idx (Kt b) b.Af).bind _ else _)=_;by_cases e:b.Af=-1
  .rw[Ai (by simp;omega),Ai (by simp)]
   exact M9 λhx=>hx.1 e
  .have hw:=(HF h e).1
   have FR:=X7 hw;rw[Ah (by simpa using FR.1),Xu FR.1 (by rw[Nw];omega),Ag,fP h hw];by_cases e2:Jm b b.Af=true
   .have KH:Kq b=(b.Af,3,b):=by
     unfold Kq;rw[Ah ⟨e,e2⟩]
    rw[Ah e2];have hfu:FU=(FU - 1)+1:=by decide
    show RB b FU b (Zi.mk false b.Af 0 false 3 0 0 false) (Kt b) ((0:Nat):Int)=_;rw[hfu,Lq _ _ _ _ _ FR.1];unfold J6;rw[KH,Ai (by simp;omega)];exact Ygi b h hw e2
   .rw[Ai e2]
    exact M9 λhx=>e2 hx.2
theorem Y3c {α:Type} {X Y:List α} (hl:X.length=Y.length) {k:Nat} (hk:k < Y.length):idx (X.take k++Y.drop k) (k:Int)=some Y[k]/\(X.take k++Y.drop k).set k (X[k]'(by omega))=X.take (k+1)++Y.drop (k+1):=by
 have h1:(X.take k).length=k:=by rw[Ey];omega
 constructor
 .rw[Zx (by simp;omega)]
  simp[List.getElem_append_right,h1]
 .rw[List.set_append_right _ _ (by omega),h1,VC,DG hk,List.set_cons_zero,List.take_succ_eq_append_getElem (show k < X.length by omega),List.append_assoc]
  rfl
def Hm (c:Za) (k:Nat):Za:={c with splits:=(Xo c).splits.take k++c.splits.drop k,buckets:=(Xo c).buckets.take k++c.buckets.drop k}
theorem Y3d (c:Za):Hm c 0=c:=by simp[Hm]
theorem Yr8 (h:Y6 n b):Hm b b.Ae.Ab.length=Xo b:=by
 have h1:=h.sl;have h2:=h.bl;unfold Hm Xo;simp only;rw[DH (by simp;omega),Vz (by omega),DH (by simp;omega),Vz (by omega),FZ,FZ]
theorem Ymj (h:Y6 n b) {k:Nat} (hk:k < b.Ae.Ab.length):idx (Hm b k).splits (k:Int)=some (Ak b.splits (k:Int))/\(Hm b k).splits.set k (max (Ak b.splits (k:Int) - 1) 0)=(Hm b (k+1)).splits/\
  idx (Hm b k).buckets (k:Int)=some (Ak b.buckets (k:Int))/\(Hm b k).buckets.set k (JZ (Ak b.buckets (k:Int)) (Ak b.Ae.Ab (k:Int)))=(Hm b (k+1)).buckets:=by
 have h1:=h.sl;have h2:=h.bl;have m1:=Y3c (X:=(Xo b).splits) (Y:=b.splits) (by simp[Xo]) (k:=k) (by omega);have m2:=Y3c (X:=(Xo b).buckets) (Y:=b.buckets) (by simp[Xo];omega) (k:=k) (by omega);rw[Qp (by omega),Qp (by omega),Qp hk];refine⟨m1.1,?_,m2.1,?_⟩
 .have:=m1.2
  simp only[Xo,iL] at this;exact this
 .have:=m2.2
  simp only[Xo,List.getElem_zipWith] at this;exact this
end
section
variable {n:Int} {b:Za} {s:Zb}
theorem Yi2 (h:Y6 n b) (s:Zb) (hd:b.Aa=Zi.z0):Y6 n (Yy b)/\Y6 n (Qm (Yy b) s):=⟨uH h,(uJ (uH h) s (by rw[(fO b).1];exact hd)).1⟩
theorem Yv6 (x0:Za) (w:Zr) (h:Y6 n b) (hs:s.sm) (hd:b.Aa=Zi.z0) (hp:0<=b.Aw/\b.Aw<=4000) (hn:0<=b.now/\b.now<=4000):(if decide (b.Af≠(-1))=true then OK x0 s b w (decide (b.held=b.Ae.Al)) else OK x0 s b w false)=some ({w with C5:=(Xy b s).1},{(Xy b s).2 with now:=b.now+1}):=by
 obtain⟨h1,h2⟩:=Yi2 h s hd;have e1:=fO b;have SV:∀(c:Za) (w:Zr),Y6 n c->c.now=b.now->cS x0 s c w=some ({w with C5:=(J6 c).1},{(J6 c).2 with now:=b.now+1}):=by
  intro c w hc hcn;unfold cS cR;rw[Y6h hc,Ag];simp only;rw[(Ya6 hc).1,hcn,Ye (by omega) (by omega)]
 have SU:∀w:Zr,Uz x0 s (Yy b) w=some ({w with C5:=(Xy b s).1},{(Xy b s).2 with now:=b.now+1}):=by
  intro w;unfold Uz Xy;have e2:=uK (Yy b) s;by_cases hl:(Yy b).addr.live=true
  .rw[Ah hl,Y2s h1 hs hl,Ag,Ye (by rw[e1.2.2.1];omega) (by rw[e1.2.2.1];omega)]
   have hb:Qm (Yy b) s={Yy b with addr:=Zi.z0,Aa:={(Yy b).addr with left:=(Hk (Yy b) s (Yy b).addr).2,Ar:=(Hk (Yy b) s (Yy b).addr).1},Aw:=(Yy b).Aw+1}:=by
    unfold Qm;rw[Ah hl]
   rw[<-hb];exact SV _ _ h2 (by rw[e2.1,e1.2.2.2.1])
  .rw[Ai hl]
   have hb:Qm (Yy b) s=Yy b:=by
    unfold Qm;rw[Ai hl]
   rw[hb];exact SV _ _ h1 e1.2.2.2.1
 have fA:OK x0 s b w false=Uz x0 s b w:=by unfold OK;rw[Ai (by simp)]
 by_cases e:b.Af=-1
 .have hb:Yy b=b:=by unfold Yy;rw[Ai (λhx:b.Af≠-1/\b.held=b.Ae.Al=>hx.1 e)]
  rw[Ai (by simpa using e),fA];have:=SU w
  rwa [hb] at this
 .rw[Ah (by simpa using e)]
  by_cases e2:b.held=b.Ae.Al
  .have hb:Yy b=Y4y {b with m:=b.m.set b.Af.toNat {Ak b.m b.Af with broken:=true}}:=by unfold Yy;rw[Ah ⟨e,e2⟩]
   unfold OK cL;rw[decide_eq_true e2,Ah rfl,Wx h.ml (HF h e).1,Ag,Wy,Ag,Ag];have:=SU w;rw[hb] at this;exact this
  .have hb:Yy b=b:=by unfold Yy;rw[Ai (λhx:b.Af≠-1/\b.held=b.Ae.Al=>e2 hx.2)]
   rw[decide_eq_false e2,fA];have:=SU w
   rwa [hb] at this
theorem Yvq (x0:Za) (w:Zr) (h:Y6 n b) (hs:s.sm) (hd:b.Aa=Zi.z0) (hp:0<=b.Aw/\b.Aw<=4000) (hn:0<=b.now/\b.now<=4000) (hg:w.C5=-1):(if decide (b.Af≥0)=true then O5 x0 s b w (decide (b.held≥b.Ae.Al)) else O5 x0 s b w false)=some ({(Xy b s).2 with now:=b.now+1},{w with C5:=(Xy b s).1}):=by
 obtain⟨h1,h2⟩:=Yi2 h s hd;have e1:=fO b;have e2:=uK (Yy b) s;have hz:=(uJ h1 s (by rw[e1.1];exact hd)).2;have SV:Uc x0 s (Yy b) w=some ({(Xy b s).2 with now:=b.now+1},{w with C5:=(Xy b s).1}):=by
  unfold Uc Ub Xy;have IH:=Y5u h2;have hgd:=(Ya6 h2).1;rw[Y55 h1 hs (by rw[e1.2.2.1];exact hp),Ag,IH,Ag];have KH:=Vi h2;rw[hgd,e2.1,e1.2.2.2.1,Ye (by omega) (by omega)];unfold J6;rcases KH.Aj with hw|hw
  .rw[Ah (show (Kq (Qm (Yy b) s)).1 < 0 by rw[hw];decide)]
   have:(Kq (Qm (Yy b) s)).2.2.addr.live=false:=by rw[KH.addr,hz]
   rw[Ai (by simp[this])];rw[show (-1,(Kq (Qm (Yy b) s)).2.2).1=w.C5 from hg.symm]
  .have FR:=X7 hw.1
   rw[Ai (show ¬(Kq (Qm (Yy b) s)).1 < 0 by omega),Ah (by rfl)];rfl
 have hh:=uT h;have Ya:b.Af≥0↔b.Af≠-1:=by
  rcases hh with hh|hh
  .omega
  .have:=X7 hh;omega
 have hJ7:O5 x0 s b w false=Uc x0 s b w:=by unfold O5;rw[Ai (by simp)]
 by_cases e:b.Af=-1
 .have hb:Yy b=b:=by unfold Yy;rw[Ai (λhx:b.Af≠-1/\b.held=b.Ae.Al=>hx.1 e)]
  rw[Ai (by simp;omega),hJ7]
  rwa [hb] at SV
 .rw[Ah (by simpa using Ya.2 e)]
  have hhe:=(HF h e).2.2.2;by_cases e2:b.held=b.Ae.Al
  .have hb:Yy b=Y4y {b with m:=b.m.set b.Af.toNat {Ak b.m b.Af with broken:=true}}:=by unfold Yy;rw[Ah ⟨e,e2⟩]
   unfold O5;rw[decide_eq_true (show b.held≥b.Ae.Al by omega),Ah rfl,Wx h.ml (HF h e).1,Ag,Wy,Ag];rw[hb] at SV;exact SV
  .have hb:Yy b=b:=by unfold Yy;rw[Ai (λhx:b.Af≠-1/\b.held=b.Ae.Al=>e2 hx.2)]
   rw[decide_eq_false (show ¬b.held≥b.Ae.Al by omega),hJ7]
   rwa [hb] at SV
theorem Xd9 (x0:Za) (w:Zr) (h:Y6 b.now b) (hs:s.sm) (hw:w.ready=true) (hg:w.Ar=0) (hp:0<=b.Aw/\b.Aw<=4000) (hn:0<=b.now/\b.now < 4000):
  OL x0 s b w=some (if (Z2 b s).2.1=true then ({w with Ar:=(Z2 b s).2.2,C5:=(Xy (Z2 b s).1 s).1},{(Xy (Z2 b s).1 s).2 with now:=b.now+1}) else ({w with ready:=false,Ar:=(Z2 b s).2.2},{(Z2 b s).1 with now:=b.now+1})):=by
 have hf:=uG s hn.1 h;have CU:=Yb9 b s;obtain⟨w1,w2,w3,w4,w5,w6,rdy,rsp,w9⟩:=w;simp only at hw hg;subst hw;subst hg;unfold OL;rw[Y1f (Zr.mk w1 w2 w3 w4 w5 w6 true 0 w9) h hs (by omega),Ag];simp only;have fX:(if b.Aa.live=true/\¬b.Aa.left > 0 then Zr.mk w1 w2 w3 w4 w5 w6 true b.Aa.Ar w9 else Zr.mk w1 w2 w3 w4 w5 w6 true 0 w9)=Zr.mk w1 w2 w3 w4 w5 w6 true (Z2 b s).2.2 w9:=by
  unfold Z2;by_cases hd:b.Aa.live=true
  .by_cases hl:b.Aa.left > 0
   .rw[Ai (λhx:b.Aa.live=true/\¬b.Aa.left > 0=>hx.2 hl),Ai (by simp[hd]),Ah hl]
   .rw[Ah ⟨hd,hl⟩,Ai (by simp[hd]),Ai hl]
    congr 1
    split
    .rfl
    .split
     .rfl
     .split<;>rfl
  .rw[Ai (λhx:b.Aa.live=true/\¬b.Aa.left > 0=>hd hx.1),Ah (by simpa using hd)]
 rw[fX];by_cases hr:(Z2 b s).2.1=true
 .rw[Ah hr,Ah hr]
  simp only[hr];have:=Yv6 x0 (Zr.mk w1 w2 w3 w4 w5 w6 true (Z2 b s).2.2 w9) hf.1 hs (hf.2 hr) (by rw[CU.2.1];exact hp) (by rw[CU.1];omega);rw[CU.1] at this;exact this
 .rw[Ai hr,Ai hr]
  unfold cR;have Cw:(Z2 b s).2.1=false:=by simpa using hr
  rw[Cw,CU.1,Ye (by omega) (by omega)]
theorem Xe7 (x0:Za) (w:Zr) (h:Y6 b.now b) (hs:s.sm) (hw:w.ready=true) (hg:w.Ar=0) (fY:w.C5=-1) (hp:0<=b.Aw/\b.Aw<=4000) (hn:0<=b.now/\b.now < 4000):
  O7 x0 s b w=some (if (Z2 b s).2.1=true then ({(Xy (Z2 b s).1 s).2 with now:=b.now+1},{w with Ar:=(Z2 b s).2.2,C5:=(Xy (Z2 b s).1 s).1}) else ({(Z2 b s).1 with now:=b.now+1},{w with ready:=false,Ar:=(Z2 b s).2.2})):=by
 have hf:=uG s hn.1 h;have CU:=Yb9 b s;have Gz:=(Qd h.Ae).2.1;obtain⟨w1,w2,w3,w4,w5,w6,rdy,rsp,w9⟩:=w;simp only at hw hg fY;subst hw;subst hg;subst fY;have hT:∀w2:Zr,w2.ready=true->w2.C5=-1->(Z2 b s).2.1=true->K8 x0 s (Z2 b s).1 w2=some ({(Xy (Z2 b s).1 s).2 with now:=b.now+1},{w2 with C5:=(Xy (Z2 b s).1 s).1}):=by
  intro w2 h1 h2 hr;unfold K8;rw[Ah h1];have:=Yvq x0 w2 hf.1 hs (hf.2 hr) (by rw[CU.2.1];exact hp) (by rw[CU.1];omega) h2;rw[CU.1] at this;exact this
 have hF:∀(c:Za) (w2:Zr),w2.ready=false->c.now=b.now->K8 x0 s c w2=some ({c with now:=b.now+1},w2):=by
  intro c w2 h1 h2;unfold K8 Ub;rw[Ai (by simp[h1]),h2,Ye (by omega) (by omega)]
 unfold O7 nT;by_cases hd:b.Aa.live=true
 .have CY:=h.data
  unfold K5 at CY;rw[Ah hd] at CY;rw[Ah hd];by_cases hl:b.Aa.left > 0
  .have e:Z2 b s=({b with Aa:={b.Aa with left:=b.Aa.left - 1}},false,0):=by
    unfold Z2;rw[Ai (by simp[hd]),Ah hl]
   rw[decide_eq_true hl,Ah rfl,Xd (by omega) (by omega),hF {b with Aa:={b.Aa with left:=b.Aa.left - 1}} (Zr.mk w1 w2 w3 w4 w5 w6 false 0 (-1)) rfl rfl,e,Ai (by simp)]
  .rw[decide_eq_false hl,Ai (by simp),Ah hd]
   have Y7x:¬(b.Aa.Ar≠0/\b.Aa.second=false)->O6 x0 s b (Zr.mk w1 w2 w3 w4 w5 w6 true 0 (-1)) false=some (if (Z2 b s).2.1=true then ({(Xy (Z2 b s).1 s).2 with now:=b.now+1},Zr.mk w1 w2 w3 w4 w5 w6 true (Z2 b s).2.2 (Xy (Z2 b s).1 s).1) else ({(Z2 b s).1 with now:=b.now+1},Zr.mk w1 w2 w3 w4 w5 w6 false (Z2 b s).2.2 (-1))):=by
    intro QP;unfold O6;rw[Ai (by simp),Ah hd,Y0s h hs (by omega) hd hl QP,Ag];have hr:(Z2 b s).2.1=true/\(Z2 b s).2.2=b.Aa.Ar:=by
     unfold Z2;rw[Ai (by simp[hd]),Ai hl,Ai QP];split
     .exact⟨rfl,rfl⟩
     .split<;>exact⟨rfl,rfl⟩
    rw[Ah hr.1,hr.2];exact hT _ rfl rfl hr.1
   by_cases h2:b.Aa.Ar≠0
   .rw[Ah (decide_eq_true h2)]
    by_cases h3:b.Aa.second=false
    .rw[h3]
     have e:Z2 b s=(if b.addr.live then {Wz {b with Aa:={b.Aa with second:=true}} b.addr with addr:=Zi.z0} else {b with Aa:={b.Aa with second:=true}},false,b.Aa.Ar):=by
      unfold Z2;rw[Ai (by simp[hd]),Ai hl,Ah ⟨h2,h3⟩]
     have hq:∀(x y:Option (Za×Zr)),(if (Z2 b s).2.1=true then x else y)=y:=by
      intro x y;rw[e];exact Ai (by simp)
     have Fb:(some (if (Z2 b s).2.1=true then ({(Xy (Z2 b s).1 s).2 with now:=b.now+1},Zr.mk w1 w2 w3 w4 w5 w6 true (Z2 b s).2.2 (Xy (Z2 b s).1 s).1) else ({(Z2 b s).1 with now:=b.now+1},Zr.mk w1 w2 w3 w4 w5 w6 false (Z2 b s).2.2 (-1))))=some ({(Z2 b s).1 with now:=b.now+1},Zr.mk w1 w2 w3 w4 w5 w6 false b.Aa.Ar (-1)):=by
      rw[show (Z2 b s).2.2=b.Aa.Ar by rw[e]];exact congrArg some (Ai (by rw[e];simp))
     refine GM ?_ Fb.symm;unfold O6;rw[Ah (by rfl),show (Z2 b s).1=(if b.addr.live then {Wz {b with Aa:={b.Aa with second:=true}} b.addr with addr:=Zi.z0} else {b with Aa:={b.Aa with second:=true}}) by rw[e]];by_cases ha:b.addr.live=true
     .rw[Ah ha,Ah ha]
      have FT:=Hl h ha;rw[Z70 (b:={b with addr:=Zi.z0,Aa:={b.Aa with second:=true}}) b.addr h.Ae FT h.ml h.bl (h.By _ FT).right h.Bo,Ag];have er:Wz {b with addr:=Zi.z0,Aa:={b.Aa with second:=true}} b.addr={Wz {b with Aa:={b.Aa with second:=true}} b.addr with addr:=Zi.z0}:=by
       unfold Wz;split
       .rfl
       .split<;>rfl
      rw[er];exact hF _ _ rfl (uN _ _).1
     .rw[Ai ha,Ai ha]
      exact hF _ _ rfl rfl
    .have h4:b.Aa.second=true:=by simpa using h3
     rw[h4,D6];exact Y7x λhx=>h3 hx.2
   .rw[Ai (by simpa using h2)]
    exact Y7x λhx=>h2 hx.1
 .have Hg:b.Aa.live=false:=by simpa using hd
  have e:Z2 b s=(b,true,0):=by unfold Z2;rw[Ah Hg]
  rw[Ai hd,Ai (by simp),Ai hd];unfold O6;have:=hT (Zr.mk w1 w2 w3 w4 w5 w6 true 0 (-1)) rfl rfl (by rw[e]);rw[e] at this ⊢;rw[Ai (by simp),Ai hd,Ah rfl];simp only at this ⊢;rw[this]
theorem Xd6 (x0:Za) (w:Zr) (h:Y6 b.now b) (hs:s.sm) (hw:w.ready=true) (hg:w.Ar=0) (hp:0<=b.Aw/\b.Aw<=4000) (hn:0<=b.now/\b.now < 4000):
  Si x0 s FU b w (b.splits.length:Int) 0=OL x0 s (ET (Xo b)) w:=by
 have Yp:=Km h.Ae;have Gv:=h.sl;rw[Gv];have:=Jh (σ:=Za×Zr×Int) (n:=b.Ae.Ab.length) (by omega) (λk=>(Hm b k,w,(b.Ae.Ab.length:Int))) (B:=λκ st i=>rG x0 s (λa b c i=>κ (a,b,c) i) st.1 st.2.1 st.2.2 i) (L:=λm st i=>Si x0 s m st.1 st.2.1 st.2.2 i) (λm s i=>rfl) (r:=OL x0 s (ET (Xo b)) w) (λk hk κ=>?_) λκ=>?_
 .simp only[Y3d] at this
  exact this
 .have Df:=Gk (c:=b.Ae) hk
  obtain⟨t1,t2,t3,t4⟩:=Ymj h hk;have KE:=(h.By _ Df).split;have SR:=(Qd h.Ae).2.2.2;unfold rG;simp only;rw[Ah (by simpa using hk),t1,Ag,Wy,Ag,t3,Ag,show (Hm b k).Ae=b.Ae from rfl,Pg Df,Ag,Yn1 _ (JY h.Ae Df),Ag,Wy,Ag,Xd (by omega) (by omega),Nl,Iy,t2,t4];rfl
 .have hto:=Ybb h
  unfold rG;simp only[Yr8 h];rw[Ai (by simp)];unfold ET;by_cases e:b.Af=-1
  .rw[Ai (by simp[Xo,e]),Ah (show (Xo b).Af=-1 from e)]
  .have hh:=(HF hto (show (Xo b).Af≠-1 from e)).2.2.2
   have hl:=(Qd h.Ae).2.2.1;have h3:(Xo b).Ae.Al=b.Ae.Al:=rfl;rw[Ah (by simp[Xo,e]),Ai (show ¬(Xo b).Af=-1 from e),Ye (by omega) (by omega),GA]
theorem Xe8 (x0:Za) (w:Zr) (h:Y6 b.now b) (hs:s.sm):RC x0 s FU b w 0=O7 x0 s (ET (Xo b)) w:=by
 have Yp:=Km h.Ae;have CO:=h.ml;have:=Jh (σ:=Za×Zr) (n:=b.Ae.Ab.length) (by omega) (λk=>(Hm b k,w)) (B:=λκ st i=>nU x0 s (λa b i=>κ (a,b) i) st.1 st.2 i) (L:=λm st i=>RC x0 s m st.1 st.2 i) (λm s i=>rfl) (r:=O7 x0 s (ET (Xo b)) w) (λk hk κ=>?_) λκ=>?_
 .simp only[Y3d] at this
  exact this
 .have Df:=Gk (c:=b.Ae) hk
  obtain⟨t1,t2,t3,t4⟩:=Ymj h hk;have KE:=(h.By _ Df).split;have SR:=(Qd h.Ae).2.2.2;unfold nU;simp only;rw[Ah (by show decide ((k:Int) < (b.m.length:Int))=true;rw[CO];simpa using hk),t1,Ag,Wy,Ag,t3,Ag,show (Hm b k).Ae=b.Ae from rfl,Pg Df,Ag,Ym5 _ (JY h.Ae Df),Ag,Wy,Ag,Xd (by omega) (by omega),Nl,Int.max_comm,Iy,t2,t4];rfl
 .have hto:=Ybb h
  have hh:=uT h;unfold nU;simp only[Yr8 h];rw[Ai (by show ¬decide ((b.Ae.Ab.length:Int) < (b.m.length:Int))=true;rw[CO];simp)];unfold ET;by_cases e:b.Af=-1
  .rw[Ai (by show ¬decide (b.Af≥0)=true;rw[e];simp),Ah (show (Xo b).Af=-1 from e)]
  .have hh2:=(HF hto (show (Xo b).Af≠-1 from e)).2.2.2
   have hl:=(Qd h.Ae).2.2.1;have h3:(Xo b).Ae.Al=b.Ae.Al:=rfl;have FR:=X7 (HF h e).1;rw[Ah (by show decide (b.Af≥0)=true;simpa using FR.1),Ai (show ¬(Xo b).Af=-1 from e),Ye (by omega) (by omega),GA,VE]
theorem Y2x (h:Y6 n b):Sj b s=cU b s (FQ b):=by
 unfold Sj cV FQ;by_cases ha:b.addr.live=true
 .have FT:=Hl h ha
  by_cases hd:b.Aa.live=true
  .have HG:=Kx h hd
   simp only[ha,hd,if_true,Wx h.ml FT,Wx h.ml HG,Ag,SA _ (h.By _ FT).right,SA _ (h.By _ HG).right];by_cases hf:b.addr.first=true<;>simp[hf]
  .have Hg:b.Aa.live=false:=by simpa using hd
   simp only[ha,Hg,if_true,Bp,if_false,Wx h.ml FT,Ag,SA _ (h.By _ FT).right];by_cases hf:b.addr.first=true<;>simp[hf]
 .have Dd:b.addr.live=false:=by simpa using ha
  by_cases hd:b.Aa.live=true
  .have HG:=Kx h hd
   simp only[Dd,hd,if_true,Bp,if_false,Wx h.ml HG,Ag,SA _ (h.By _ HG).right]
  .have Hg:b.Aa.live=false:=by simpa using hd
   simp only[Dd,Hg,if_true,Bp,if_false]
theorem Y8k (h:Y6 n b):l9 b=some (FQ b):=by
 unfold l9 aJ FQ;by_cases ha:b.addr.live=true
 .have FT:=Hl h ha
  by_cases hd:b.Aa.live=true
  .have HG:=Kx h hd
   simp only[ha,hd,if_true,Wx h.ml FT,Wx h.ml HG,Ag,Va _ (h.By _ FT).right,Va _ (h.By _ HG).right];by_cases hf:b.addr.first=true<;>simp[hf]
  .have Hg:b.Aa.live=false:=by simpa using hd
   simp only[ha,Hg,if_true,Bp,if_false,Wx h.ml FT,Ag,Va _ (h.By _ FT).right];by_cases hf:b.addr.first=true<;>simp[hf]
 .have Dd:b.addr.live=false:=by simpa using ha
  by_cases hd:b.Aa.live=true
  .have HG:=Kx h hd
   simp only[Dd,hd,if_true,Bp,if_false,Wx h.ml HG,Ag,Va _ (h.By _ HG).right]
  .have Hg:b.Aa.live=false:=by simpa using hd
   simp only[Dd,Hg,if_true,Bp,if_false]
theorem Xek (x0:Za) (w:Zr) (h:Y6 n b) (ps:List Zm) (T8:ps.length < 1048577/\∀p∈ps,p.Bq.sm):cT x0 s FU b w ps (ps.length:Int) 0=Si x0 s FU (Wd b ps) w ((Wd b ps).splits.length:Int) 0:=by
 have Ya:=GB h.Ae;have:=Jh (σ:=Za×Zr×List Zm×Int) (n:=ps.length) (by omega) (λk=>(Wd b (ps.take k),w,ps,(ps.length:Int))) (B:=λκ st i=>rH x0 s (λa b c d i=>κ (a,b,c,d) i) st.1 st.2.1 st.2.2.1 st.2.2.2 i) (L:=λm st i=>cT x0 s m st.1 st.2.1 st.2.2.1 st.2.2.2 i) (λm s i=>rfl) (r:=Si x0 s FU (Wd b ps) w ((Wd b ps).splits.length:Int) 0) (λk hk κ=>?_) λκ=>?_
 .exact this
 .have hI:=fL h (ps.take k)
  have hc:=(fM b (ps.take k)).1;rw[Yey b ps k hk];generalize Wd b (ps.take k)=c at hI hc ⊢;unfold rH Er;simp only;rw[Ah (by simpa using hk),Zx hk,Ag,LG _ _ (by rw[hc];exact Ya),Ag];by_cases e:Zo c.Ae ps[k].Aj=true
  .obtain⟨ok,hp⟩:=Yyi (r:=ps[k].Bq) (hI.By _ e).right (T8.2 _ (B6 hk))
   rw[Ah e,Ah e,Wx hI.ml e,Ag,hp,Ag,Wy,Ag]
  .rw[Ai e,Ai e]
 .unfold rH
  simp only;rw[Ai (by simp),E9]
theorem Xd8 (x0:Za) (w:Zr) (h:Y6 n b) (ps:List Zm) (T8:ps.length < 1048577/\∀p∈ps,p.Bq.sm):aZ x0 s FU b w ps 0=RC x0 s FU (Wd b ps) w 0:=by
 have Ya:=GB h.Ae;have:=Jh (σ:=Za×Zr×List Zm) (n:=ps.length) (by omega) (λk=>(Wd b (ps.take k),w,ps)) (B:=λκ st i=>nV x0 s (λa b c i=>κ (a,b,c) i) st.1 st.2.1 st.2.2 i) (L:=λm st i=>aZ x0 s m st.1 st.2.1 st.2.2 i) (λm s i=>rfl) (r:=RC x0 s FU (Wd b ps) w 0) (λk hk κ=>?_) λκ=>?_
 .exact this
 .have hI:=fL h (ps.take k)
  have hc:=(fM b (ps.take k)).1;rw[Yey b ps k hk];generalize Wd b (ps.take k)=c at hI hc ⊢;unfold nV Er;simp only;rw[Ah (by simpa using hk),Zx hk,Ag,fF hI.ml (by rw[hc];exact Ya),Ag];by_cases e:Zo c.Ae ps[k].Aj=true
  .obtain⟨ok,hp⟩:=Yyy (r:=ps[k].Bq) (hI.By _ e).right (T8.2 _ (B6 hk))
   rw[Ah e,Ah e,Wx hI.ml e,Ag,hp,Ag,Wy,Ag]
  .rw[Ai e,Ai e]
 .unfold nV
  simp only;rw[Ai (by simp),E9]
end
theorem Ydy {b:Za} {s:Zb} (h:De b) (hs:s.sm) (hn:b.now < 4000):Sj b s=some ((D2 b s).2,(D2 b s).1):=by
 have hP:=fL h.i (ES s b.now);have hc:=fM b (ES s b.now);have hp:=h.Aw;have QE:=h.now;have hO:=uM h s;have eO:=fR b s;rw[Y2x h.i];unfold cU;rw[Yy5 _ _ hs,Ag,Xek b (FQ b) h.i _ (Yxh hs _)];have hP2:Y6 (Wd b (ES s b.now)).now (Wd b (ES s b.now)):=by rw[hc.2.1];exact hP
 rw[Xd6 b (FQ b) hP2 hs rfl rfl (by rw[hc.2.2.1];omega) (by rw[hc.2.1];omega)];have PU:Y6 (Wj b s).now (Wj b s):=by rw[eO.1];exact hO
 show OL b s (Wj b s) (FQ b)=_;rw[Xd9 b (FQ b) PU hs rfl rfl (by rw[eO.2.2.1];omega) (by rw[eO.1];omega),eO.1];unfold D2;split<;>rfl
theorem Yfy {b:Za} {s:Zb} (h:De b) (hs:s.sm) (hn:b.now < 4000):bA b s=some ((D2 b s).1,(D2 b s).2):=by
 have hP:=fL h.i (ES s b.now);have hc:=fM b (ES s b.now);have hp:=h.Aw;have QE:=h.now;have hO:=uM h s;have eO:=fR b s;unfold bA;rw[uR b h.sm,Ag,Y8k h.i,Ag,Ywi _ _ hs,Ag,Xd8 b (FQ b) h.i _ (Yxh hs _)];have hP2:Y6 (Wd b (ES s b.now)).now (Wd b (ES s b.now)):=by rw[hc.2.1];exact hP
 rw[Xe8 b (FQ b) hP2 hs];have PU:Y6 (Wj b s).now (Wj b s):=by rw[eO.1];exact hO
 show O7 b s (Wj b s) (FQ b)=_;rw[Xe7 b (FQ b) PU hs rfl rfl rfl (by rw[eO.2.2.1];omega) (by rw[eO.1];omega),eO.1];unfold D2;split<;>rfl
def okB (b:Za):Bool:=(L0 b).getD false
theorem uU {b:Za} (hs:b.sm):okB b=true↔De b:=by
 obtain⟨r,-,h2,h3⟩:=Ykr b hs;unfold okB;rw[h2];exact h3
theorem fZ {b:Za} (hs:b.sm):U8 b=some (okB b):=by
 obtain⟨r,h1,h2,h3⟩:=Ykr b hs;unfold okB;rw[h1,h2];rfl
theorem Y6c {b:Za} (hs:b.sm):L0 b=some (okB b):=by
 obtain⟨r,h1,h2,h3⟩:=Ykr b hs;unfold okB;rw[h2];rfl
def Yvu (b:Za) (s:Zb):Za×Zr:=if okB b=true/\b.now≠4000 then D2 b s else (b,Zr.z0)
def Dq (c:Zg):Za:={Za.z0 with Ae:=c,m:=List.replicate c.Ab.length Zh.z0,buckets:=c.Ab.map LH,splits:=List.replicate c.Ab.length 0,Af:=-1,last:=-1,model:=Zf.mk (List.replicate 192 0) (Zn.mk (List.replicate 4 0) 0 [])}
def SW (c:Zg):Za×Bool:=if Yq c=true then (Dq c,true) else (Za.z0,false)
theorem Y1z:Yar=some (Zn.mk (List.replicate 4 0) 0 []):=rfl
theorem Ydc:ZR=some (Zf.mk (List.replicate 192 0) (Zn.mk (List.replicate 4 0) 0 [])):=by
 unfold ZR;rw[show (192:Int)=((192:Nat):Int) from rfl,Yv2 (by decide) (by decide),Ag,Y1z];rfl
theorem Yc4:bX=some (Zf.mk (List.replicate 192 0) (Zn.mk (List.replicate 4 0) 0 [])):=by
 unfold bX
 first
 | rfl
 | (rw[show (192:Int)=((192:Nat):Int) from rfl,Yv2 (by decide) (by decide),Ag];rfl)
def Eb (c:Zg) (k:Nat):Za:={Dq c with m:=List.replicate k Zh.z0,buckets:=(c.Ab.take k).map LH,splits:=List.replicate k 0}
theorem Ysu (c:Zg) {k:Nat} (hk:k < c.Ab.length):Eb c (k+1)={Eb c k with m:=(Eb c k).m++[Zh.z0],buckets:=(Eb c k).buckets++[LH c.Ab[k]],splits:=(Eb c k).splits++[0]}:=by
 unfold Eb;simp only[List.replicate_succ'];rw[List.take_succ_eq_append_getElem hk,Gt];rfl
theorem Yy2 (c:Zg):Eb c c.Ab.length=Dq c:=by
 unfold Eb;rw[E9];rfl
theorem Yjc (c:Zg) (hl:c.Ab.length < 1048577):bY c=some (SW c):=by
 unfold bY SW;rw[UT c hl,Ag];by_cases h:Yq c=true
 .rw[h,Ai (by simp),(uQ c hl).1,Ag,Yc4,Ag,Ah rfl]
  rw[<-Yy2 c];refine Jh (σ:=Za) (n:=c.Ab.length) (by omega) (Eb c) (B:=pJ c) (L:=pK c) (λm s i=>rfl) (λk hk κ=>?_) λκ=>?_
  .unfold pJ
   have e1:(Eb c k).m.length=k:=by simp[Eb]
   have e2:(Eb c k).buckets.length=k:=by simp[Eb];omega
   have e3:(Eb c k).splits.length=k:=by simp[Eb]
   rw[Ah (by simpa using hk),Zx hk,Ag,Yr (by simp only[AP,Bf];omega) (by simp only[AP,Bf];omega),Ag,Ypq,Ag,Yr (by simp only[AP,Bf];omega) (by simp only[AP,Bf];omega),Ag,Yr (by simp only[AP,Bf];omega) (by simp only[AP,Bf];omega),Ag,Ysu c hk]
  .unfold pJ
   rw[Ai (by simp)]
 .simp[h]
theorem Y0e (c:Zg) (hl:c.Ab.length < 1048577):lK c=some (SW c):=by
 unfold lK SW;rw[S0 c hl,Ag];by_cases h:Yq c=true
 .rw[h,Ai (by simp),(uQ c hl).2,Ag,Ydc,Ag,Ah rfl]
  rw[<-Yy2 c];refine Jh (σ:=Za) (n:=c.Ab.length) (by omega) (Eb c) (B:=lI c) (L:=lJ c) (λm s i=>rfl) (λk hk κ=>?_) λκ=>?_
  .unfold lI
   have e1:(Eb c k).m.length=k:=by simp[Eb]
   have e2:(Eb c k).buckets.length=k:=by simp[Eb];omega
   have e3:(Eb c k).splits.length=k:=by simp[Eb]
   rw[Ah (by simpa using hk),Yr (by simp only[AP,Bf];omega) (by simp only[AP,Bf];omega),Ag,Zx hk,Ag,Yq9,Ag,Yr (by simp only[AP,Bf];omega) (by simp only[AP,Bf];omega),Ag,Yr (by simp only[AP,Bf];omega) (by simp only[AP,Bf];omega),Ag,Ysu c hk]
  .unfold lI
   rw[Ai (by simp)]
 .simp[h]
theorem Xbb (c:Zg) (i:Int):C1 (Dq c) i=0:=rfl
theorem uV (c:Zg) {i:Int} (h:Zo c i=true):Ak (Dq c).m i=Zh.z0:=by
 obtain⟨k,rfl,hk⟩:=eZ h;have Ea:k < (Dq c).m.length:=by simpa [Dq] using hk
 rw[Qp Ea];simp[Dq]
theorem Xbg:Y2 Zh.z0:=⟨by decide,by decide,λr hr=>absurd hr (by simp[Zh.z0]),λ_=>⟨rfl,rfl,rfl,rfl,rfl⟩,λh=>absurd rfl h⟩
theorem Vk:Ep (Zf.mk (List.replicate 192 0) (Zn.mk (List.replicate 4 0) 0 [])):=⟨iE,by show (List.replicate 192 (0:Int)).all DY=true;rw[List.all_replicate];rfl,⟨rfl,by show ∀v∈List.replicate 4 (0:Int),X3 v 2=true;decide,by show X3 0 2=true;decide,by show 0<=4;decide,λv hv=>absurd hv (by show ¬v∈([]:List Int);simp)⟩⟩
theorem SY {c:Zg} (h:Yq c=true):De (Dq c):=by
 have hl:=Km h;have Dy:Zo c 0=true:=by simp only[Zo,Bl];omega
 have Gv:0 < K0 c:=by
  have:=eI c;simp only[Yq,Bh,Bl] at h;omega
 have Gz:=Qd h;have e0:(0:Int)<=0:=Md 0;refine⟨h,⟨e0,by show (0:Int)<=4000;omega⟩,by simp[Dq],by simp[Dq],by simp[Dq],λi hi=>⟨by rw[uV c hi];exact Xbg,?_,?_,?_⟩,?_,.inl rfl,?_,⟨e0,e0⟩,λhx=>absurd hx (by simp[Dq,Za.z0,Zi.z0]),λhx=>absurd hx (by simp[Dq,Za.z0,Zi.z0]),λi hi=>?_,?_,?_,⟨λi hi hb=>?_,?_⟩,λd hd=>absurd hd (by simp[Dq,Za.z0]),?_⟩
 .rw[uV c hi]
  show (0:Int)<=c.An;exact Gz.1.1
 .obtain⟨k,rfl,hk⟩:=eZ hi
  have Ea:k < (Dq c).buckets.length:=by simpa [Dq] using hk
  have hk:k < c.Ab.length:=hk;have hm:=JY h hi;show Y5 (Ak (Dq c).buckets k) (Ak c.Ab k)=true;rw[Qp hk] at hm ⊢;rw[Qp Ea];have:(Dq c).buckets[k]=LH c.Ab[k]:=by simp[Dq]
  rw[this];exact Xd3 hm ⟨Gv,λhp=>List.countP_pos_iff.2 ⟨_,B6 hk,hp⟩⟩
 .obtain⟨k,rfl,hk⟩:=eZ hi
  have Ea:k < (Dq c).splits.length:=by simpa [Dq] using hk
  rw[Qp Ea];have:(Dq c).splits[k]=0:=by simp[Dq]
  rw[this];exact⟨e0,by show (0:Int)<=c.Ap;omega⟩
 .show CN Yg.z0 c=true
  unfold CN;have:=UU c 0;simp[h,Dy,Yg.z0,this.1]
 .exact Vk
 .rw[uV c hi,Xbb];rfl
 .unfold J8
  rw[Ai (by simp[Dq,Za.z0,Zi.z0])];rfl
 .unfold K5
  rw[Ai (by simp[Dq,Za.z0,Zi.z0])];rfl
 .rw[uV c hi] at hb
  exact absurd hb (by decide)
 .show if (-1:Int)=-1 then (0:Int)=0 else _
  rw[Ah rfl]
 .exact List.Pairwise.nil
def Gm (b:Za):Bool:=b.m.all λm=>decide (m.queue=[])
def Y4a (b:Za):Bool:=okB b&&Gm b
theorem Yia {b:Za} (hl:b.m.length < 1048577):dA b=some (Gm b):=by
 unfold dA Kj K3;have e:∀a:Zh,c8 a=some (!decide (a.queue=[])):=by
  intro a;unfold c8;by_cases h:a.queue=[]
  .simp[h]
  .have:=Cq.2 h
   simp only[h,decide_false,Ga];exact congrArg some (decide_eq_true (by omega))
 rcases Yat b.m (by omega) c8 (λm=>decide (m.queue=[])) (λa _=>e a) (Wo b.m) (λm i=>rfl) with⟨h1,h2⟩|⟨k,hk,h2,h3,-⟩
 .rw[h2]
  unfold Gm;rw[h1];rfl
 .rw[h2]
  have:Gm b=false:=by
   unfold Gm;rw[List.all_eq_false];exact⟨_,B6 hk,by rw[h3];simp⟩
  rw[this];simp
theorem Yu7 {α U:Type} (xs:List α) (hl:xs.length < 4611686018427387904) (c:α->Bool) {no:Option U} (fin:Option U) (L:Nat->Int->Option U)
  (hL:∀m i,L (m+1) i=if decide (i < (xs.length:Int))=true then (idx xs i).bind λa=>if c a=true then no else L m (Zl i 1) else fin):L FU 0=if xs.any c=true then no else fin:=by
 have key:∀(m k:Nat),k<=xs.length->xs.length - k < m->L m (k:Int)=if (xs.drop k).any c=true then no else fin:=by
  intro m
  induction m with
  | zero=>intro k _ h;omega
  | succ m ih=>
   intro k hk hm;rw[hL];by_cases hc:k < xs.length
   .rw[Ah (by simpa using hc),Zx hc,Ag,Z8 (by omega),ih (k+1) (by omega) (by omega),DG hc,NC]
    by_cases h:c xs[k]=true
    .simp[h]
    .simp[h]
   .rw[Ai (by simpa using hc),Vz (by omega)]
    simp
 have:=key FU 0 (BM _) (by have:=Yx;omega);simpa using this
theorem Yrq (b:Za):(b.m.any λa=>decide ((a.queue.length:Int) > 0))=!Gm b:=by
 unfold Gm;rw[List.not_all_eq_any_not]
 congr 1
 funext a
 by_cases h:a.queue=[]
 .simp[h]
 .have:=Cq.2 h
  simp only[h,decide_false,Ga];exact decide_eq_true (by omega)
theorem Yws {b:Za} (hs:b.sm):oI b=some (Y4a b):=by
 unfold oI;have hl:=hs.ml;rw[Yu7 b.m (by omega) (λa=>decide ((a.queue.length:Int) > 0)) ((L0 b).bind λr601=>some r601) (oH b) (λm i=>rfl),Yrq,Y6c hs];unfold Y4a;cases Gm b<;>simp
def So {β:Type} (e:Option β) (R:β->Prop):Prop:=∃b,e=some b/\R b
theorem So.bind {α β:Type} {e:Option α} {Q:α->Prop} {f:α->Option β} {R:β->Prop} (h:So e Q) (k:∀a,Q a->So (f a) R):So (e.bind f) R:=by
 obtain⟨a,rfl,q⟩:=h;exact k a q
theorem So.ret {β:Type} {b:β} {R:β->Prop} (h:R b):So (some b) R:=⟨b,rfl,h⟩
theorem So.ite {β:Type} {c:Prop} [Decidable c] {x y:Option β} {R:β->Prop} (h1:c->So x R) (h2:¬c->So y R):So (if c then x else y) R:=by
 split
 .exact h1 ‹_›
 .exact h2 ‹_›
def Ky (c:Z0):Prop:=0<=c.i/\c.i<=(c.b.length:Int)/\c.b.length < 4611686018427387904
theorem Y9c (a:Int):0<=Lu a 255/\Lu a 255<=255:=by
 have h:((BitVec.ofInt IntKind.i64.bits a &&& BitVec.ofInt IntKind.i64.bits 255).toNat)<=255:=by
  rw[BitVec.toNat_and];have:(BitVec.ofInt IntKind.i64.bits 255).toNat=255:=by decide
  rw[this];exact Nat.and_le_right
 unfold Lu;generalize (BitVec.ofInt IntKind.i64.bits a &&& BitVec.ofInt IntKind.i64.bits 255).toNat=n at*;rw[OY (by omega) (by omega)];omega
theorem gA {c:Z0} (h:Ky c):∃r c',OM c=some (r,c')/\Ky c'/\0<=r/\r<=255:=by
 obtain⟨h1,h2,h3⟩:=h;unfold OM;by_cases hc:c.i < (c.b.length:Int)
 .obtain⟨k,hk⟩:∃k:Nat,c.i=k:=⟨c.i.toNat,by omega⟩
  have Ea:k < c.b.length:=by omega
  rw[Ah (by simpa using hc),hk,Zx Ea,Ag];refine⟨_,_,rfl,⟨?_,?_,h3⟩,Y9c _⟩
  .show 0<=Zl (k:Int) 1
   rw[Z8 (by omega)];omega
  .show Zl (k:Int) 1<=_
   rw[Z8 (by omega)];show ((k+1:Nat):Int)<=(c.b.length:Int);omega
 .rw[Ai (by simpa using hc)]
  exact⟨_,_,rfl,⟨h1,h2,h3⟩,Y9c _⟩
theorem Y23 {a n:Int} (h0:0<=a) (hn:0 < n):0<=C4 a n/\C4 a n < n:=by
 unfold C4;rw[Vd2 h0];exact⟨Tv _ (by omega),Ts _ hn⟩
theorem Ybg {c:Z0} (n:Int) (h:Ky c):∃r c',Xf c n=some (r,c')/\Ky c'/\0<=r/\(0 < n->r < n)/\(n<=0->r=0):=by
 unfold Xf;by_cases h0:n<=0
 .rw[Ah (by simpa using h0)]
  exact⟨_,_,rfl,h,by omega,λ_=>by omega,λ_=>rfl⟩
 .rw[Ai (by simpa using h0)]
  by_cases h1:n<=256
  .rw[Ah (by simpa using h1)]
   obtain⟨r,c',hr,hc,h2,h3⟩:=gA h;rw[hr,Ag,JU (by omega),Ag];have:=Y23 h2 (by omega:0 < n);exact⟨_,_,rfl,hc,this.1,λ_=>this.2,λ_=>by omega⟩
  .rw[Ai (by simpa using h1)]
   obtain⟨r,c',hr,hc,h2,h3⟩:=gA h;obtain⟨r2,c2,Cw,FA,h22,h32⟩:=gA hc;obtain⟨r3,c3,fV,xT,h23,h33⟩:=gA FA;obtain⟨r4,c4,hr4,hc4,h24,h34⟩:=gA xT;rw[hr,Ag,Cw,Ag,fV,Ag,hr4,Ag,JU (by omega),Ag];have e:Zl (Zl (Zl (X5 r 16777216) (X5 r2 65536)) (X5 r3 256)) r4=r*16777216+r2*65536+r3*256+r4:=by
    rw[Jj (by omega) (by omega),Jj (by omega) (by omega),Jj (by omega) (by omega),Ye (a:=r*16777216) (by omega) (by omega),Ye (a:=r*16777216+r2*65536) (by omega) (by omega),Ye (by omega) (by omega)]
   have:=Y23 (by rw[e];omega:0<=Zl (Zl (Zl (X5 r 16777216) (X5 r2 65536)) (X5 r3 256)) r4) (by omega:0 < n);exact⟨_,_,rfl,hc4,this.1,λ_=>this.2,λ_=>by omega⟩
theorem Xc3 (x:List Int) (hl:x.length < 1048577):∃c,sD x=some c/\Ky c:=by
 unfold sD;have key:∀(m k:Nat) (v:Int),k<=x.length->x.length - k < m->∃c,UA x m v k=some c/\Ky c:=by
  intro m
  induction m with
  | zero=>intro k _ _ h;omega
  | succ m ih=>
   intro k v hk hm;have e:UA x (m+1) v k=Zyn x (UA x m) v k:=rfl;rw[e];unfold Zyn sC;by_cases hc:k < x.length
   .rw[Ah (by simpa using hc)]
    by_cases h4:(k:Int) < 4000
    .rw[Ah (by simpa using h4),Zx hc,Ag,Z8 (by omega)]
     exact ih (k+1) _ (by omega) (by omega)
    .rw[Ai (by simpa using h4)]
     exact⟨_,rfl,by simp[Ky];omega⟩
   .rw[Ai (by simpa using hc)]
    exact⟨_,rfl,by simp[Ky];omega⟩
 exact key FU 0 _ (BM _) (by have:=Yx;omega)
theorem Xae {c:Z0} (n:Int) (h:Ky c):∃r c',MY c n=some (r,c')/\Ky c':=by
 unfold MY;obtain⟨r,c',hr,hc,_⟩:=Ybg n h;rw[hr];exact⟨_,_,rfl,hc⟩
theorem Y9h {α:Type} {xs:List α} {i:Int} (h0:0<=i) (h1:i < (xs.length:Int)):∃a,idx xs i=some a/\a∈xs:=by
 obtain⟨k,rfl⟩:∃k:Nat,i=k:=⟨i.toNat,by omega⟩;have hk:k < xs.length:=by omega
 exact⟨_,Zx hk,B6 hk⟩
theorem Ywo {c:Z0} (xs:List Int) (hx:xs≠[]) (h:Ky c):∃r c',ON c xs=some (r,c')/\Ky c'/\r∈xs:=by
 unfold ON;obtain⟨r,c',hr,hc,h0,h1,_⟩:=Ybg (xs.length:Int) h;have hl:0 < xs.length:=Cq.2 hx;obtain⟨a,ha,hm⟩:=Y9h h0 (h1 (by omega));rw[hr,Ag,ha];exact⟨_,_,rfl,hc,hm⟩
theorem Kl {c:Z0} (n:Int) (h:Ky c):So (Xf c n) λr=>Ky r.2/\0<=r.1/\(0 < n->r.1 < n)/\(n<=0->r.1=0):=by
 obtain⟨r,c',e,h1,h2,h3,h4⟩:=Ybg n h;exact⟨_,e,h1,h2,h3,h4⟩
theorem gB {c:Z0} (n:Int) (h:Ky c):So (MY c n) λr=>Ky r.2:=by
 obtain⟨r,c',e,h1⟩:=Xae n h;exact⟨_,e,h1⟩
theorem uW {c:Z0} (xs:List Int) (hx:xs≠[]) (h:Ky c):So (ON c xs) λr=>Ky r.2/\r.1∈xs:=by
 obtain⟨r,c',e,h1,h2⟩:=Ywo xs hx h;exact⟨_,e,h1,h2⟩
theorem SZ {α:Type} {xs:List α} {i:Int} (h0:0<=i) (h1:i < (xs.length:Int)):So (idx xs i) λa=>a∈xs:=Y9h h0 h1
theorem Y8w {α:Type} (sz:Nat) (hz:sz<=1024) (xs ys:List α) (h:xs.length+ys.length<=1048600):So (Y4 sz xs ys) λr=>r=xs++ys:=by
 have hb:(xs.length+ys.length)*sz<=140737488355328:=I1 (Nat.mul_le_mul h hz) (by decide);exact⟨_,Yr hb (by omega),rfl⟩
theorem Y94 {x0:Z0} (h:Ky x0):So (sE x0) λr=>Ky r.2/\Yq r.1=true:=by
 unfold sE;refine (Kl 3 h).bind λr1 ⟨h1,a1,b1,_⟩=>?_;refine (Kl 3 h1).bind λr2 ⟨h2,a2,b2,_⟩=>?_;refine (Kl 3 h2).bind λr3 ⟨h3,a3,b3,_⟩=>?_;refine (Kl 6 h3).bind λr4 ⟨h4,a4,b4,_⟩=>?_;refine (Kl 12 h4).bind λr5 ⟨h5,a5,b5,_⟩=>?_;refine (Kl 4 h5).bind λr6 ⟨h6,a6,b6,_⟩=>?_;have b1:=b1 (by omega);have b2:=b2 (by omega);have b3:=b3 (by omega);have b4:=b4 (by omega);have b5:=b5 (by omega);have b6:=b6 (by omega);rw[Ye (by omega) (by omega),Ye (by omega) (by omega),Ye (by omega) (by omega),Ye (by omega) (by omega)];generalize r1.1=q at*;generalize r2.1=w at*;generalize r3.1=e at*;generalize r4.1=s at*;generalize r5.1=l at*;have gC:∀ms,EO (Zg.mk ms (1+q) w e (1+s) (1+l))=(e+2)*(w+6):=λms=>by
  unfold EO;rw[Ah (by simp only;omega)]
 have Qf:12<=(e+2)*(w+6)/\(e+2)*(w+6)<=32:=by
  obtain rfl|rfl|rfl:e=0\/e=1\/e=2:=by omega
  all_goals omega
 have Y7z:∀ms,K0 (Zg.mk ms (1+q) w e (1+s) (1+l))=2*((e+2)*(w+6))+(1+l):=λms=>by
  unfold K0;rw[gC,Ai (by omega),Ah (by simp only;omega)]
 generalize (e+2)*(w+6)=cost at*;have key:∀(m k:Nat) (c:Z0) (ms:List Zd),Ky c->k < m->1<=ms.length+k->ms.length+k<=4->(∀x∈ms,(1<=x.weight/\x.weight<=4)/\x.prio=false/\x.every=0/\x.cap=0)->So (UB x0 m c (Zg.mk ms (1+q) w e (1+s) (1+l)) (k:Int)) λr=>Ky r.2/\Yq r.1=true:=by
  intro m
  induction m with
  | zero=>intro k _ _ _ h;omega
  | succ m ih=>
   intro k c ms hc hm NX CK Ns;have eL:UB x0 (m+1) c (Zg.mk ms (1+q) w e (1+s) (1+l)) (k:Int)=Zv9 x0 (UB x0 m) c (Zg.mk ms (1+q) w e (1+s) (1+l)) (k:Int):=rfl;rw[eL];unfold Zv9;cases k with
   | succ k=>
    rw[Ah (by simp)];refine (Kl 3 hc).bind λr1 ⟨h1,a1,b1,_⟩=>?_;have b1:=b1 (by omega);refine (Y8w 32 (by decide) _ _ (by simp only[AP,Bf];omega)).bind λz hz=>?_;rw[Xd (by omega) (by omega),show ((k+1:Nat):Int) - 1=(k:Int) by omega];subst hz;refine ih k r1.2 _ h1 (by omega) (by simp;omega) (by simp;omega) λx hx=>?_;rw[BP,List.mem_singleton] at hx;rcases hx with hx|rfl
    .exact Ns x hx
    .refine⟨?_,rfl,rfl,rfl⟩
     show 1<=Zl 1 r1.1/\Zl 1 r1.1<=4;rw[Ye (by omega) (by omega)];omega
   | zero=>
    have Xdx:∀ys:List Zd,ys.length=ms.length->(∀x∈ys,Qe (Zg.mk ys (1+q) w e (1+s) (1+l)) x=true)->Yq (Zg.mk ys (1+q) w e (1+s) (1+l))=true:=by
     intro ys hy h;unfold Yq;rw[Y7z];simp only[Bh,Bl,Cf];refine⟨⟨⟨⟨?_,?_⟩,?_⟩,?_⟩,h⟩<;>omega
    rw[Ai (by simp)];refine (gB 2 hc).bind λr1 h1=>?_;refine So.ite (λ_=>?_) λ_=>So.ret ⟨h1,Xdx ms rfl λx hx=>?_⟩
    .refine (Kl (ms.length:Int) h1).bind λr2 ⟨h2,a2,b2,_⟩=>?_
     have b2:=b2 (by omega);obtain⟨k,hk⟩:∃k:Nat,r2.1=(k:Int):=⟨r2.1.toNat,by omega⟩;simp only[hk] at a2 b2 ⊢;have Ea:k < ms.length:=by omega
     rw[Zx Ea,Ag,Wy,Ag,Z76,Ag,Y7z];refine (Kl 30 h2).bind λr3 ⟨h3,a3,b3,_⟩=>?_;have b3:=b3 (by omega);rw[Iy,Zx (by simpa using Ea),Ag,Wy,Ag];refine (Kl 4 h3).bind λr4 ⟨h4,a4,b4,_⟩=>?_;have b4:=b4 (by omega);rw[Iy,Zx (by simpa using Ea),Ag,Wy,Ag,Iy];refine So.ret ⟨h4,?_⟩;simp only[List.getElem_set_self,List.set_set];rw[Jj (by omega) (by omega),Ye (by omega) (by omega),Ye (by omega) (by omega)];have hx:=Ns _ (B6 Ea);have hp:List.countP (λx:Zd=>x.prio) (ms.set k (Zd.mk ms[k].weight true (2*(2*cost+(1+l))+r3.1) (1+r4.1)))=1:=by
      have h0:List.countP (λx:Zd=>x.prio) ms=0:=List.countP_eq_zero.2 λx hx=>by simp[(Ns x hx).2.1]
      rw[List.countP_set Ea,h0];simp[hx.2.1]
     refine Xdx _ (by simp) λx D9=>?_;rcases Vx D9 with D9|rfl
     .have:=Ns x D9
      unfold Qe;rw[this.2.1];simp[this.1,this.2.2]
     .unfold Qe
      simp only[Y7z];unfold Q5;rw[hp];simp only[if_true,Bh,Bl];refine⟨hx.1,⟨?_,?_⟩,?_⟩<;>omega
    .have:=Ns x hx
     unfold Qe;rw[this.2.1];simp[this.1,this.2.2]
 rw[show (1:Int)+r6.1=((r6.1.toNat+1:Nat):Int) by omega];exact key FU (r6.1.toNat+1) r6.2 [] h6 (by have:=Yx;omega) (by simp) (by simp;omega) (by simp)
theorem Bool.Ta {b:Bool} (h:¬b=true):b=false:=by simpa using h
def LR (x:Zi):Bool:=!x.live||(decide (x.left<=0)&&(decide (x.Ar=0)||x.second))
def gD (x:Zi):Int:=if x.live=true/\x.left<=0 then x.Ar else 0
theorem Yol (b:Za) (s:Zb):(Z2 b s).2.1=LR b.Aa/\(Z2 b s).2.2=gD b.Aa:=by
 unfold Z2 LR gD;by_cases hd:b.Aa.live=false
 .rw[Ah hd];simp[hd]
 .have Hg:b.Aa.live=true:=by simpa using hd
  rw[Ai hd,Hg];by_cases hl:b.Aa.left > 0
  .rw[Ah hl,Ai (by omega)]
   simp;omega
  .rw[Ai hl,Ah (show true=true/\b.Aa.left<=0 from⟨rfl,by omega⟩)]
   have CK:b.Aa.left<=0:=by omega
   by_cases hs:b.Aa.Ar≠0/\b.Aa.second=false
   .rw[Ah hs]
    simp[hs.1,hs.2]
   .rw[Ai hs]
    have:(decide (b.Aa.Ar=0)||b.Aa.second)=true:=by
     by_cases h0:b.Aa.Ar=0
     .simp[h0]
     .have:¬b.Aa.second=false:=λh=>hs ⟨h0,h⟩
      simpa [h0] using this
    rw[this];simp only[CK,decide_true,Ma,D6,VB]
    repeat' split
    all_goals exact⟨rfl,rfl⟩
theorem Xej (b:Za) (s:Zb):D2 b s=if LR b.Aa=true then
  ({(Xy (Z2 (Wj b s) s).1 s).2 with now:=b.now+1},{FQ b with Ar:=gD b.Aa,C5:=(Xy (Z2 (Wj b s) s).1 s).1})
 else ({(Z2 (Wj b s) s).1 with now:=b.now+1},{FQ b with ready:=false,Ar:=gD b.Aa}):=by
 unfold D2;have h:=Yol (Wj b s) s;have e:=fR b s;rw[e.2.2.2.2.2.2.1] at h;rw[h.1,h.2]
structure Y3v (b:Za) (r:Int×Za):Prop where
 splits:r.2.splits=b.splits
 C5:r.1=-1\/(Zo b.Ae r.1=true/\Ak b.splits r.1=0/\(r.2.Af=r.1\/r.2.Af=-1))
 some:r.1=-1\/(Ak b.m r.1).queue≠[]
 held:r.2.Af=-1\/r.2.held < b.Ae.Al
theorem Y6d (b:Za):(Yy b).splits=b.splits/\(Yy b).Ae=b.Ae/\((Yy b).Af=-1\/((Yy b).Af=b.Af/\(Yy b).held=b.held/\b.held≠b.Ae.Al)):=by
 unfold Yy;split
 .exact⟨rfl,rfl,.inl rfl⟩
 .rename_i h
  refine⟨rfl,rfl,?_⟩;by_cases h1:b.Af=-1
  .exact .inl h1
  .exact .inr ⟨rfl,rfl,λh2=>h ⟨h1,h2⟩⟩
theorem Y6o (b:Za) (s:Zb):(Qm b s).held=b.held:=by
 unfold Qm;split<;>rfl
theorem Y63 {n:Int} {b:Za} (h:Y6 n b) (hh:b.Af=-1\/b.held < b.Ae.Al):Y3v b (J6 b):=by
 have hp:=Vi h;have SR:=Qd h.Ae;unfold J6;split
 .rename_i hx
  exact⟨hp.splits,.inl rfl,.inl rfl,by rw[hp.Af,hp.held];exact hh⟩
 .rename_i hx
  rcases hp.Aj with h1|⟨h1,h2,h3⟩
  .exact absurd (show (Kq b).1 < 0 by rw[h1];decide) hx
  .have hw:=Yau h2
   have hq:(Ak b.m (Kq b).1).queue≠[]:=by
    intro hq;have:=(h.By _ h1).right.none hq;have h5:=hw.1;unfold Zy at h5;rw[Ah hq] at h5;omega
   refine⟨hp.splits,.inr ⟨h1,hw.2.1,?_⟩,.inr hq,?_⟩
   .show (if _ then (Kq b).1 else (Kq b).2.2.Af)=_\/(if _ then (Kq b).1 else (Kq b).2.2.Af)=-1
    split
    .exact .inl rfl
    .rw[hp.Af];exact hw.2.2.symm
   .show (if _ then (Kq b).1 else (Kq b).2.2.Af)=_\/(if _ then 0 else (Kq b).2.2.held) < _
    split
    .exact .inr (by omega)
    .rw[hp.Af,hp.held];exact hh
theorem Y6x {n:Int} {b:Za} (h:Y6 n b) (s:Zb) (hd:b.Aa=Zi.z0):Y3v b (Xy b s):=by
 have h1:=uH h;have e1:=fO b;have m1:=Y6d b;have h2:=uJ h1 s (by rw[e1.1];exact hd);have e2:=uK (Yy b) s;have SR:=Qd h.Ae;have hb:(Qm (Yy b) s).Af=-1\/(Qm (Yy b) s).held < (Qm (Yy b) s).Ae.Al:=by
  rw[e2.2.2.2.2.2.2.1,Y6o,e2.2.1,m1.2.1];rcases m1.2.2 with h3|⟨h3,h4,h5⟩
  .exact .inl h3
  .by_cases hz:b.Af=-1
   .exact .inl (by rw[h3,hz])
   .have:=(HF h hz).2.2.2
    exact .inr (by rw[h4];omega)
 have h3:=Y63 h2.1 hb;unfold Xy;have hbm:∀i,Zo b.Ae i=true->(Ak (Yy b).m i).queue=(Ak b.m i).queue:=by
  intro i hi;unfold Yy;split
  .rename_i hx
   have hw:=(HF h hx.1).1;show (Ak (b.m.set b.Af.toNat {Ak b.m b.Af with broken:=true}) i).queue=_;rw[h.GH hw _ hi];split
   .rename_i e;rw[e]
   .rfl
  .rfl
 refine⟨by rw[h3.splits,e2.2.2.2.2.2.1,m1.1],?_,?_,?_⟩
 .have:=h3.C5
  rw[e2.2.1,m1.2.1,e2.2.2.2.2.2.1,m1.1] at this;exact this
 .have h4:=h3.C5
  have h5:=h3.some;rw[e2.2.1,m1.2.1] at h4;rcases h4 with h4|h4
  .exact .inl h4
  .rcases h5 with h5|h5
   .exact .inl h5
   .refine .inr ?_
    rw[e2.2.2.2.2.1,hbm _ h4.1] at h5;exact h5
 .have:=h3.held
  rw[e2.2.1,m1.2.1] at this;exact this
theorem Y9k (b:Za) (s:Zb):(D2 b s).2={FQ b with ready:=LR b.Aa,Ar:=gD b.Aa,C5:=if LR b.Aa=true then (Xy (Z2 (Wj b s) s).1 s).1 else -1}:=by
 rw[Xej];by_cases hr:LR b.Aa=true
 .rw[Ah hr,Ah hr,hr]
  rfl
 .rw[Ai hr,Ai hr,Bool.Ta hr]
  rfl
def Ny (s:Zb):Int:=s.Am.foldl (λm p=>Fi m p.at_) (-1)
theorem Yti (s:Zb) (hl:s.Am.length < 1048577):oF s=some (Ny s):=by
 unfold oF;rw[tJ (U:=Int) s.Am (by omega) (λ(p:Zm) m=>some (.inl (Fi m p.at_))) (λm=>some m) (oD s) (λm v i=>rfl) (-1)];exact Ysd _ _ (λm (p:Zm)=>Fi m p.at_) (λ_ _=>True) (λa l s _=>⟨rfl,trivial⟩) _ _ trivial
theorem Ytf (s:Zb) (hl:s.Am.length < 1048577):rV s=some (Ny s):=by
 unfold rV;rw[tJ (U:=Int) s.Am (by omega) (λ(p:Zm) m=>some (.inl (Fi m p.at_))) (λm=>some m) (rU s) (λm v i=>rfl) (-1)];exact Ysd _ _ (λm (p:Zm)=>Fi m p.at_) (λ_ _=>True) (λa l s _=>⟨rfl,trivial⟩) _ _ trivial
theorem Ywa {b:Za} (hl:b.m.length < 1048577):oC b=some (Gm b):=by
 unfold oC;rw[Yu7 b.m (by omega) (λa=>decide ((a.queue.length:Int) > 0)) (some true) (oA b) (λm i=>rfl),Yrq];cases Gm b<;>simp
def LS (s:Zb) (b:Za):Prop:=b.now < 4000/\(Gm b=false\/b.now<=Ny s)
instance (s:Zb) (b:Za):Decidable (LS s b):=by unfold LS;infer_instance
def Et (s:Zb):Nat->Za->Za
 | 0,b=>b
 | f+1,b=>if LS s b then Et s f (D2 b s).1 else b
def Nz (b:Za) (s:Zb):Za×Int:=if okB b=true then (Et s (4000 - b.now).toNat b,(Et s (4000 - b.now).toNat b).now - b.now) else (b,0)
theorem Xez (s:Zb):∀(f:Nat) {b:Za},De b->f=(4000 - b.now).toNat->De (Et s f b)/\¬LS s (Et s f b)/\b.now<=(Et s f b).now/\(Et s f b).Ae=b.Ae:=by
 intro f
 induction f with
 | zero=>
  intro b h hf;have hn:=h.now;exact⟨h,λhx=>by have:=hx.1;simp only[Et] at this;omega,Md _,rfl⟩
 | succ f ih=>
  intro b h hf;have hn:=h.now;unfold Et;split
  .rename_i hg
   have hs:=uO h s hg.1;have:=ih hs.1 (by rw[hs.2.1];omega);rw[hs.2.1,hs.2.2] at this;exact⟨this.1,this.2.1,by omega,this.2.2.2⟩
  .rename_i hg
   exact⟨h,hg,Md _,rfl⟩
theorem Y1e {b:Za} {s:Zb} (hb:b.sm) (hs:s.sm):rW b s=some (Nz b s):=by
 unfold rW Nz;rw[Yid b hb,Ag,fZ hb,Ag];by_cases h:okB b=true
 .have hP:=(uU hb).1 h
  have hN:=hP.now;rw[h,Ai (by simp),Ah rfl,Ytf s hs.Am,Ag];have hJ:∀c:Za,De c->b.now<=c.now->dB b s c=some (c,c.now - b.now):=by
   intro c hc hn;have:=hc.now;unfold dB;rw[Yid _ hc.sm,Ag,Xd (by omega) (by omega)]
  have key:∀(f m:Nat) (c:Za),De c->b.now<=c.now->f=(4000 - c.now).toNat->f < m->Sl b s m c (Ny s)=some (Et s f c,(Et s f c).now - b.now):=by
   intro f
   induction f with
   | zero=>
    intro m c hc hn hf hm;obtain⟨m,rfl⟩:∃k,m=k+1:=⟨m - 1,by omega⟩;have:=hc.now;show dC b s (Sl b s m) c (Ny s)=_;unfold dC;rw[Ai (by simp;omega),hJ c hc hn];rfl
   | succ f ih=>
    intro m c hc hn hf hm;obtain⟨m,rfl⟩:∃k,m=k+1:=⟨m - 1,by omega⟩;have hcn:=hc.now;have F9:=uO hc s (by omega);have Lq:Sl b s m (D2 c s).1 (Ny s)=some (Et s f (D2 c s).1,(Et s f (D2 c s).1).now - b.now):=ih m _ F9.1 (by rw[F9.2.1];omega) (by rw[F9.2.1];omega) (by omega);show dC b s (Sl b s m) c (Ny s)=_;unfold dC Et;have Ya:c.now < 4000:=by omega
    rw[Ah (by simpa using Ya),Yia hc.sm.ml,Ag];by_cases hq:Gm c=true
    .rw[Ai (by simp[hq])]
     by_cases hl:c.now<=Ny s
     .rw[Ah (by simpa using hl),Ydy hc hs Ya,Ag,Ah (show LS s c from⟨Ya,.inr hl⟩)]
      exact Lq
     .rw[Ai (by simpa using hl),Ai (show ¬LS s c fromλhx=>hx.2.elim (λh1=>by rw[hq] at h1;exact absurd h1 (by decide)) hl),hJ c hc hn]
    .rw[Ah (by simpa using hq),Ydy hc hs Ya,Ag,Ah (show LS s c from⟨Ya,.inl (by simpa using hq)⟩)]
     exact Lq
  exact key _ FU b hP (Md _) rfl (by have:=Yx;omega)
 .simp[h]
theorem Y1l {b:Za} {s:Zb} (hb:b.sm) (hs:s.sm):oG b s=some (Nz b s):=by
 unfold oG Nz;rw[uR b hb,Ag,Y6c hb,Ag];by_cases h:okB b=true
 .have hP:=(uU hb).1 h
  have hN:=hP.now;rw[h,Ai (by simp),Ah rfl];have key:∀(f m:Nat) (c:Za),De c->b.now<=c.now->f=(4000 - c.now).toNat->f < m->RD b s m c (c.now - b.now)=some (Et s f c,(Et s f c).now - b.now):=by
   intro f
   induction f with
   | zero=>
    intro m c hc hn hf hm;obtain⟨m,rfl⟩:∃k,m=k+1:=⟨m - 1,by omega⟩;have:=hc.now;show bC b s (RD b s m) c _=_;unfold bC Ud;rw[Ai (by simp;omega),Ai (by simp)];rfl
   | succ f ih=>
    intro m c hc hn hf hm;obtain⟨m,rfl⟩:∃k,m=k+1:=⟨m - 1,by omega⟩;have hcn:=hc.now;have F9:=uO hc s (by omega);have Lq:RD b s m (D2 c s).1 ((D2 c s).1.now - b.now)=some (Et s f (D2 c s).1,(Et s f (D2 c s).1).now - b.now):=ih m _ F9.1 (by rw[F9.2.1];omega) (by rw[F9.2.1];omega) (by omega);have e1:Zl (c.now - b.now) 1=(D2 c s).1.now - b.now:=by rw[F9.2.1,Ye (by omega) (by omega)];omega
    show bC b s (RD b s m) c _=_;unfold bC Ud Et;have Ya:c.now < 4000:=by omega
    rw[Ah (by simpa using Ya),Ywa hc.sm.ml,Ag];by_cases hq:Gm c=true
    .rw[Ai (by simp[hq]),Yti s hs.Am,Ag]
     by_cases hl:c.now<=Ny s
     .rw[Ah (by simpa using hl),Yfy hc hs Ya,Ag,Ah (show LS s c from⟨Ya,.inr hl⟩),e1]
      exact Lq
     .rw[Ai (by simpa using hl),Ai (show ¬LS s c fromλhx=>hx.2.elim (λh1=>by rw[hq] at h1;exact absurd h1 (by decide)) hl)]
    .rw[Ah (by simpa using hq),Ah rfl,Yfy hc hs Ya,Ag,Ah (show LS s c from⟨Ya,.inl (by simpa using hq)⟩),e1]
     exact Lq
  have:=key _ FU b hP (Md _) rfl (by have:=Yx;omega)
  rwa [Int.sub_self] at this
 .simp[h]
theorem Yyz {b:Za} {s:Zb} (hb:b.sm) (hs:s.sm):nX b s=some (Yvu b s):=by
 unfold nX Yvu;rw[Y6c hb,Ag];unfold nW;by_cases h:okB b=true
 .have hP:=(uU hb).1 h
  rw[h,Ai (by simp)];by_cases hn:b.now=4000
  .rw[Ah (by simp[hn]),Ai (by simp[hn]),uR b hb]
   rfl
  .have:=hP.now
   rw[Ai (by simpa using hn),Ah ⟨rfl,hn⟩,Yfy hP hs (by omega)];rfl
 .have h2:okB b=false:=by simpa using h
  simp[h2,uR b hb]
def Gn (x:Int):ByteArray:=if x=0 then Ze [111,107,97,121] else if x=1 then Ze [101,114,114,111,114] else if x=2 then Ze [114,101,116,114,121] else if x=3 then Ze [115,112,108,105,116] else ByteArray.empty
theorem gE (x:Int):(Gn x).size<=5:=by
 unfold Gn
 repeat' split
 all_goals first|decide|(rw[Zw];simp)
theorem Ycn (x:Int):MP x=some (Gn x):=by
 by_cases h0:x < 0
 .unfold MP Z4 Gn
  rw[Ai (by simp;omega),Ai (by omega),Ai (by omega),Ai (by omega),Ai (by omega)];rfl
 .by_cases h3:3 < x
  .unfold MP Z4 Gn
   rw[Ah (by simp;omega),Ag,Ah (by simp;omega),Ai (by omega),Ai (by omega),Ai (by omega),Ai (by omega)]
  .have:x=0\/x=1\/x=2\/x=3:=by omega
   rcases this with rfl|rfl|rfl|rfl<;>rfl
theorem Ycy (x:Int):U0 x=some (Gn x):=by
 have hl:Y8 (([Ze [111,107,97,121],Ze [101,114,114,111,114],Ze [114,101,116,114,121],Ze [115,112,108,105,116]]:List ByteArray).length:Int) 1=3:=by rfl
 by_cases h0:x < 0
 .unfold U0 Sk Ys Gn
  rw[Ai (by simp;omega),Ai (by omega),Ai (by omega),Ai (by omega),Ai (by omega)];rfl
 .by_cases h3:3 < x
  .unfold U0 Sk Ys Gn
   rw[hl,Ah (by simp;omega),Ag,Ah (by simp;omega),Ai (by omega),Ai (by omega),Ai (by omega),Ai (by omega)];rfl
  .have:x=0\/x=1\/x=2\/x=3:=by omega
   rcases this with rfl|rfl|rfl|rfl<;>rfl
def Zt.B1 (d:Zt):Prop:=B0 d.A5/\B0 d.Aj/\B0 d.addr/\B0 d.value
def GI (d:Zt):List UInt8:=Lib.itoa d.A5++[32]++Lib.itoa d.Aj++[32]++(if d.write=true then [119,114,105,116,101] else [114,101,97,100])++[32]++Lib.itoa d.addr++[32]++Lib.itoa d.value++[32]++L8 (Gn d.Ar)
theorem uX {d:Zt} (h:d.B1):(GI d).length<=100:=by
 have h1:=Ji h.1;have h2:=Ji h.2.1;have h3:=Ji h.2.2.1;have h4:=Ji h.2.2.2;have h5:=gE d.Ar;rw[Z6] at h5;unfold GI;simp only[BW,AP,Bf];split<;>simp<;>omega
theorem Ytj {d:Zt} (h:d.B1):oL d=some ⟨(GI d).toArray⟩:=by
 have h1:=Xk h.1;have h2:=Xk h.2.1;have h3:=Xk h.2.2.1;have h4:=Xk h.2.2.2;have h5:=gE d.Ar;have key:∀v0:ByteArray,v0.size<=6->∃r,bE d v0=some r/\L8 r=Lib.itoa d.A5++[32]++Lib.itoa d.Aj++[32]++L8 v0++Lib.itoa d.addr++[32]++Lib.itoa d.value++[32]++L8 (Gn d.Ar):=λv0 hv=>by
  unfold bE;rw[Qc h.1,Qc h.2.1,Qc h.2.2.1,Qc h.2.2.2,Ycn];simp (disch:=(simp only[Yf,Zw,AP,Bf];omega)) only[Xg,Ag];refine⟨_,rfl,?_⟩;simp only[Wl,Z7,Y0]
 unfold oL;cases hw:d.write with
 | true=>
  rw[Ah rfl];obtain⟨r,e,hr⟩:=key (Ze [119,114,105,116,101,32]) (by rw[Zw];simp);rw[e];refine congrArg some (Jg ?_);rw[hr,Z7];refine GM ?_ (Xr (GI d)).symm;unfold GI;rw[Ah hw];simp
 | false=>
  rw[Ai (by simp)];obtain⟨r,e,hr⟩:=key (Ze [114,101,97,100,32]) (by rw[Zw];simp);rw[e];refine congrArg some (Jg ?_);rw[hr,Z7];refine GM ?_ (Xr (GI d)).symm;unfold GI;rw[Ai (by rw[hw];simp)];simp
theorem Yue {d:Zt} (h:d.B1):rY d=some ⟨(GI d).toArray⟩:=by
 have hl:=uX h;have ej:Lib.join ([Z1 d.A5,Z1 d.Aj,(if d.write=true then Ze [119,114,105,116,101] else Ze [114,101,97,100]),Z1 d.addr,Z1 d.value,Gn d.Ar].map L8) (L8 (Ze [32]))=GI d:=by
  unfold GI;simp only[CD,Ht,Lib.join,List.intercalate,List.intersperse,Ee,V6,Z7,Y0];cases d.write<;>simp[Z7]
 have hw:RX d.write=some (if d.write=true then Ze [119,114,105,116,101] else Ze [114,101,97,100]):=by
  unfold RX;cases d.write<;>rfl
 unfold rY;rw[HB h.1,HB h.2.1,HB h.2.2.1,HB h.2.2.2,Ycy,hw];simp only[Ag];rw[Nk (by simp) (by rw[ej];omega),Ag,ej]
def KI (x:Int):ByteArray:=if x=0 then Ze [105,100,108,101] else if x=2 then Ze [102,105,114,115,116] else if x=3 then Ze [110,101,120,116] else ByteArray.empty
theorem Ybs (x:Int):(KI x).size<=5:=by
 unfold KI
 repeat' split
 all_goals first|decide|(rw[Zw];simp)
theorem Yuh (x:Int):nY x=some (KI x):=by
 unfold nY KI;by_cases h0:x=0
 .rw[Ah (by simpa using h0),Ah h0]
 .rw[Ai (by simpa using h0),Ai h0]
  by_cases h2:x=2
  .rw[Ah (by simpa using h2),Ah h2]
  .rw[Ai (by simpa using h2),Ai h2]
   by_cases h3:x=3
   .rw[Ah (by simpa using h3),Ah h3]
   .rw[Ai (by simpa using h3),Ai h3]
theorem Yt4 (x:Int):cW x=some (KI x):=by
 have hl:Y8 (([Ze [105,100,108,101],ByteArray.empty,Ze [102,105,114,115,116],Ze [110,101,120,116]]:List ByteArray).length:Int) 1=3:=by rfl
 by_cases h0:x < 0
 .unfold cW Sk Ys KI
  rw[Ai (by simp;omega),Ai (by omega),Ai (by omega),Ai (by omega)];rfl
 .by_cases h3:3 < x
  .unfold cW Sk Ys KI
   rw[hl,Ah (by simp;omega),Ag,Ah (by simp;omega),Ai (by omega),Ai (by omega),Ai (by omega)];rfl
  .have:x=0\/x=1\/x=2\/x=3:=by omega
   rcases this with rfl|rfl|rfl|rfl<;>rfl
def Ec (x:Int):ByteArray:=if x < 0 then Ze [45] else Z1 x
theorem Jq {x:Int} (h:B0 x):(Ec x).size<=20:=by
 unfold Ec;split
 .rw[Zw];simp
 .exact Xk h
theorem Vl {x:Int} (h:B0 x):MT x=some (Ec x):=by
 unfold MT Ec;by_cases h0:x < 0
 .rw[Ah (by simpa using h0),Ah h0]
 .rw[Ai (by simpa using h0),Ai h0,Qc h];rfl
theorem Vm {x:Int} (h:B0 x):MX x=some (Ec x):=by
 unfold MX Ec;by_cases h0:x < 0
 .rw[Ah (by simpa using h0),Ah h0]
 .rw[Ai (by simpa using h0),Ai h0,HB h];rfl
structure Zr.B1 (w:Zr):Prop where
 A5:B0 w.A5
 Aj:B0 w.Aj
 addr:B0 w.addr
 from_:B0 w.from_
 Aa:B0 w.Aa
 C5:B0 w.C5
def Tb (b:Bool):List UInt8:=if b=true then [114,101,97,100,121] else [119,97,105,116]
def HH (w:Zr):List UInt8:=Lib.itoa w.A5++[32]++L8 (KI w.kind)++[32]++L8 (Ec w.Aj)++[58]++L8 (Ec w.addr)++[32]++L8 (Ec w.from_)++[58]++L8 (Ec w.Aa)++[32]++Tb w.ready++[32]++L8 (Gn w.Ar)++[32]++L8 (Ec w.C5)
theorem Yui {w:Zr} (h:w.B1):nZ w=some ⟨(HH w).toArray⟩:=by
 have h1:=Xk h.A5;have h2:=Jq h.Aj;have h3:=Jq h.addr;have h4:=Jq h.from_;have h5:=Jq h.Aa;have h6:=Jq h.C5;have h7:=gE w.Ar;have h8:=Ybs w.kind;have key:∀(v0:ByteArray) (X:List UInt8),v0.size<=1000->L8 v0++L8 (Gn w.Ar)++[32]++L8 (Ec w.C5)=X->bB w v0=some ⟨X.toArray⟩:=λv0 X hv hX=>by
  unfold bB;rw[Vl h.C5,Ycn];simp (disch:=(first|omega|(simp only[Yf,Zw,AP,Bf];omega))) only[Xg,Ag];refine congrArg some (Jg ?_);rw[<-hX];simp only[Wl,Z7];rfl
 unfold nZ;rw[Qc h.A5,Vl h.Aj,Vl h.addr,Vl h.from_,Vl h.Aa,Yuh];simp (disch:=(first|omega|(simp only[Yf,Zw,AP,Bf];omega))) only[Xg,Ag];cases hw:w.ready with
 | true=>
  rw[Ah rfl];refine key _ _ (by simp only[Yf,Zw,AP,Bf];omega) ?_;unfold HH Tb;rw[Ah hw];simp only[Wl,Z7,Y0,List.append_assoc,Hr,LZ]
 | false=>
  rw[Ai (by simp)];refine key _ _ (by simp only[Yf,Zw,AP,Bf];omega) ?_;unfold HH Tb;rw[Ai (by rw[hw];simp)];simp only[Wl,Z7,Y0,List.append_assoc,Hr,LZ]
theorem Yte {w:Zr} (h:w.B1):rI w=some ⟨(HH w).toArray⟩:=by
 have h1:=Xk h.A5;have h2:=Jq h.Aj;have h3:=Jq h.addr;have h4:=Jq h.from_;have h5:=Jq h.Aa;have h6:=Jq h.C5;have h7:=gE w.Ar;have h8:=Ybs w.kind;have key:∀v0:ByteArray,L8 v0=Tb w.ready->cX w v0=some ⟨(HH w).toArray⟩:=λv0 hv=>by
  have hv5:v0.size<=5:=by rw[Z6,hv];unfold Tb;split<;>simp
  have ej:Lib.join ([Z1 w.A5,KI w.kind,Ec w.Aj++Ze [58]++Ec w.addr,Ec w.from_++Ze [58]++Ec w.Aa,v0,Gn w.Ar,Ec w.C5].map L8) (L8 (Ze [32]))=HH w:=by
   unfold HH;simp only[CD,Ht,Lib.join,List.intercalate,List.intersperse,Ee,V6,Z7,Y0,Wl,hv];simp
  have hl:(HH w).length<=1000:=by
   rw[<-ej];simp only[CD,Ht,Lib.join,List.intercalate,List.intersperse,Ee,V6,BW,<-Z6,Yf,Zw,Z7,AP,Bf];omega
  unfold cX;rw[HB h.A5,Vm h.Aj,Vm h.addr,Vm h.from_,Vm h.Aa,Vm h.C5,Yt4,Ycy];simp (disch:=(simp only[Yf,Zw,AP,Bf];omega)) only[Xg,Ag];rw[Nk (by simp) (by rw[ej];omega),Ag,ej]
 unfold rI;cases hw:w.ready with
 | true=>rw[Ah rfl];exact key _ (by rw[hw];rfl)
 | false=>rw[Ai (by simp)];exact key _ (by rw[hw];rfl)
theorem uY {l:List Int} (hl:l.length < 1048577) (h:∀x∈l,B0 x):L4 l=some (l.map Z1):=by
 unfold L4;refine Jh (σ:=List ByteArray) (n:=l.length) (by omega) (λk=>(l.take k).map Z1) (B:=λκ st j=>o4 l κ st j) (L:=λm st j=>o5 l m st j) (λm s i=>rfl) (λk hk κ=>?_) λκ=>?_
 .unfold o4
  have h2:(l.take k).length<=k:=by rw[Ey];omega
  rw[Ah (by simpa using hk),Zx hk,Ag,HB (h _ (B6 hk)),Ag,Yr (by simp;omega) (by simp;omega),Ag,List.take_succ_eq_append_getElem hk,Gt];rfl
 .unfold o4
  rw[Ai (by simp),E9]
def Wt (l:List Int):List UInt8:=l.flatMap λx=>[32]++Lib.itoa x
theorem Yoj (l:List Int) (x:Int):Wt (l++[x])=Wt l++[32]++Lib.itoa x:=by
 unfold Wt;rw[vN];simp
theorem Tc:∀{l:List Int},(∀x∈l,B0 x)->(Wt l).length<=21*l.length:=by
 intro l
 induction l with
 | nil=>intro _;simp[Wt]
 | cons d l ih=>
  intro h;have h1:=Ji (h d BI);have h2:=ih λx hx=>h x (Cg _ hx);have e:Wt (d::l)=([32]++Lib.itoa d)++Wt l:=rfl;rw[e,BW,BW,AP];simp only[AP,Bf];omega
theorem Y79 (w:ByteArray) (l:List Int):Lib.join ((w::l.map Z1).map L8) [32]=L8 w++Wt l:=by
 rw[CD,Lib.join_cons]
 congr 1
 unfold Lib.joinTail Wt;rw[Hu,Hu,V7];rfl
theorem Yxa (a:ByteArray) (ws:List ByteArray) (l:List Int):Lib.join (((a::ws)++l.map Z1).map L8) [32]=Lib.join ((a::ws).map L8) [32]++Wt l:=by
 rw[Hr,CD,Lib.join_cons,CD,Lib.join_cons,List.append_assoc]
 congr 1
 unfold Lib.joinTail Wt;rw[Gt,Gt,List.flatten_append]
 congr 1
 rw[Hu,Hu,V7];rfl
def Hn (w:List UInt8) (l:List Int):List UInt8:=if l=[] then [] else w++Wt l++[10]
theorem Ycs {w:ByteArray} {l:List Int} (hw:w.size<=100) (hl:l.length < 1048577) (h:∀x∈l,B0 x):bT w l=some ⟨(Hn (L8 w) l).toArray⟩:=by
 unfold bT Hn;cases l with
 | nil=>rw[Ah (by simp),Ah rfl];rfl
 | cons x l=>
  rw[Ai (by simp;omega),Ai (by simp),uY hl h];have hn:=Tc h;have ej:Lib.join (((x::l).map Z1).map L8) (L8 (Ze [32]))=Lib.itoa x++Wt l:=by
   rw[Z7,CD,Y79,Y0]
  have en:Wt (x::l)=[32]++(Lib.itoa x++Wt l):=by unfold Wt;simp
  rw[en] at hn ⊢;have hb:(Lib.itoa x++Wt l).length<=30000000:=by rw[BW] at hn;simp only[AP,Bf] at hn hl;omega
  rw[Xg (by rw[Zw];simp;omega),Ag,Ag,Nk (by simp only[GL];omega) (by rw[ej];omega),Ag,ej];have z:(⟨(Lib.itoa x++Wt l).toArray⟩:ByteArray).size=(Lib.itoa x++Wt l).length:=by rw[Z6,Xr]
  rw[Xg (by simp only[Yf,Zw,z,AP,Bf];omega),Ag,Xg (by simp only[Yf,Zw,z,AP,Bf];omega),Ag];refine congrArg some (Jg (GM ?_ (Xr _).symm));rw[Wl,Wl,Wl,Z7,Z7,Xr (Lib.itoa x++Wt l)];simp
theorem Ygq {w:ByteArray} {l:List Int} (hw:w.size<=100) (hl:l.length < 1048577) (h:∀x∈l,B0 x):bK w l=some ⟨(Hn (L8 w) l).toArray⟩:=by
 have hn:=Tc h;unfold bK Hn;cases hc:l with
 | nil=>rw[Ah (by simp),Ah rfl];rfl
 | cons x r=>
  rw[<-hc,Ai (by rw[hc];simp;omega),Ai (by rw[hc];simp)];clear hc;have e0:w++(⟨(Wt (l.take 0)).toArray⟩:ByteArray)=w:=Jg (by rw[Wl,Xr (Wt (l.take 0))];simp[Wt]);have hs:∀k,(⟨(Wt (l.take k)).toArray⟩:ByteArray).size<=30000000:=λk=>by
   have h1:=Tc (l:=l.take k) λx hx=>h x (Gq hx);have h2:(l.take k).length<=l.length:=by rw[Ey];omega
   rw[Z6,Xr];omega
  refine GM (congrArg (λv=>bJ w l FU v 0) e0.symm) (Jh (σ:=ByteArray) (n:=l.length) (by omega) (λk=>w++(⟨(Wt (l.take k)).toArray⟩:ByteArray)) (B:=λκ st j=>oR w l κ st j) (L:=λm st j=>bJ w l m st j) (λm s i=>rfl) (λk hk κ=>?_) (λκ=>?_))
  .have h1:=hs k
   have h2:=Xk (h _ (B6 hk));unfold oR;rw[Ah (by simpa using hk),Xg (by simp only[Yf,Zw,AP,Bf];omega),Ag,Zx hk,Ag,Qc (h _ (B6 hk)),Ag,Xg (by simp only[Yf,Zw,AP,Bf];omega),Ag]
   congr 1
   refine Jg ?_;rw[Wl,Wl,Wl,Wl,Z7,Xr (Wt (l.take k)),Xr (Wt (l.take (k+1))),List.take_succ_eq_append_getElem hk,Yoj,Y0];simp
  .have h1:=hs l.length
   unfold oR;rw[Ai (by simp),Xg (by simp only[Yf,Zw,AP,Bf];omega),Ag];refine congrArg some (Jg (GM ?_ (Xr _).symm));rw[Wl,Wl,Z7,Xr (Wt (l.take l.length)),E9]
def Fj (s:Int):ByteArray:=if s=0 then Ze [98,121,116,101] else if s=1 then Ze [104,97,108,102] else Ze [119,111,114,100]
def Fk (b:Int):ByteArray:=if b=0 then Ze [111,110,101] else if b=1 then Ze [102,111,117,114] else if b=2 then Ze [119,114,97,112] else Ze [101,105,103,104,116]
theorem Ybw (x:Int):(Fj x).size<=5:=by
 unfold Fj
 repeat' split
 all_goals (rw[Zw];simp)
theorem Z8e (x:Int):(Fk x).size<=5:=by
 unfold Fk
 repeat' split
 all_goals (rw[Zw];simp)
theorem uZ {r:Zj} (h:Qk r=true):idx [Ze [98,121,116,101],Ze [104,97,108,102],Ze [119,111,114,100]] r.size=some (Fj r.size)/\idx [Ze [111,110,101],Ze [102,111,117,114],Ze [119,114,97,112],Ze [101,105,103,104,116]] r.Az=some (Fk r.Az):=by
 have hb:=(KB h).1;have hl:=Pb hb;have h2:r.Az=0\/r.Az=1\/r.Az=2\/r.Az=3:=by
  have:=hl.2;unfold X1 at this
  repeat' split at this
  all_goals omega
 have h1:r.size=0\/r.size=1\/r.size=2:=by
  have Yj:Ku r.addr r.size r.Az≠[]:=λe=>by rw[e] at hl;simp at hl;omega
  have hn:(X1 r.Az).toNat≠0:=by omega
  obtain⟨n,T1⟩:=Nat.exists_eq_succ_of_ne_zero hn;have hx:¬Gj r.addr r.size r.Az < 0:=λe=>Yj (by
   unfold Ku;rw[T1];unfold EP;rw[Ah e];rfl)
  have ha:Wb r.addr r.size=true:=by
   unfold Gj at hx;by_cases hc:(Wb r.addr r.size=true/\r.addr < 512)/\X1 r.Az≠0
   .exact hc.1.1
   .rw[Ai hc] at hx;omega
  have:=(Jz ha).1;unfold Y3 at this
  repeat' split at this
  all_goals omega
 constructor
 .rcases h1 with e|e|e<;>rw[e]<;>rfl
 .rcases h2 with e|e|e|e<;>rw[e]<;>rfl
def LU (b:Bool):List UInt8:=if b=true then [32,108,111,99,107] else []
def Eu (b:Bool):List UInt8:=if b=true then [119,114,105,116,101] else [114,101,97,100]
def Kw (r:Zj):List UInt8:=Eu r.write++[32]++L8 (Fj r.size)++[32]++L8 (Fk r.Az)++[32]++Lib.itoa r.addr++LU r.lock++Wt r.Aa
def Zj.B1 (r:Zj):Prop:=B0 r.addr/\∀x∈r.Aa,B0 x
theorem Vn {r:Zj} (h:Qk r=true):r.Aa.length<=8:=by
 have h1:=(KB h).2.1;have h2:=Np r.Az;split at h1<;>omega
theorem Z9b {r:Zj} (hd:r.Aa.length<=8) (hn:∀x∈r.Aa,B0 x) {v0:ByteArray} (hv:v0.size<=1000):Uh r FU v0 0=some ⟨(L8 v0++Wt r.Aa).toArray⟩:=by
 have e0:v0++(⟨(Wt (r.Aa.take 0)).toArray⟩:ByteArray)=v0:=Jg (by rw[Wl,Xr (Wt (r.Aa.take 0))];simp[Wt]);have hs:∀k,(⟨(Wt (r.Aa.take k)).toArray⟩:ByteArray).size<=300:=λk=>by
  have h1:=Tc (l:=r.Aa.take k) λx hx=>hn x (Gq hx);have h2:(r.Aa.take k).length<=r.Aa.length:=by rw[Ey];omega
  rw[Z6,Xr];omega
 refine GM (congrArg (λv=>Uh r FU v 0) e0.symm) (Jh (σ:=ByteArray) (n:=r.Aa.length) (by omega) (λk=>v0++(⟨(Wt (r.Aa.take k)).toArray⟩:ByteArray)) (B:=λκ st j=>oP r κ st j) (L:=λm st j=>Uh r m st j) (λm s i=>rfl) (λk hk κ=>?_) (λκ=>?_))
 .have h1:=hs k
  have h2:=Xk (hn _ (B6 hk));unfold oP;rw[Ah (by simpa using hk),Xg (by simp only[Yf,Zw,AP,Bf];omega),Ag,Zx hk,Ag,Qc (hn _ (B6 hk)),Ag,Xg (by simp only[Yf,Zw,AP,Bf];omega),Ag]
  congr 1
  refine Jg ?_;rw[Wl,Wl,Wl,Wl,Z7,Xr (Wt (r.Aa.take k)),Xr (Wt (r.Aa.take (k+1))),List.take_succ_eq_append_getElem hk,Yoj,Y0];simp
 .unfold oP
  rw[Ai (by simp)];refine congrArg some (Jg (GM ?_ (Xr _).symm));rw[Wl,Xr (Wt (r.Aa.take r.Aa.length)),E9]
theorem Z4s {r:Zj} (hs:r.sm) (hn:r.B1):RJ r=some (if Qk r=true then ⟨(Kw r).toArray⟩ else ByteArray.empty):=by
 unfold RJ;rw[Ya1 r hs,Ag];by_cases h:Qk r=true
 .rw[Ai (by simp[h]),Ah h]
  have z1:=Ybw r.size;have z2:=Z8e r.Az;have z3:=Xk hn.1;have hd:=Vn h;have key:∀(v0:ByteArray),v0.size<=5->L8 v0=Eu r.write->bI r v0=some ⟨(Kw r).toArray⟩:=λv0 hv hw=>by
   unfold bI;rw[(uZ h).1,(uZ h).2,Qc hn.1];simp (disch:=(first|omega|(simp only[Yf,Zw,AP,Bf];omega))) only[Xg,Ag];unfold oQ;cases hk:r.lock with
   | true=>
    rw[Ah rfl,Z9b hd hn.2 (by simp only[Yf,Zw,AP,Bf];omega)];refine congrArg some (Jg (GM (Xr _) (GM ?_ (Xr _).symm)));unfold Kw LU;rw[hk,Ah rfl];simp only[Wl,Z7,Y0,hw]
   | false=>
    rw[Ai (by simp),Z9b hd hn.2 (by simp only[Yf,Zw,AP,Bf];omega)];refine congrArg some (Jg (GM (Xr _) (GM ?_ (Xr _).symm)));unfold Kw LU;rw[hk,Ai (by simp),FZ];simp only[Wl,Z7,Y0,hw]
  cases hw:r.write with
  | true=>rw[Ah rfl];exact key _ (by rw[Zw];simp) (by rw[hw];rfl)
  | false=>rw[Ai (by simp)];exact key _ (by rw[Zw];simp) (by rw[hw];rfl)
 .rw[Ah (by simp[h]),Ai h]
theorem Yds {r:Zj} (hs:r.sm) (hn:r.B1):Uo r=some (if Qk r=true then ⟨(Kw r).toArray⟩ else ByteArray.empty):=by
 unfold Uo;rw[tV r hs,Ag];by_cases h:Qk r=true
 .rw[Ai (by simp[h]),Ah h]
  have z1:=Ybw r.size;have z2:=Z8e r.Az;have z3:=Ji hn.1;have hd:=Vn h;have z4:=Tc hn.2;rw[Z6] at z1 z2;have hw:RX r.write=some (Ze (Eu r.write)):=by
   unfold RX Eu;cases r.write<;>rfl
  have zw:(Eu r.write).length<=5:=by unfold Eu;split<;>simp
  rw[hw,Ag];unfold Um Un;rw[Ag,(uZ h).1,Ag,Ag,(uZ h).2,Ag,HB hn.1,Ag,uY (by omega) hn.2];cases hk:r.lock with
  | true=>
   have ej:Lib.join (([Ze (Eu r.write),Fj r.size,Fk r.Az,Z1 r.addr,Ze [108,111,99,107]]++r.Aa.map Z1).map L8) (L8 (Ze [32]))=Kw r:=by
    rw[Z7,Yxa];unfold Kw LU;rw[hk,Ah rfl]
    congr 1
    simp only[CD,Ht,Lib.join,List.intercalate,List.intersperse,Ee,V6,Z7,Y0];simp
   have hl:(Kw r).length<=1000:=by
    unfold Kw LU;rw[hk,Ah rfl];simp only[BW,AP,Bf];omega
   rw[Ah rfl,Yr (by simp) (by simp),Ag,Ag,Yr (by simp;omega) (by simp;omega),Ag];show (Qt ([Ze (Eu r.write),Fj r.size,Fk r.Az,Z1 r.addr,Ze [108,111,99,107]]++r.Aa.map Z1) (Ze [32])).bind _=_;rw[Nk (by simp;omega) (by rw[ej];omega),ej];rfl
  | false=>
   have ej:Lib.join (([Ze (Eu r.write),Fj r.size,Fk r.Az,Z1 r.addr]++r.Aa.map Z1).map L8) (L8 (Ze [32]))=Kw r:=by
    rw[Z7,Yxa];unfold Kw LU;rw[hk,Ai (by simp),FZ]
    congr 1
    simp only[CD,Ht,Lib.join,List.intercalate,List.intersperse,Ee,V6,Z7,Y0];simp
   have hl:(Kw r).length<=1000:=by
    unfold Kw LU;rw[hk,Ai (by simp)];simp only[BW,AP,Bf];omega
   rw[Ai (by simp),Ag,Yr (by simp;omega) (by simp;omega),Ag,Nk (by simp;omega) (by rw[ej];omega),ej];rfl
 .rw[Ah (by simp[h]),Ai h]
theorem Qx (a b:ByteArray):(a.toList == b.toList)=decide (L8 a=L8 b):=by
 rw[Lib.toList_data,Lib.toList_data];by_cases h:L8 a=L8 b
 .rw[decide_eq_true h];exact beq_iff_eq.2 h
 .rw[decide_eq_false h];exact beq_eq_false_iff_ne.2 h
def FV (p:Zm):List UInt8:=[112,111,115,116,32]++Lib.itoa p.at_++[32]++Lib.itoa p.Aj++[32]++Kw p.Bq++[10]
def Zm.B1 (p:Zm):Prop:=B0 p.at_/\B0 p.Aj/\p.Bq.B1
theorem Y28 (r:Zj):Kw r≠[]:=by
 unfold Kw Eu;split<;>simp
theorem gF {r:Zj} (h:Qk r=true) (hn:r.B1):(Kw r).length<=300:=by
 have z1:=Ybw r.size;have z2:=Z8e r.Az;have z3:=Ji hn.1;have hd:=Vn h;have z4:=Tc hn.2;rw[Z6] at z1 z2;have zw:(Eu r.write).length<=5:=by unfold Eu;split<;>simp
 have zl:(LU r.lock).length<=5:=by unfold LU;split<;>simp
 unfold Kw;simp only[BW,AP,Bf];omega
theorem Ywx {r:Zj}:((⟨(Kw r).toArray⟩:ByteArray).toList == ByteArray.empty.toList)=false:=by
 rw[Qx,Xr,Gh];simp[Y28]
theorem Yr1:(ByteArray.empty.toList == ByteArray.empty.toList)=true:=by rw[Qx];simp
def HI (v0:ByteArray) (ps:List Zm):ByteArray:=if ps.all (λp=>Qk p.Bq)=true then ⟨(L8 v0++ps.flatMap FV).toArray⟩ else ByteArray.empty
theorem Ysx (v0:ByteArray):HI v0 []=v0:=by
 unfold HI;rw[Ah (by simp)];exact Jg (by rw[Xr (L8 v0++([]:List Zm).flatMap FV)];simp)
theorem Yst {p:Zm} {ps:List Zm} (h:¬Qk p.Bq=true) (v0:ByteArray):HI v0 (p::ps)=ByteArray.empty:=by
 unfold HI;rw[Ai (by simp[h])]
theorem Yoh {p:Zm} {ps:List Zm} (h:Qk p.Bq=true) {v0 v1:ByteArray} (hv:L8 v1=L8 v0++FV p):HI v0 (p::ps)=HI v1 ps:=by
 unfold HI;rw[hv,Ef,h,Hs,FY,List.append_assoc]
theorem Yhw {s:Zb} (hp:s.Am.length < 1048600) (Yl:∀p∈s.Am,p.B1/\p.Bq.sm):∀(m k:Nat) (v0:ByteArray),k<=s.Am.length->s.Am.length - k < m->v0.size<=100000000+1000*k->
  bL s m v0 (k:Int)=some (HI v0 (s.Am.drop k)):=by
 intro m
 induction m with
 | zero=>intro k v0 _ h;omega
 | succ m ih=>
  intro k v0 hk hm hv;show Zoy s (bL s m) v0 (k:Int)=_;unfold Zoy;by_cases hc:k < s.Am.length
  .obtain⟨⟨n1,n2,n3⟩,n4⟩:=Yl _ (B6 hc)
   have z1:=Xk n1;have z2:=Xk n2;rw[Ah (by simpa using hc),Zx hc,Ag,Z4s n4 n3,Ag,DG hc];by_cases hr:Qk s.Am[k].Bq=true
   .have z3:=gF hr n3
    have z4:(⟨(Kw s.Am[k].Bq).toArray⟩:ByteArray).size<=300:=by rw[Z6,Xr];exact z3
    rw[Ah hr,Ai (by rw[Ywx];simp),Qc n1,Qc n2];simp (disch:=(first|omega|(simp only[Yf,Zw,AP,Bf];omega))) only[Xg,Ag];rw[Z8 (by omega),ih (k+1) _ (by omega) (by omega) (by simp only[Yf,Zw,AP,Bf];omega)];refine congrArg some (Yoh hr ?_).symm;simp only[Wl,Z7,Y0,Xr (Kw s.Am[k].Bq)];unfold FV;simp
   .rw[Ai hr,Ah (by rw[Yr1]),Yst hr]
  .rw[Ai (by simpa using hc),Fu (by omega),Ysx]
theorem Yh0 {s:Zb} (hp:s.Am.length < 1048600) (Yl:∀p∈s.Am,p.B1/\p.Bq.sm):∀(m k:Nat) (v0:ByteArray),k<=s.Am.length->s.Am.length - k < m->v0.size<=100000000+1000*k->
  bU s m v0 (k:Int)=some (HI v0 (s.Am.drop k)):=by
 intro m
 induction m with
 | zero=>intro k v0 _ h;omega
 | succ m ih=>
  intro k v0 hk hm hv;show Zo1 s (bU s m) v0 (k:Int)=_;unfold Zo1;by_cases hc:k < s.Am.length
  .obtain⟨⟨n1,n2,n3⟩,n4⟩:=Yl _ (B6 hc)
   have z1:=Xk n1;have z2:=Xk n2;rw[Ah (by simpa using hc),Zx hc,Ag,Yds n4 n3,Ag,DG hc];by_cases hr:Qk s.Am[k].Bq=true
   .have z3:=gF hr n3
    have z4:(⟨(Kw s.Am[k].Bq).toArray⟩:ByteArray).size<=300:=by rw[Z6,Xr];exact z3
    rw[Ah hr,Ai (by rw[Ywx];simp),HB n1,HB n2];simp (disch:=(first|omega|(simp only[Yf,Zw,AP,Bf];omega))) only[Xg,Ag];rw[Z8 (by omega),ih (k+1) _ (by omega) (by omega) (by simp only[Yf,Zw,AP,Bf];omega)];refine congrArg some (Yoh hr ?_).symm;simp only[Wl,Z7,Y0,Xr (Kw s.Am[k].Bq)];unfold FV;simp
   .rw[Ai hr,Ah (by rw[Yr1]),Yst hr]
  .rw[Ai (by simpa using hc),Fu (by omega),Ysx]
structure N0 (s:Zb):Prop where
 FW:s.Am.length < 1048600
 waits:s.waits.length < 1048577
 A3:s.A3.length < 1048577
 Am:∀p∈s.Am,p.B1/\p.Bq.sm
 wn:∀x∈s.waits,B0 x
 sn:∀x∈s.A3,B0 x
def KJ (s:Zb):ByteArray:=⟨(Hn [119,97,105,116,115] s.waits).toArray⟩++⟨(Hn [115,97,121,115] s.A3).toArray⟩
theorem Ywh {w:List UInt8} (hw:w.length<=10) {l:List Int} (hl:l.length < 1048577) (h:∀x∈l,B0 x):(Hn w l).length<=30000000:=by
 have:=Tc h;unfold Hn;split
 .simp
 .simp only[BW,AP,Bf];omega
theorem Yh1 {s:Zb} (h:N0 s):(⟨(Hn [119,97,105,116,115] s.waits).toArray⟩:ByteArray).size<=30000000/\(⟨(Hn [115,97,121,115] s.A3).toArray⟩:ByteArray).size<=30000000:=by
 rw[Z6,Z6,Xr,Xr];exact⟨Ywh (by simp) h.waits h.wn,Ywh (by simp) h.A3 h.sn⟩
theorem Z5j {s:Zb} (h:N0 s):oS s=some (HI (KJ s) s.Am):=by
 have ⟨z1,z2⟩:=Yh1 h;unfold oS;rw[Ygq (by rw[Zw];simp) h.waits h.wn,Ag,Ygq (by rw[Zw];simp) h.A3 h.sn,Ag,Z7,Z7,Xg (by omega),Ag];have:=Yhw h.FW h.Am FU 0 (KJ s) (BM _) (by have:=Yx;have:=h.FW;omega) (by unfold KJ;rw[Yf];omega);exact this
theorem Z7a {s:Zb} (h:N0 s):pE s=some (HI (KJ s) s.Am):=by
 have ⟨z1,z2⟩:=Yh1 h;unfold pE;rw[Ycs (by rw[Zw];simp) h.waits h.wn,Ag,Ycs (by rw[Zw];simp) h.A3 h.sn,Ag,Z7,Z7,Xg (by omega),Ag];have:=Yh0 h.FW h.Am FU 0 (KJ s) (BM _) (by have:=Yx;have:=h.FW;omega) (by unfold KJ;rw[Yf];omega);exact this
def Ym (c:UInt8):List UInt8->List (List UInt8)
 | []=>[[]]
 | x::l=>if x=c then []::Ym c l else match Ym c l with
  | []=>[[x]]
  | w::r=>(x::w)::r
theorem Td (c:UInt8) (l:List UInt8):Ym c l≠[]:=by
 cases l with
 | nil=>simp[Ym]
 | cons x l=>
  unfold Ym;split
  .simp
  .split<;>simp
theorem Vo {c:UInt8}:∀{w:List UInt8},(∀x∈w,x≠c)->∀l,Ym c (w++c::l)=w::Ym c l:=by
 intro w
 induction w with
 | nil=>intro _ l;simp[Ym]
 | cons x w ih=>
  intro h l;rw[Hr,Ym,Ai (h x BI),ih (λy hy=>h y (Cg _ hy)) l]
theorem Te {c:UInt8}:∀{w:List UInt8},(∀x∈w,x≠c)->Ym c w=[w]:=by
 intro w
 induction w with
 | nil=>intro _;rfl
 | cons x w ih=>
  intro h;rw[Ym,Ai (h x BI),ih (λy hy=>h y (Cg _ hy))]
theorem u0 {c:UInt8}:∀{ws:List (List UInt8)},ws≠[]->(∀w∈ws,∀x∈w,x≠c)->Ym c (Lib.join ws [c])=ws:=by
 intro ws
 induction ws with
 | nil=>intro h;exact absurd rfl h
 | cons w r ih=>
  intro _ h;have hw:=h w BI;cases r with
  | nil=>rw[Lib.join_one,Te hw]
  | cons v r=>
   have e:Lib.join (w::v::r) [c]=w++c::Lib.join (v::r) [c]:=by
    rw[Lib.join_cons,Lib.join_cons];simp[Lib.joinTail]
   rw[e,Vo hw,ih (by simp) λu hu=>h u (Cg _ hu)]
theorem Ygl (c:UInt8):∀l:List UInt8,(Ym c l).length<=l.length+1:=by
 intro l
 induction l with
 | nil=>simp[Ym]
 | cons x l ih=>
  unfold Ym;split
  .simp;omega
  .split
   .simp
   .rename_i w r h
    rw[h] at ih;simp at ih ⊢;omega
theorem Yb0 {c:UInt8}:∀{l w:List UInt8},w∈Ym c l->w.length<=l.length:=by
 intro l
 induction l with
 | nil=>intro w h;simp[Ym] at h;simp[h]
 | cons x l ih=>
  intro w h;unfold Ym at h;split at h
  .rcases BX.1 h with rfl|h
   .simp
   .have:=ih h;simp;omega
  .split at h
   .rename_i hs;exact absurd hs (Td c l)
   .rename_i v r hs
    rcases BX.1 h with rfl|h
    .have:=ih (w:=v) (by rw[hs];exact BI);simp;omega
    .have:=ih (w:=w) (by rw[hs];exact Cg _ h);simp;omega
theorem Y5f (c:UInt8):∀s:List UInt8,Lib.splitK [c] 0 (s.count c) s=Ym c s:=by
 intro s
 induction s with
 | nil=>rfl
 | cons b l ih=>
  by_cases hb:b=c
  .subst hb
   rw[List.count_cons_self,Lib.splitK];have hi:Lib.index (b::l) [b]=0:=by
    unfold Lib.index;rw[Ah (by simp[List.isPrefixOf])]
   rw[hi,Ai (by decide),Ym,Ah rfl];show _::Lib.splitK [b] 0 (l.count b) l=_;rw[ih];rfl
  .have hc:(b::l).count c=l.count c:=List.count_cons_of_ne hb
   have hi:Lib.index (b::l) [c]=if (Lib.index l [c] == -1)=true then -1 else Lib.index l [c]+1:=by
    rw[Lib.index,Ai (by simp[List.isPrefixOf];exactλh=>hb h.symm)]
   rw[hc,Ym,Ai hb,<-ih];cases hk:l.count c with
   | zero=>rfl
   | succ k=>
    have Yj:¬(Lib.index l [c] == -1)=true:=λh=>by
     have h0:Lib.count l [c]=0:=Lib.count_miss (beq_iff_eq.1 h);rw[Lib.count_one] at h0;omega
    have hg:=Lib.index_ge l [c];have hne2:Lib.index l [c]≠-1:=λh=>Yj (beq_iff_eq.2 h);rw[Ai Yj] at hi;rw[Lib.splitK,Lib.splitK,hi,Ai Yj,Ai (by rw[beq_iff_eq];omega)];have e1:(Lib.index l [c]+1).toNat=(Lib.index l [c]).toNat+1:=by omega
    rw[e1];rfl
theorem KK {x:ByteArray} (c:UInt8) (h:x.size < 4294967281):∃ws,K7 x (Ze [c])=some ws/\ws.map L8=Ym c (L8 x):=by
 unfold K7;rw[Ah ⟨h,by rw[Zw];simp⟩];refine⟨_,rfl,?_⟩;have:=Lib.splitB_data (Ze [c]) 0 (Lib.countB x (Ze [c])) x;have e:Lib.countB x (Ze [c])=(L8 x).count c:=Lib.count_one c (L8 x);rw[e] at this ⊢;exact this.trans (Y5f c (L8 x))
theorem Ho {x:ByteArray} {k:Nat} (h:k < (L8 x).length):FH x (k:Int)=some ((L8 x)[k].toNat:Int):=by
 have h2:k < x.size:=by rw[Z6];exact h
 unfold FH;rw[Ah (by omega),Iy];have:x[k]?=some (L8 x)[k]:=by
  rw[getElem?_pos x k h2];rfl
 rw[this];rfl
theorem N1 {x:ByteArray} {a b:Nat} (h1:a<=b) (h2:b<=(L8 x).length):∃y,EI x (a:Int) (b:Int)=some y/\L8 y=((L8 x).drop a).take (b - a):=by
 unfold EI;rw[Ah ⟨by omega,by omega,by rw[Z6,Iy];exact h2⟩];exact⟨_,rfl,Lib.extract_data x _ _⟩
theorem HJ {x:ByteArray} (c:UInt8) (h:x.size < 4294967281):∃ws,W0 x (c.toNat:Int)=some ws/\ws.map L8=Ym c (L8 x):=by
 rw[Z6] at h;have key:∀(m i a:Nat) (out:List ByteArray),i<=(L8 x).length->(L8 x).length - i < m->a<=i->out.length<=a->(∀y∈((L8 x).drop a).take (i - a),y≠c)->
   ∃ws,ZP x (c.toNat:Int) m out (a:Int) (i:Int)=some ws/\ws.map L8=out.map L8++Ym c ((L8 x).drop a):=by
  intro m
  induction m with
  | zero=>intro i a out _ hm;omega
  | succ m ih=>
   intro i a out hi hm ha ho hn;show ∃ws,Zyj x (c.toNat:Int) (ZP x (c.toNat:Int) m) out (a:Int) (i:Int)=some ws/\_;unfold Zyj;by_cases hc:i < (L8 x).length
   .rw[Ah (by rw[Z6];simpa using hc),Ho hc,Ag]
    have Xdy:(L8 x).drop a=((L8 x).drop a).take (i - a)++(L8 x)[i]::(L8 x).drop (i+1):=by
     have e:=(List.take_append_drop (i - a) ((L8 x).drop a)).symm;rw[List.drop_drop,show a+(i - a)=i by omega,DG hc] at e;exact e
    by_cases hx:(L8 x)[i]=c
    .obtain⟨y,Cp,D8⟩:=N1 (x:=x) ha hi
     rw[Ah (by rw[hx];simp),Cp,Ag,Yr (by simp;omega) (by simp;omega),Ag,Z8 (by omega)];obtain⟨ws,h1,h2⟩:=ih (i+1) (i+1) (out++[y]) (by omega) (by omega) (by omega) (by simp;omega) (by simp);refine⟨ws,h1,?_⟩;rw[hx] at Xdy;rw[h2,Xdy,Vo hn,Gt,List.append_assoc,CD,Ht,D8];rfl
    .rw[Ai (by
      rw[Bl];intro he;exact hx (vX.1 (by omega))),Z8 (by omega)]
     refine ih (i+1) a out (by omega) (by omega) (by omega) ho λy hy=>?_;rw[show i+1 - a=(i - a)+1 by omega,List.take_add_one] at hy;rcases BP.1 hy with hy|hy
     .exact hn y hy
     .rw[D4,show a+(i - a)=i by omega,C6 hc] at hy
      simp at hy;rw[hy];exact hx
   .have hil:i=(L8 x).length:=by omega
    obtain⟨y,Cp,D8⟩:=N1 (x:=x) (a:=a) (b:=(L8 x).length) (by omega) (B2 _);rw[Ai (by rw[Z6];simpa using hc),show ((x.size:Nat):Int)=((L8 x).length:Int) by rw[Z6],Cp,Ag,Yr (by simp;omega) (by simp;omega),Ag];refine⟨_,rfl,?_⟩;have ht:((L8 x).drop a).take ((L8 x).length - a)=(L8 x).drop a:=by rw[DH (by simp)]
    rw[hil,ht] at hn;rw[Gt,CD,Ht,D8,ht,Te hn]
 obtain⟨ws,h1,h2⟩:=key FU 0 0 [] (BM _) (by have:=Yx;omega) (B2 _) (B2 _) (by simp);exact⟨ws,h1,by simpa using h2⟩
def Q3 (c:UInt8):Prop:=48<=c.toNat/\c.toNat<=57
instance (c:UInt8):Decidable (Q3 c):=inferInstanceAs (Decidable (_/\_))
theorem N2 {d:Nat} (h:d < 10):(UInt8.ofNat (48+d)).toNat=48+d:=by
 rw[UInt8.toNat_ofNat'];omega
theorem Yyq:∀(k u:Nat),u < 10^(k+1)->∀c∈Lib.decDigits u,Q3 c:=by
 intro k
 induction k with
 | zero=>
  intro u hu c hc;rw[Lib.decDigits,dif_pos (by omega)] at hc;rw[List.mem_singleton] at hc;subst hc;have:=N2 (d:=u) (by omega);unfold Q3;omega
 | succ k ih=>
  intro u hu c hc;rw[Lib.decDigits] at hc;split at hc
  .rw[List.mem_singleton] at hc;subst hc
   have:=N2 (d:=u) (by omega);unfold Q3;omega
  .rcases BP.1 hc with hc|hc
   .exact ih (u / 10) (by rw[Tw] at hu;omega) c hc
   .rw[List.mem_singleton] at hc;subst hc
    have:=N2 (d:=u % 10) (by omega);unfold Q3;omega
theorem Yyt (u:Nat):u < 10^(u+1):=by
 have h1:u < 2^u:=Nat.lt_two_pow_self;have h2:2^u<=10^u:=Nat.pow_le_pow_left (by omega) u;have h3:10^u<=10^(u+1):=V1 (by omega) (by omega);omega
theorem LV {u:Nat} {c:UInt8} (h:c∈Lib.decDigits u):Q3 c:=Yyq u u (Yyt u) c h
theorem Ygp (u:Nat):Lib.decDigits u≠[]:=by
 rw[Lib.decDigits];split<;>simp
theorem Y3a {v:Int} {c:UInt8} (h:c∈Lib.itoa v):c=45\/Q3 c:=by
 unfold Lib.itoa at h;split at h
 .rcases BX.1 h with h|h
  .exact .inl h
  .exact .inr (LV h)
 .exact .inr (LV h)
theorem KL {v:Int} {c b:UInt8} (h:c∈Lib.itoa v) (hb:b.toNat=32\/b.toNat=58\/b.toNat=10):c≠b:=by
 rintro rfl;rcases Y3a h with rfl|h
 .rcases hb with hb|hb|hb<;>cases hb
 .unfold Q3 at h;omega
theorem Yp9 (v:Int):Lib.itoa v≠[]:=by
 unfold Lib.itoa;split
 .simp
 .exact Ygp _
theorem Yw3 {v:Int}:∃c l,Lib.itoa v=c::l:=by
 cases h:Lib.itoa v with
 | nil=>exact absurd h (Yp9 v)
 | cons c l=>exact⟨c,l,rfl⟩
def E5 (a:Nat) (c:UInt8):Nat:=if Q3 c then a*10+(c.toNat - 48) else a
theorem Y19:∀(k u:Nat),u < 10^(k+1)->(Lib.decDigits u).foldl E5 0=u:=by
 intro k
 induction k with
 | zero=>
  intro u hu;have e:=N2 (d:=u) (by omega);rw[Lib.decDigits,dif_pos (by omega)];simp only[HO,iN,E5];rw[Ah (by unfold Q3;omega)];omega
 | succ k ih=>
  intro u hu;rw[Lib.decDigits];split
  .have e:=N2 (d:=u) (by omega)
   simp only[HO,iN,E5];rw[Ah (by unfold Q3;omega)];omega
  .have e:=N2 (d:=u % 10) (by omega)
   rw[Tt,ih (u / 10) (by rw[Tw] at hu;omega)];simp only[HO,iN,E5];rw[Ah (by unfold Q3;omega)];omega
theorem gG (u:Nat):(Lib.decDigits u).foldl E5 0=u:=Y19 u u (Yyt u)
theorem u1 (v:Int):(Lib.itoa v).foldl E5 0=v.natAbs:=by
 unfold Lib.itoa;split
 .rw[HO]
  show (Lib.decDigits v.natAbs).foldl E5 (if Q3 45 then _ else 0)=_;rw[Ai (by unfold Q3;decide),gG]
 .rw[gG];omega
theorem Y8e:∀(l1 l2:List UInt8) (a:Nat),Lib.parseUint10 a (l1++l2)=match Lib.parseUint10 a l1 with|.ok u=>Lib.parseUint10 u l2|Lib.NumEnd.syntax=>Lib.NumEnd.syntax|.range=>.range:=by
 intro l1
 induction l1 with
 | nil=>intro l2 a;rfl
 | cons c r ih=>
  intro l2 a;simp only[Hr,Lib.parseUint10];split
  .split
   .rfl
   .split
    .rfl
    .exact ih l2 _
  .rfl
theorem Yvp:∀(k u:Nat),u < 10^(k+1)->u < 18446744073709551616->Lib.parseUint10 0 (Lib.decDigits u)=.ok u:=by
 intro k
 induction k with
 | zero=>
  intro u hu hb;have e:=N2 (d:=u) (by omega);rw[Lib.decDigits,dif_pos (by omega)];simp only[Lib.parseUint10];rw[Ah (by omega),Ai (by omega),Ai (by omega)]
  congr 1;omega
 | succ k ih=>
  intro u hu hb;rw[Lib.decDigits];split
  .have e:=N2 (d:=u) (by omega)
   simp only[Lib.parseUint10];rw[Ah (by omega),Ai (by omega),Ai (by omega)]
   congr 1;omega
  .have e:=N2 (d:=u % 10) (by omega)
   rw[Y8e,ih (u / 10) (by rw[Tw] at hu;omega) (by omega)];simp only[Lib.parseUint10];rw[Ah (by omega),Ai (by omega),Ai (by omega)]
   congr 1;omega
theorem Y73 {v:Int} (h:B0 v):Lib.atoiAll (Lib.itoa v)=.ok v:=by
 obtain⟨h1,h2⟩:=h;have hp:∀u:Nat,u < 18446744073709551616->Lib.parseMag (Lib.decDigits u)=.ok u:=λu hu=>by
  unfold Lib.parseMag;rw[Ai (Ygp u),Yvp u u (Yyt u) hu]
 unfold Lib.itoa;split
 .rename_i hn
  rw[Lib.atoiAll_minus,hp _ (by omega)];unfold Lib.signed;simp only;rw[Ai (by omega)]
  congr 1;omega
 .rename_i hn
  obtain⟨c,l,hl⟩:∃c l,Lib.decDigits v.toNat=c::l:=by
   cases h:Lib.decDigits v.toNat with
   | nil=>exact absurd h (Ygp _)
   | cons c l=>exact⟨c,l,rfl⟩
  have hd:Q3 c:=LV (u:=v.toNat) (by rw[hl];exact BI);unfold Q3 at hd;rw[hl,Lib.atoiAll_plain c l (by omega) (by omega),<-hl,hp _ (by omega)];unfold Lib.signless;simp only;rw[Ai (by omega)]
  congr 1;omega
theorem Vp {k u:Nat} (h:u < 10^(k+1)):(Lib.decDigits u).length<=k+1:=Z4k k u h
theorem Yno {v d:Int} (h:-1000000000000000000 < v/\v < 1000000000000000000) (hd:18<=d):L1 (Z1 v) d=some (v,true):=by
 have hr:B0 v:=⟨by omega,by omega⟩;have hz:=Xk hr;unfold L1;have e:(Z1 v).data.toList=Lib.itoa v:=rfl;rw[Ah (by omega),e,Y73 hr];simp only;rw[Ah];refine⟨trivial,?_⟩;unfold Lib.trimPrefix;by_cases hn:v < 0
 .have e2:Lib.itoa v=45::Lib.decDigits v.natAbs:=by unfold Lib.itoa;rw[Ah hn]
  have:=Vp (k:=17) (u:=v.natAbs) (by omega);rw[e2,Ah (by simp[Lib.hasPrefix,List.isPrefixOf])];simp;omega
 .have e2:Lib.itoa v=Lib.decDigits v.toNat:=by unfold Lib.itoa;rw[Ai hn]
  have:=Vp (k:=17) (u:=v.toNat) (by omega);rw[e2];split
  .simp;omega
  .omega
theorem Yff {x:ByteArray} {d:Int} (h:x.size<=281474976710656):∃r,L1 x d=some r/\(r.2=true->L8 x=Lib.itoa r.1/\B0 r.1):=by
 unfold L1;rw[Ah h]
 match hq:Lib.atoiAll x.data.toList with
 | .ok v=>
  simp only;by_cases hc:Lib.itoa v=x.data.toList/\((Lib.trimPrefix x.data.toList [45]).length:Int)<=d
  .rw[Ah hc]
   refine⟨_,rfl,λ_=>⟨hc.1.symm,?_⟩⟩;unfold Lib.atoiAll at hq;split at hq
   .cases hq
   .simp only at hq
    split at hq
    .cases hq
    .cases hq
    .split at hq
     .cases hq
     .rename_i h1
      split at hq
      .cases hq
      .rename_i h2
       injection hq with hq;split at hq
       .rename_i h3
        have:=iH λhh=>h2 ⟨h3,hh⟩;exact⟨by show _<=v;omega,by show v<=_;omega⟩
       .rename_i h3
        have:=vU λhh=>h1 ⟨h3,hh⟩;exact⟨by show _<=v;omega,by show v<=_;omega⟩
  .rw[Ai hc];exact⟨_,rfl,λh=>by cases h⟩
 | Lib.NumEnd.syntax=>exact⟨_,rfl,λh=>by cases h⟩
 | .range=>exact⟨_,rfl,λh=>by cases h⟩
theorem Yk2 (a:Int):B0 (IntKind.i64.wrap a):=by
 unfold B0;simp[IntKind.wrap,IntKind.bits,IntKind.signed];constructor<;>omega
theorem Yv3:∀(l:List UInt8) (a k:Nat),a < 10^k->l.foldl E5 a < 10^(k+l.length):=by
 intro l
 induction l with
 | nil=>intro a k h;exact h
 | cons c l ih=>
  intro a k h;rw[HO,AP,show k+(l.length+1)=(k+1)+l.length by omega];refine ih _ _ ?_;unfold E5;rw[Tw];split
  .rename_i hd;unfold Q3 at hd;omega
  .omega
def Fl (l:List UInt8):Nat:=l.foldl E5 0
def EU (l:List UInt8):Nat:=l.countP λc=>decide (Q3 c)
theorem Xc7 (l:List UInt8) (c:UInt8):Fl (l++[c])=E5 (Fl l) c:=by unfold Fl;rw[Tt];rfl
theorem Xax (l:List UInt8) (c:UInt8):EU (l++[c])=EU l+if Q3 c then 1 else 0:=by
 unfold EU;rw[List.countP_append,iK,List.countP_nil];simp
theorem dgW {c:UInt8} (h:Q3 c):JL (Y5h (c.toNat:Int) 48)=((c.toNat - 48:Nat):Int):=by
 unfold Q3 at h;simp[JL,Y5h,IntKind.wrap,IntKind.bits,IntKind.signed];omega
theorem Yez (x:ByteArray):J9 x=(if 0 < (L8 x).length then (FH x 0).bind λa=>Wr x (Fl ((L8 x).take 11)) (EU ((L8 x).take 11)) (decide (a=45)) else Wr x (Fl ((L8 x).take 11)) (EU ((L8 x).take 11)) false):=by
 unfold J9;have W3:=Z6 x;have fin:∀(κ:Int->Int->Int->Option (Int×Bool)) (n k:Int) (i:Int),Ue x κ n k i false=(if 0 < (L8 x).length then (FH x 0).bind λa=>Wr x n k (decide (a=45)) else Wr x n k false):=λκ n k i=>by
  unfold Ue;rw[Ai (by simp),W3];by_cases h0:0 < (L8 x).length
  .rw[Ah (by simpa using h0),Ah h0]
  .rw[Ai (by simpa using h0),Ai h0]
 have hT:((L8 x).take 11).length=min 11 (L8 x).length:=Ey;have:=Jh (σ:=Int×Int) (n:=((L8 x).take 11).length) (by omega) (λk=>((Fl (((L8 x).take 11).take k):Int),(EU (((L8 x).take 11).take k):Int))) (B:=λκ st j=>oN x (λa b c=>κ (a,b) c) st.1 st.2 j) (L:=λm st j=>oO x m st.1 st.2 j) (λm s i=>rfl) (λk hk κ=>?_) (r:=(if 0 < (L8 x).length then (FH x 0).bind λa=>Wr x (Fl ((L8 x).take 11)) (EU ((L8 x).take 11)) (decide (a=45)) else Wr x (Fl ((L8 x).take 11)) (EU ((L8 x).take 11)) false)) λκ=>?_
 .simpa [Fl,EU] using this
 .have Vj:k < (L8 x).length:=by omega
  have Ea:k < 11:=by omega
  have hg:((L8 x).take 11)[k]=(L8 x)[k]:=by simp
  have e:=List.take_succ_eq_append_getElem (l:=(L8 x).take 11) hk;have hb:=Yv3 (((L8 x).take 11).take k) 0 0 (by simp);have DT:10^(0+(((L8 x).take 11).take k).length)<=10^11:=V1 (by omega) (by simp;omega);have NO:Fl (((L8 x).take 11).take k) < 10^11:=Hq hb DT;have xE:EU (((L8 x).take 11).take k)<=11:=by
   unfold EU;have:=Vel (p:=λc=>decide (Q3 c)) (l:=((L8 x).take 11).take k);simp at this;omega
  unfold oN;rw[Ah (by rw[W3];simpa using Vj)];unfold Ue;simp only;rw[Ah (by simp;omega),Ho Vj,Ag,e,Xc7,Xax,hg];have step:∀b:Bool,(b=true↔Q3 (L8 x)[k])->bF x (λa b c=>κ (a,b) c) (Fl (((L8 x).take 11).take k)) (EU (((L8 x).take 11).take k)) k b=κ (((E5 (Fl (((L8 x).take 11).take k)) (L8 x)[k]:Nat):Int),((EU (((L8 x).take 11).take k)+if Q3 (L8 x)[k] then 1 else 0:Nat):Int)) (Zl k 1):=λb hb=>by
   unfold bF E5;by_cases hd:Q3 (L8 x)[k]
   .rw[Ah (hb.2 hd),Ah hd,Ah hd,Ho Vj,Ag,dgW hd,Jj (by omega) (by omega),Ye (a:=_*10) (by unfold Q3 at hd;omega) (by unfold Q3 at hd;omega),Z8 (by omega)]
    rfl
   .rw[Ai (λh=>hd (hb.1 h)),Ai hd,Ai hd];rfl
  by_cases h48:48<=(L8 x)[k].toNat
  .rw[Ah (decide_eq_true (by omega))]
   exact step _ (by unfold Q3;simp;omega)
  .rw[Ai (by rw[Bl];omega)]
   exact step _ (by unfold Q3;simp;omega)
 .unfold oN
  rw[E9];simp only;by_cases hc:((L8 x).take 11).length < (L8 x).length
  .rw[Ah (by rw[W3];simpa using hc),show decide (((((L8 x).take 11).length:Nat):Int) < 11)=false by simp;omega,fin]
  .rw[Ai (by rw[W3];simpa using hc),fin]
theorem Tf (l:List UInt8):Fl (l.take 11) < 10^11:=by
 have hb:=Yv3 (l.take 11) 0 0 (by simp);exact Hq hb (V1 (by omega) (by simp;omega))
theorem Po (x:ByteArray):∃r,J9 x=some r:=by
 have SG:=Tf (L8 x);have j5:∀(v k:Int),B0 v->∃r,RE x v k=some r:=λv k hv=>by
  unfold RE;rw[Qc hv,Ag];split
  .exact⟨_,rfl⟩
  .split
   .exact⟨_,rfl⟩
   .split<;>exact⟨_,rfl⟩
 have j4:∀b,∃r,Wr x (Fl ((L8 x).take 11)) (EU ((L8 x).take 11)) b=some r:=λb=>by
  unfold Wr;split
  .exact j5 _ _ (Yk2 _)
  .exact j5 _ _ ⟨by omega,by omega⟩
 rw[Yez];split
 .rename_i h0
  rw[show (0:Int)=((0:Nat):Int) from rfl,Ho h0,Ag];exact j4 _
 .exact j4 _
theorem Ynp {l:List UInt8} (h:∀c∈l,Q3 c):EU l=l.length:=by
 unfold EU;rw[List.countP_eq_length];intro c hc;exact decide_eq_true (h c hc)
theorem Y9n (x:ByteArray):(x.toList == x.toList)=true:=beq_self_eq_true _
theorem N3 {v:Int} (h:-1000000000 < v/\v < 1000000000):J9 (Z1 v)=some (v,true):=by
 have hr:B0 v:=⟨by omega,by omega⟩;have key:∀k:Int,k<=9->(Z1 v).size<=10->RE (Z1 v) v k=some (v,true):=λk hk hz=>by
  unfold RE;rw[Ai (by rw[Bl];omega),Ai (by rw[Bl];omega),Qc hr,Ag,Ai (by rw[Y9n];simp)]
 have ha:=u1 v;rw[Yez,Y0];by_cases hn:v < 0
 .have e2:Lib.itoa v=45::Lib.decDigits v.natAbs:=by unfold Lib.itoa;rw[Ah hn]
  have hl:=Vp (k:=8) (u:=v.natAbs) (by omega);have ht:(Lib.itoa v).take 11=Lib.itoa v:=DH (by rw[e2];simp;omega);have hk:EU (Lib.itoa v)=(Lib.decDigits v.natAbs).length:=by
   rw[e2];unfold EU;rw[iK,Ai (by decide)];exact Ynp λc hc=>LV hc
  rw[Ah (by rw[e2];simp),ht,show (0:Int)=((0:Nat):Int) from rfl,Ho (by rw[Y0,e2];simp),Ag];have h45:(L8 (Z1 v))[0]'(by rw[Y0,e2];simp)=45:=by simp[Y0,e2]
  rw[h45];show Wr (Z1 v) _ _ true=_;unfold Wr;rw[Ah rfl,show ((Fl (Lib.itoa v):Nat):Int)=-v by unfold Fl;rw[ha];omega,hk];have:TL (-v)=v:=by simp[TL,IntKind.wrap,IntKind.bits,IntKind.signed];omega
  rw[this];exact key _ (by omega) (by rw[Z6,Y0,e2];simp;omega)
 .have e2:Lib.itoa v=Lib.decDigits v.toNat:=by unfold Lib.itoa;rw[Ai hn]
  have hl:=Vp (k:=8) (u:=v.toNat) (by omega);have ht:(Lib.itoa v).take 11=Lib.itoa v:=DH (by rw[e2];omega);have Yj:=Yp9 v;have HZ:0 < (Lib.itoa v).length:=Cq.2 Yj;have hk:EU (Lib.itoa v)=(Lib.decDigits v.toNat).length:=by
   rw[e2];exact Ynp λc hc=>LV hc
  rw[Ah HZ,ht,show (0:Int)=((0:Nat):Int) from rfl,Ho (by rw[Y0];exact HZ),Ag];have hd:Q3 ((L8 (Z1 v))[0]'(by rw[Y0];exact HZ)):=by
   refine LV (u:=v.toNat) ?_;rw[<-e2];exact B6 HZ
  rw[show decide ((((L8 (Z1 v))[0]'(by rw[Y0];exact HZ)).toNat:Int)=45)=false by unfold Q3 at hd;simp;omega];unfold Wr;rw[Ai (by simp),show ((Fl (Lib.itoa v):Nat):Int)=v by unfold Fl;rw[ha];omega,hk];exact key _ (by omega) (by rw[Z6,Y0,e2];omega)
theorem Yc5 {ws:List ByteArray} (hl:ws.length < 1048600) (hz:∀w∈ws,w.size<=281474976710656):∃r,L2 ws=some r/\(r.2=true->r.1.length=ws.length/\∀v∈r.1,B0 v):=by
 have key:∀(m k:Nat) (out:List Int),k<=ws.length->ws.length - k < m->out.length=k->(∀v∈out,B0 v)->∃r,OE ws m out (k:Int)=some r/\(r.2=true->r.1.length=ws.length/\∀v∈r.1,B0 v):=by
  intro m
  induction m with
  | zero=>intro k out _ h;omega
  | succ m ih=>
   intro k out hk hm ho hv;show ∃r,OD ws (OE ws m) out (k:Int)=some r/\_;unfold OD;by_cases hc:k < ws.length
   .obtain⟨r,h1,h2⟩:=Yff (d:=18) (hz _ (B6 hc))
    rw[Ah (by simpa using hc),Zx hc,Ag,h1,Ag];by_cases hr:r.2=true
    .rw[Ai (by simp[hr]),Yr (by simp;omega) (by simp;omega),Ag,Z8 (by omega)]
     refine ih (k+1) _ (by omega) (by omega) (by simp;omega) λv DF=>?_;rcases BP.1 DF with DF|DF
     .exact hv v DF
     .rw[List.mem_singleton.1 DF];exact (h2 hr).2
    .rw[Ah (by simp[hr])]
     exact⟨_,rfl,λh=>by cases h⟩
   .rw[Ai (by simpa using hc)]
    exact⟨_,rfl,λ_=>⟨by show out.length=_;omega,hv⟩⟩
 exact key FU 0 [] (BM _) (by have:=Yx;omega) rfl (by simp)
theorem Vq {l:List Int} (hl:l.length < 1048600) (h:∀v∈l,-1000000000000000000 < v/\v < 1000000000000000000):L2 (l.map Z1)=some (l,true):=by
 unfold L2;refine Jh (σ:=List Int) (n:=l.length) (by omega) (λk=>l.take k) (B:=λκ st j=>OD (l.map Z1) κ st j) (L:=λm st j=>OE (l.map Z1) m st j) (λm s i=>rfl) (λk hk κ=>?_) λκ=>?_
 .unfold OD
  rw[Ah (by simpa using hk),Zx (by simpa using hk),Ag,iL,Yno (h _ (B6 hk)) (by omega),Ag,Ai (by simp),Yr (by simp;omega) (by simp;omega),Ag,List.take_succ_eq_append_getElem hk]
 .unfold OD
  rw[Ai (by simp),E9]
theorem Yqa {ws:List ByteArray} {l:List Int} (h:ws.map L8=l.map Lib.itoa):ws=l.map Z1:=by
 induction ws generalizing l with
 | nil=>cases l with
  | nil=>rfl
  | cons a l=>simp at h
 | cons w ws ih=>cases l with
  | nil=>simp at h
  | cons a l=>
   simp only[CD,V8] at h ⊢;exact⟨Jg h.1,ih h.2⟩
def mW (m:Zd):List UInt8:=if m.prio=true then Lib.itoa m.weight++[58]++Lib.itoa m.every++[58]++Lib.itoa m.cap else Lib.itoa m.weight
def Vr (c:Zg):List UInt8:=Lib.itoa c.Av++[32]++Lib.itoa c.As++[32]++Lib.itoa c.An++[32]++Lib.itoa c.Ap++[32]++Lib.itoa c.Al
def Ed (c:Zg):List UInt8:=Vr c++c.Ab.flatMap λm=>[32]++mW m
def K9 (c:Zg):List Int:=[c.Av,c.As,c.An,c.Ap,c.Al]
def Fm (c:Zg):List (List UInt8):=(K9 c).map Lib.itoa++c.Ab.map mW
theorem Yce (c:Zg):Ed c=Lib.join (Fm c) [32]:=by
 unfold Ed Fm Vr K9;simp only[CD,Ht,Hr,LZ];rw[Lib.join_cons];unfold Lib.joinTail;simp only[CD,Ee,List.append_assoc,Hu,V7];rfl
structure gH (c:Zg):Prop where
 q:1<=c.Av/\c.Av<=4
 w:0<=c.As/\c.As<=3
 r:0<=c.An/\c.An<=3
 s:1<=c.Ap/\c.Ap<=12
 k:1<=c.Al/\c.Al<=40
 n:1<=c.Ab.length/\c.Ab.length<=4
 m:∀m∈c.Ab,(1<=m.weight/\m.weight<=4)/\(-1<=m.every/\m.every<=1000)/\(0<=m.cap/\m.cap<=8)/\(m.prio=false->m.every=0/\m.cap=0)
theorem gI {c:Zg} (h:Yq c=true):gH c:=by
 have h0:=h;simp only[Yq,Bh,Bl,Cf] at h;obtain⟨⟨⟨⟨h1,h2⟩,h3⟩,h4⟩,h5⟩:=h;have hk:EO c≠0/\1<=c.Al/\c.Al<=40:=by
  unfold K0 at h4;split at h4
  .exact absurd rfl h4
  .split at h4
   .rename_i a b;exact⟨a,b⟩
   .exact absurd rfl h4
 have hc:(0<=c.An/\c.An<=3)/\(0<=c.As/\c.As<=3):=by
  have:=hk.1;unfold EO at this;split at this
  .assumption
  .exact absurd rfl this
 refine⟨h2,hc.2,hc.1,h3,hk.2,by omega,λm hm=>?_⟩;have Le:=h5 m hm;have he:=Nn Le;refine⟨Z7v h0 hm,⟨he.1,he.2.1⟩,he.2.2,λhp=>?_⟩;simp only[Qe,Bh,Bl,hp] at Le;simpa using Le.2
theorem Y4w {m:Zd} (h1:B0 m.weight) (h2:B0 m.every) (h3:B0 m.cap):(mW m).length<=62:=by
 have:=Ji h1;have:=Ji h2;have:=Ji h3;unfold mW;split<;>simp<;>omega
theorem Z1b {c:Zg} (hl:c.Ab.length < 1048577):R3 c=some (if Yq c=true then ⟨(Ed c).toArray⟩ else ByteArray.empty):=by
 unfold R3;rw[S0 c hl,Ag];by_cases h:Yq c=true
 .obtain⟨hq,hw,hr,hs,hk,hn,hm⟩:=gI h
  have iq:B0 c.Av:=⟨by omega,by omega⟩;have iw:B0 c.As:=⟨by omega,by omega⟩;have ir:B0 c.An:=⟨by omega,by omega⟩;have u2:B0 c.Ap:=⟨by omega,by omega⟩;have ik:B0 c.Al:=⟨by omega,by omega⟩;have z1:=Xk iq;have z2:=Xk iw;have z3:=Xk ir;have z4:=Xk u2;have z5:=Xk ik;rw[Ai (by simp[h]),Ah h];simp only[Qc iq,Qc iw,Qc ir,Qc u2,Qc ik,Ag];simp (disch:=(first|omega|(simp only[Yf,Zw,AP,Bf];omega))) only[Xg,Ag];have key:∀(m k:Nat) (v0:ByteArray),k<=c.Ab.length->c.Ab.length - k < m->v0.size<=200+70*k->ZT c m v0 (k:Int)=some ⟨(L8 v0++(c.Ab.drop k).flatMap λm=>[32]++mW m).toArray⟩:=by
   intro m
   induction m with
   | zero=>intro k v0 _ h;omega
   | succ m ih=>
    intro k v0 hk Dm hv;show Zs6 c (ZT c m) v0 (k:Int)=_;unfold Zs6;by_cases hc:k < c.Ab.length
    .obtain⟨⟨m1,m2⟩,⟨m3,m4⟩,⟨m5,m6⟩,_⟩:=hm _ (B6 hc)
     have i1:B0 c.Ab[k].weight:=⟨by omega,by omega⟩;have i2:B0 c.Ab[k].every:=⟨by omega,by omega⟩;have i3:B0 c.Ab[k].cap:=⟨by omega,by omega⟩;have y1:=Xk i1;have y2:=Xk i2;have y3:=Xk i3;rw[Ah (by simpa using hc),Zx hc,Ag,Qc i1,Qc i2,Qc i3,DG hc,FY];simp (disch:=(first|omega|(simp only[Yf,Zw,AP,Bf];omega))) only[Xg,Ag];rw[Z8 (by omega)];by_cases hp:c.Ab[k].prio=true
     .rw[Ah hp,ih (k+1) _ (by omega) (by omega) (by simp only[Yf,Zw,AP,Bf];omega)]
      simp only[Wl,Z7,Y0,mW,hp,if_true,List.append_assoc]
     .rw[Ai hp,ih (k+1) _ (by omega) (by omega) (by simp only[Yf,Zw,AP,Bf];omega)]
      simp only[Wl,Z7,Y0,mW,hp,if_false,List.append_assoc,Bp]
    .rw[Ai (by simpa using hc),Fu (by omega)]
     exact congrArg some (Jg (by rw[Xr (L8 v0++([]:List Zd).flatMap _)];simp))
  rw[show (0:Int)=((0:Nat):Int) from rfl,key FU 0 _ (BM _) (by have:=Yx;omega) (by simp only[Yf,Zw,AP,Bf];omega)];simp only[Wl,Z7,Y0,I0,Ed,Vr]
 .rw[Ah (by simp[h]),Ai h]
theorem Z04 {c:Zg} (hl:c.Ab.length < 1048577):RS c=some (if Yq c=true then ⟨(Ed c).toArray⟩ else ByteArray.empty):=by
 unfold RS;rw[UT c hl,Ag];by_cases h:Yq c=true
 .obtain⟨hq,hw,hr,hs,hk,hn,hm⟩:=gI h
  have iq:B0 c.Av:=⟨by omega,by omega⟩;have iw:B0 c.As:=⟨by omega,by omega⟩;have ir:B0 c.An:=⟨by omega,by omega⟩;have u2:B0 c.Ap:=⟨by omega,by omega⟩;have ik:B0 c.Al:=⟨by omega,by omega⟩;rw[Ai (by simp[h]),Ah h];have hi:∀x∈K9 c,B0 x:=by
   intro x hx;unfold K9 at hx;simp only[BX,Gs,or_false] at hx;rcases hx with rfl|rfl|rfl|rfl|rfl<;>assumption
  have e0:L4 [c.Av,c.As,c.An,c.Ap,c.Al]=some ((K9 c).map Z1):=uY (l:=K9 c) (by simp[K9]) hi;rw[e0,Ag];have mi:∀m∈c.Ab,B0 m.weight/\B0 m.every/\B0 m.cap:=λm Dm=>by
   obtain⟨⟨m1,m2⟩,⟨m3,m4⟩,⟨m5,m6⟩,_⟩:=hm m Dm;exact⟨⟨by omega,by omega⟩,⟨by omega,by omega⟩,⟨by omega,by omega⟩⟩
  have hj:(Lib.join (Fm c) [32]).length<=1000:=by
   rw[<-Yce];unfold Ed Vr;have:=Ji iq;have:=Ji iw;have:=Ji ir;have:=Ji u2;have:=Ji ik;have hf:∀l:List Zd,(∀m∈l,m∈c.Ab)->(l.flatMap λm=>[32]++mW m).length<=63*l.length:=by
    intro l
    induction l with
    | nil=>intro _;simp
    | cons m l ih=>
     intro hh;have h1:=ih λx hx=>hh x (Cg _ hx);obtain⟨a1,a2,a3⟩:=mi m (hh m BI);have h2:=Y4w a1 a2 a3;rw[FY,BW,AP];simp only[BW,AP,Bf];omega
   have:=hf c.Ab λ_ h=>h;simp only[BW,AP,Bf];omega
  refine Jh (σ:=List ByteArray) (n:=c.Ab.length) (by omega) (λk=>(K9 c).map Z1++(c.Ab.take k).map λm=>(⟨(mW m).toArray⟩:ByteArray)) (B:=λκ st j=>o6 c κ st j) (L:=λm st j=>o7 c m st j) (λm s i=>rfl) (λk Qg κ=>?_) λκ=>?_
  .unfold o6
   obtain⟨i1,i2,i3⟩:=mi _ (B6 Qg);have h2:(c.Ab.take k).length<=k:=by rw[Ey];omega
   have h5:(K9 c).length=5:=rfl;rw[Ah (by simpa using Qg),Zx Qg,Ag,HB i1,Ag,List.take_succ_eq_append_getElem Qg,Gt,<-List.append_assoc];by_cases hp:c.Ab[k].prio=true
   .have ed:L4 [c.Ab[k].weight,c.Ab[k].every,c.Ab[k].cap]=some ([c.Ab[k].weight,c.Ab[k].every,c.Ab[k].cap].map Z1):=uY (by simp) (by
     intro x hx;simp only[BX,Gs,or_false] at hx;rcases hx with rfl|rfl|rfl<;>assumption)
    have ej:Lib.join (([c.Ab[k].weight,c.Ab[k].every,c.Ab[k].cap].map Z1).map L8) (L8 (Ze [58]))=mW c.Ab[k]:=by
     unfold mW;rw[Ah hp];simp only[CD,Ht,Y0,Z7];rw[Lib.join_cons];simp[Lib.joinTail]
    have hz:=Y4w i1 i2 i3;rw[Ah hp,ed,Ag,Nk (by simp) (by rw[ej];omega),Ag,ej,Yr (by simp;omega) (by simp;omega),Ag];rfl
   .rw[Ai hp,Yr (by simp;omega) (by simp;omega),Ag]
    have:Z1 c.Ab[k].weight=⟨(mW c.Ab[k]).toArray⟩:=Jg (by rw[Y0,Xr (mW _)];unfold mW;rw[Ai hp]);rw[this];rfl
  .unfold o6
   have em:((K9 c).map Z1++(c.Ab.take c.Ab.length).map λm=>(⟨(mW m).toArray⟩:ByteArray)).map L8=Fm c:=by
    rw[E9,Gt,Hu,Hu];rfl
   rw[Ai (by simp),Nk (by simp[K9];omega) (by rw[em,Z7];omega),Ag,em,Z7,<-Yce]
 .rw[Ah (by simp[h]),Ai h]
def gJ (x:ByteArray) (c:Zg):Prop:=Yq c=true/\L8 x=Ed c
def Iq (x:ByteArray) (r:Zg×Bool):Prop:=r=(Zg.z0,false)\/(r.2=true/\gJ x r.1)
theorem Ywr (c:Zg):Ed c≠[]:=by
 unfold Ed Vr;obtain⟨a,l,h⟩:=Yw3 (v:=c.Av);rw[h];simp
theorem Ymq {x:ByteArray} {c:Zg} (h:L8 x=Ed c):Ym 32 (L8 x)=Fm c:=by
 rw[h,Yce,u0 (by simp[Fm,K9])];intro w hw y hy;unfold Fm at hw;rcases BP.1 hw with hw|hw
 .obtain⟨v,_,rfl⟩:=D7.1 hw
  exact KL hy (.inl rfl)
 .obtain⟨m,_,rfl⟩:=D7.1 hw
  unfold mW at hy;split at hy
  .simp only[BP,List.mem_singleton] at hy
   rcases hy with (((hy|hy)|hy)|hy)|hy
   .exact KL hy (.inl rfl)
   .subst hy;decide
   .exact KL hy (.inl rfl)
   .subst hy;decide
   .exact KL hy (.inl rfl)
  .exact KL hy (.inl rfl)
def Ir (m:Zd):List Int:=if m.prio=true then [m.weight,m.every,m.cap] else [m.weight]
theorem Yva (m:Zd):Ym 58 (mW m)=(Ir m).map Lib.itoa:=by
 have u3:∀v:Int,∀y∈Lib.itoa v,y≠58:=λv y hy=>KL hy (.inr (.inl rfl));unfold mW Ir;by_cases hp:m.prio=true
 .rw[Ah hp,Ah hp]
  have e:Lib.itoa m.weight++[58]++Lib.itoa m.every++[58]++Lib.itoa m.cap=Lib.itoa m.weight++58::(Lib.itoa m.every++58::Lib.itoa m.cap):=by simp
  rw[e,Vo (u3 _),Vo (u3 _),Te (u3 _)];rfl
 .rw[Ai hp,Ai hp,Te (u3 _)];rfl
theorem Z9d {x:ByteArray} {c:Zg} (hl:c.Ab.length < 1048577):∃r,((R3 c).bind λr4=>
  if (!(r4.toList == x.toList))=true then (some (Zg.z0,false)) else (if (x.toList == ByteArray.empty.toList)=true then (some (Zg.z0,false)) else (some (c,true))))=some r/\Iq x r/\(gJ x c->r=(c,true)):=by
 rw[Z1b hl,Ag];by_cases h:Yq c=true
 .rw[Ah h,Lib.toList_data,Lib.toList_data,Lib.toList_data]
  by_cases he:Ed c=L8 x
  .have e1:((⟨(Ed c).toArray⟩:ByteArray).data.toList == x.data.toList)=true:=beq_iff_eq.2 he
   have e2:¬(x.data.toList == ByteArray.empty.data.toList)=true:=λhh=>Ywr c (by rw[he];exact beq_iff_eq.1 hh);rw[Ai (by simp[e1]),Ai e2];exact⟨_,rfl,.inr ⟨rfl,h,he.symm⟩,λ_=>rfl⟩
  .have e1:¬((⟨(Ed c).toArray⟩:ByteArray).data.toList == x.data.toList)=true:=λhh=>he (beq_iff_eq.1 hh)
   rw[Ah (by simpa using e1)];exact⟨_,rfl,.inl rfl,λhh=>absurd hh.2.symm he⟩
 .rw[Ai h]
  split
  .exact⟨_,rfl,.inl rfl,λhh=>absurd hh.1 h⟩
  .rename_i h1
   have h2:(ByteArray.empty.toList == x.toList)=true:=by simpa using h1
   rw[Ah (by rw[beq_iff_eq] at h2 ⊢;exact h2.symm)];exact⟨_,rfl,.inl rfl,λhh=>absurd hh.1 h⟩
theorem Jl {x w:ByteArray} {c:UInt8} {ws:List ByteArray} (h:ws.map L8=Ym c (L8 x)) (hw:w∈ws):w.size<=x.size:=by
 rw[Z6,Z6];refine Yb0 (c:=c) ?_;rw[<-h];exact List.mem_map_of_mem hw
theorem Is {x:ByteArray} {c:UInt8} {ws:List ByteArray} (h:ws.map L8=Ym c (L8 x)):ws.length<=x.size+1/\1<=ws.length:=by
 have h1:=congrArg List.length h;rw[GL] at h1;have h2:=Ygl c (L8 x);rw[<-Z6] at h2;have h3:0 < (Ym c (L8 x)).length:=Cq.2 (Td c (L8 x));omega
theorem Ymm {x:ByteArray} {ws:List ByteArray} (hw:ws.map L8=Ym 32 (L8 x)) (hx:x.size<=1048576):∀(m j:Nat) (c:Zg),j<=ws.length->ws.length - j < m->c.Ab.length+5<=j->
  ∃r,Jv x m c ws (j:Int)=some r/\Iq x r:=by
 have Yp:=Is hw;intro m
 induction m with
 | zero=>intro j c _ h;omega
 | succ m ih=>
  intro j c hj hm hc;show ∃r,bG x (Jv x m) c ws (j:Int)=some r/\_;unfold bG;by_cases Ya:j < ws.length
  .have W3:ws[j].size<=x.size:=Jl hw (B6 Ya)
   obtain⟨ps,h1,h2⟩:=HJ (x:=ws[j]) 58 (by omega);have h1:W0 ws[j] 58=some ps:=h1;have hp:=Is h2;rw[Ah (by simpa using Ya),Zx Ya,Ag,h1,Ag,show (0:Int)=((0:Nat):Int) from rfl,Zx (by omega),Ag];obtain⟨q1,e1⟩:=Po ps[0];rw[e1,Ag];have next:∀mc:Zd,∃r,RG x (Jv x m) c mc ws (j:Int)=some r/\Iq x r:=λmc=>by
    unfold RG;rw[Yr (by simp;omega) (by simp;omega),Ag,Z8 (by omega)];exact ih (j+1) _ (by omega) (by omega) (by simp;omega)
   by_cases h3:ps.length=3
   .obtain⟨q2,e2⟩:=Po ps[1]
    obtain⟨q3,e3⟩:=Po ps[2];rw[Ah (by simp[h3]),show (1:Int)=((1:Nat):Int) from rfl,Zx (by omega),Ag,e2,Ag,show (2:Int)=((2:Nat):Int) from rfl,Zx (by omega),Ag,e3,Ag];exact next _
   .rw[Ai (by simp;omega)]
    exact next _
  .rw[Ai (by simpa using Ya)]
   obtain⟨r,h1,h2,_⟩:=Z9d (x:=x) (c:=c) (by omega);exact⟨r,h1,h2⟩
theorem Ykm {x:ByteArray} (hx:x.size<=1048576):∃r,O8 x=some r/\Iq x r:=by
 obtain⟨ws,h1,h2⟩:=HJ (x:=x) 32 (by omega);have h1:W0 x 32=some ws:=h1;unfold O8;rw[h1,Ag];by_cases hl:ws.length < 6
 .rw[Ah (by simp;omega)]
  exact⟨_,rfl,.inl rfl⟩
 .obtain⟨q0,e0⟩:=Po ws[0]
  obtain⟨q1,e1⟩:=Po ws[1];obtain⟨q2,e2⟩:=Po ws[2];obtain⟨q3,e3⟩:=Po ws[3];obtain⟨q4,e4⟩:=Po ws[4];have i0:idx ws 0=some ws[0]:=Zx (k:=0) (by omega);have i1:idx ws 1=some ws[1]:=Zx (k:=1) (by omega);have i2:idx ws 2=some ws[2]:=Zx (k:=2) (by omega);have i3:idx ws 3=some ws[3]:=Zx (k:=3) (by omega);have i4:idx ws 4=some ws[4]:=Zx (k:=4) (by omega);rw[Ai (by simp;omega),i0,Ag,e0,Ag,i1,Ag,e1,Ag,i2,Ag,e2,Ag,i3,Ag,e3,Ag,i4,Ag,e4,Ag];exact Ymm h2 hx FU 5 _ (by omega) (by have:=Yx;have:=Is h2;omega) (by simp)
theorem Y3m {ws:List ByteArray} {c:Zg} (h:ws.map L8=Fm c) {i:Nat} (hi:i < c.Ab.length):∃hl:5+i < ws.length,L8 ws[5+i]=mW c.Ab[i]:=by
 have Yp:ws.length=5+c.Ab.length:=by
  have:=congrArg List.length h;simp[Fm,K9] at this;omega
 refine⟨by omega,?_⟩;have h1:(ws.map L8)[5+i]?=some (mW c.Ab[i]):=by
  rw[h];unfold Fm;rw[Fq (by simp[K9])];simp[K9,hi]
 rw[D5,C6 (by omega)] at h1;simpa using h1
theorem gK {ws:List ByteArray} {c:Zg} (h:ws.map L8=Fm c) {i:Nat} (hi:i < 5):∃hl:i < ws.length,ws[i]=Z1 ((K9 c)[i]'hi):=by
 have Yp:ws.length=5+c.Ab.length:=by
  have:=congrArg List.length h;simp[Fm,K9] at this;omega
 refine⟨by omega,Jg ?_⟩;have h1:(ws.map L8)[i]?=some (Lib.itoa ((K9 c)[i]'hi)):=by
  rw[h];unfold Fm;rw[EW (by simpa [K9] using hi),D5,C6 (show i < (K9 c).length from hi)];rfl
 rw[D5,C6 (by omega)] at h1;rw[Y0];simpa using h1
theorem Yr9 {c:Zg} {l:List Zd} (h:l=c.Ab):({c with Ab:=l}:Zg)=c:=by subst h;rfl
theorem Pp {m:Zd} (h:m.prio=true):Zd.mk m.weight true m.every m.cap=m:=by cases m;simp at h;simp[h]
theorem Y9f {m:Zd} (h:m.prio=false) (h2:m.every=0/\m.cap=0):Zd.mk m.weight false 0 0=m:=by cases m;simp at h h2;simp[h,h2]
end Go.Proofs.YthdljdelfgofdaaGreatDoor.Ev
