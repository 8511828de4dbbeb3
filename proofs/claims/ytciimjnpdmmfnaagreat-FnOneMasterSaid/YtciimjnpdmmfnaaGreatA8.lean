/- A part of the proof of FnOneMaster: see the text YtciimjnpdmmfnaaGreatLawFnOneMaster for what is proved and its conditions. Conditions here: those in each line. -/
import Derived.Test.YtciimjnpdmmfnaaGreatA7
namespace Go.Proofs.YtciimjnpdmmfnaaGreat.Ev
open Go Go.Proofs
set_option linter.unusedVariables false
set_option linter.unusedSimpArgs false
section
variable {n:Int} {b:GBus} {s:GScript}
theorem Yjf (h:BusI n b):Zlu b=some ((Y3 b).1,(Y3 b).2):=by
 have hp:=Za4 h
 unfold Zlu Y3
 rw[Ykd h,Option.bind_some]
 by_cases e:(Z6 b).1 < 0
 ·rw[if_pos (decide_eq_true e),if_pos e]
 ·rw[if_neg (by simpa using e),if_neg e]
  rcases hp.who with h1|h1
  ·exact absurd (show (Z6 b).1 < 0 by rw[h1];decide) e
  ·exact Yj2 b hp.ok (by rw[hp.conf];exact h1.1)
theorem Ymg {c:GBucket} {m:GMConf} (h:Z0 c m=true):(Zc7 c m).2=decide (c.tokens > 0):=by
 unfold Zc7
 by_cases hp:m.prio=true
 ·have h2:=h
  unfold Z0 at h2
  rw[if_pos hp] at h2
  simp only[Bool.and_eq_true,decide_eq_true_eq] at h2
  by_cases e:c.tokens=0
  ·simp[hp,h,e]
  ·have:c.tokens > 0:=by omega
   simp[hp,h,e,this]
 ·have h2:=h
  unfold Z0 at h2
  rw[if_neg hp] at h2
  simp only[Bool.and_eq_true,decide_eq_true_eq] at h2
  simp[hp,h2.1]
theorem Z0l (x0:GBus) (h:BusI n b) {who by_:Int} (hw:Za b.conf who=true) (hwant:Xq b who=true):Qa x0 b (GBeat.mk false who 0 false by_ 0 0 false)=some (Zu0 b who by_):=by
 obtain⟨ok,hi⟩:=Z97 (h.mst _ hw).right
 have hq:=Yoi (h.mst _ hw).right hwant
 have hmb:=Ye hw
 unfold Qa
 simp only
 rw[if_neg (by simp;omega),Y2 h.ml hw,Option.bind_some]
 have hh:=Zu1 h
 have hlt:b.holder < 0↔b.holder=-1:=by
  rcases hh with hh|hh
  ·omega
  ·have:=Ye hh;omega
 have hJ:∀f:Bool,Zbk x0 b (GBeat.mk true who (atI b.m who).beat f by_ 0 0 false) (atI b.m who)=some {b with addr:=GBeat.mk true who (atI b.m who).beat f by_ 0 0 false,holder:=if Zx (atI b.m who)=true∧b.holder=-1 then who else b.holder,held:=if Zx (atI b.m who)=true∧b.holder=-1 then 0 else b.held,m:=b.m.set who.toNat (Yq (atI b.m who)),last:=who}:=by
  intro f
  unfold Zbk Zao Zei
  simp only[Zp4 hq,Option.bind_some,hi,Y2 h.ml hw,Y1]
  unfold Zx
  by_cases e1:(atI (atI b.m who).queue 0).lock=true
  ·by_cases e2:(atI b.m who).broken=true
   ·simp[e1,e2]
   ·by_cases e3:b.holder=-1
    ·have e4:=hlt.2 e3
     simp[e1,e2,e3,hq]
    ·have e4:=mt hlt.1 e3
     simp[e1,e2,e3,e4]
  ·simp[e1]
 unfold Zu0
 by_cases e:(atI b.m who).beat=0
 ·rw[if_pos (decide_eq_true e),hJ,decide_eq_true e];rfl
 ·rw[if_neg (by simpa using e),hJ,decide_eq_false e,Bool.false_or]
theorem Z2y (x0:GBus) (c:GBus) (by_:Int):Qa x0 c (GBeat.mk false (-1) 0 false by_ 0 0 false)=some c:=by
 unfold Qa
 rw[if_pos (by simp)]
theorem Yhy (h:BusI n b):Znq b=some (Y3 b).2:=by
 have hlen:=Wy h.conf
 have hml:=h.ml
 have hh:=Zu1 h
 have hlt:b.holder < 0↔b.holder=-1:=by
  rcases hh with hh|hh
  ·omega
  ·have:=Ye hh;omega
 have hp:=Za4 h
 have hgo:∀(m:Nat) (c:GBus) (who by_:Int) (k:Nat),0≤who→Kf b (m+1) c (GBeat.mk false who 0 false by_ 0 0 false) (Xu b) (k:Int)=Qa b c (GBeat.mk false who 0 false by_ 0 0 false):=by
  intro m c who by_ k hwho
  have hn:¬who < 0:=by omega
  show Qr b _ c _ _ _=_
  unfold Qr Ji Zbx
  simp only[decide_eq_false hn,Bool.false_eq_true,if_false,Zxp]
 have hL2:(¬(b.holder≠-1∧Xq b b.holder=true))→Kf b FU b (GBeat.mk false (-1) 0 false 0 0 0 false) (Xu b) 0=some (Y3 b).2:=by
  intro hnl
  have key:∀(r m k:Nat),r+1 < m→k+r=b.m.length→(List.range b.m.length).find? (Kn b)=(List.range' k r).find? (Kn b)→Kf b m b (GBeat.mk false (-1) 0 false 0 0 0 false) (Xu b) (k:Int)=some (Y3 b).2:=by
   intro r
   induction r with
   | zero=>
    intro m k hm hk hfind
    obtain⟨m,rfl⟩:∃m',m=m'+1:=⟨m - 1,by omega⟩
    show Qr b _ b _ (Xu b) (k:Int)=_
    unfold Qr Ji Zbx
    have hf:(List.range b.m.length).find? (Kn b)=none:=by rw[hfind];rfl
    rw[if_neg (by simp;omega),if_neg (by simp),if_pos (by simp)]
    have hpk:Z6 b=if b.holder≠-1 then (-1,0,b) else ((Qy b.arb b.conf (Xu b)).2,2,{b with arb:=(Qy b.arb b.conf (Xu b)).1}):=by
     unfold Z6
     rw[if_neg hnl,hf]
    by_cases e:b.holder=-1
    ·rw[decide_eq_true (hlt.2 e),if_pos rfl,Ycl _ _ _ h.arb (by rw[Ka,hml]),Option.bind_some]
     rw[if_neg (by simpa using e)] at hpk
     have hw:=hp.who
     have hok:=hp.ok
     unfold Y3
     rw[hpk] at hw hok ⊢
     simp only at hw hok ⊢
     rcases hw with hw|hw
     ·rw[hw,Z2y,if_pos (by decide)]
     ·have hmb:=Ye hw.1
      rw[if_neg (by omega)]
      exact Z0l b hok hw.1 hw.2.1
    ·rw[decide_eq_false (mt hlt.1 e),if_neg (by simp),Z2y]
     rw[if_pos e] at hpk
     unfold Y3
     rw[hpk,if_pos (show (-1:Int) < 0 by decide)]
   | succ r ih=>
    intro m k hm hk hfind
    obtain⟨m,rfl⟩:∃m',m=m'+1:=⟨m - 1,by omega⟩
    show Qr b _ b _ (Xu b) (k:Int)=_
    have hmk:=mas (c:=b.conf) (k:=k) (by omega)
    have hix:idx (Xu b) (k:Int)=some (Xq b (k:Int)):=by
     rw[Yi (by omega) (by rw[Ka];omega),Zme h hmk]
    rw[List.range'_succ,List.find?_cons] at hfind
    unfold Qr Ji Zf6
    rw[if_pos (by simp;omega),if_pos (by simp),hix,Option.bind_some,Z1p h.bl hmk,Option.bind_some,Option.bind_some,Zub hmk,Option.bind_some,Z5f _ (Zez h.conf hmk),Option.bind_some,Y1,Option.bind_some,Yo (by omega),←Ymg (h.mst _ hmk).bucket]
    by_cases e1:Xq b (k:Int)=true
    ·by_cases e2:(Zc7 (atI b.buckets (k:Int)) (atI b.conf.masters (k:Int))).2=true
     ·have e3:Kn b k=true:=by simp[Kn,e1,e2]
      rw[e3] at hfind
      have hpk:Z6 b=((k:Int),1,{b with buckets:=b.buckets.set k (Zc7 (atI b.buckets (k:Int)) (atI b.conf.masters (k:Int))).1}):=by
       unfold Z6
       rw[if_neg hnl,hfind]
      rw[if_pos e1,if_pos e2]
      obtain⟨m,rfl⟩:∃m',m=m'+1:=⟨m - 1,by omega⟩
      rw[hgo m _ _ _ _ (by omega)]
      have hw:=hp.who
      have hok:=hp.ok
      unfold Y3
      rw[hpk] at hw hok ⊢
      simp only at hw hok ⊢
      rcases hw with hw|hw
      ·omega
      ·rw[if_neg (by omega)]
       exact Z0l b hok hw.1 hw.2.1
     ·have e3:Kn b k=false:=by simp[Kn,e1,e2]
      rw[e3] at hfind
      rw[if_pos e1,if_neg e2]
      exact ih m (k+1) (by omega) (by omega) hfind
    ·have e3:Kn b k=false:=by simp[Kn,e1]
     rw[e3] at hfind
     rw[if_neg e1,if_neg (by simp)]
     exact ih m (k+1) (by omega) (by omega) hfind
  have:=key b.m.length FU 0 (by have:=Y5;omega) (by omega) (by rw[List.range_eq_range'])
  simpa using this
 unfold Znq
 refine K9 (σ:=List Bool) (n:=b.m.length) (by omega) (fun k=>(List.range k).map fun j:Nat=>Xq b (j:Int)) (B:=Zd9 b) (L:=Zfx b) (fun m s i=>rfl) (fun k hk κ=>?_) fun κ=>?_
 ·have hmk:=mas (c:=b.conf) (k:=k) (by omega)
  unfold Zd9
  have happ:∀x:Bool,appI 1 ((List.range k).map fun j:Nat=>Xq b (j:Int)) [x]=some (((List.range k).map fun j:Nat=>Xq b (j:Int))++[x]):=fun x=>Ys (by simp;omega) (by simp;omega)
  rw[if_pos (by simpa using hk),Y2 hml hmk,Option.bind_some,Zy1 (h.mst _ hmk).right,Option.bind_some,Zlq h.sl hmk,Option.bind_some,Z4y]
  simp only[happ,Option.bind_some]
  unfold Xq
  by_cases e1:Zgt (atI b.m (k:Int))=true
  ·by_cases e2:atI b.splits (k:Int)=0
   ·by_cases e3:b.holder=-1
    ·simp[e1,e2,e3]
    ·have e4:=mt hlt.1 e3
     simp only[e1,e2,e3,e4,decide_true,decide_false,if_true,Bool.false_eq_true,if_false,Bool.true_and,Bool.false_or]
   ·simp[e1,e2]
  ·simp[e1]
 ·unfold Zd9 Zfl Zfu
  rw[if_neg (by simp)]
  show (if decide (b.holder≥0)=true then (idx (Xu b) b.holder).bind _ else _)=_
  by_cases e:b.holder=-1
  ·rw[if_neg (by simp;omega),if_neg (by simp)]
   exact hL2 fun hx=>hx.1 e
  ·have hw:=(Kh h e).1
   have hmb:=Ye hw
   rw[if_pos (by simpa using hmb.1),Yi hmb.1 (by rw[Ka];omega),Option.bind_some,Zme h hw]
   by_cases e2:Xq b b.holder=true
   ·have hpk:Z6 b=(b.holder,3,b):=by
     unfold Z6
     rw[if_pos ⟨e,e2⟩]
    rw[if_pos e2]
    have hfu:FU=(FU - 1)+1:=by decide
    show Kf b FU b (GBeat.mk false b.holder 0 false 3 0 0 false) (Xu b) ((0:Nat):Int)=_
    rw[hfu,hgo _ _ _ _ _ hmb.1]
    unfold Y3
    rw[hpk,if_neg (by simp;omega)]
    exact Z0l b h hw e2
   ·rw[if_neg e2]
    exact hL2 fun hx=>e2 hx.2
theorem Ygc {α:Type} {X Y:List α} (hl:X.length=Y.length) {k:Nat} (hk:k < Y.length):idx (X.take k++Y.drop k) (k:Int)=some Y[k]∧(X.take k++Y.drop k).set k (X[k]'(by omega))=X.take (k+1)++Y.drop (k+1):=by
 have h1:(X.take k).length=k:=by rw[List.length_take];omega
 constructor
 ·rw[Yc (by simp;omega)]
  simp[List.getElem_append_right,h1]
 ·rw[List.set_append_right _ _ (by omega),h1,Nat.sub_self,List.drop_eq_getElem_cons hk,List.set_cons_zero,List.take_succ_eq_append_getElem (show k < X.length by omega),List.append_assoc]
  rfl
def Zhf (c:GBus) (k:Nat):GBus:={c with splits:=(Z4 c).splits.take k++c.splits.drop k,buckets:=(Z4 c).buckets.take k++c.buckets.drop k}
theorem Yg1 (c:GBus):Zhf c 0=c:=by simp[Zhf]
theorem Z9d (h:BusI n b):Zhf b b.conf.masters.length=Z4 b:=by
 have h1:=h.sl
 have h2:=h.bl
 unfold Zhf Z4
 simp only
 rw[List.take_of_length_le (by simp;omega),List.drop_of_length_le (by omega),List.take_of_length_le (by simp;omega),List.drop_of_length_le (by omega),List.append_nil,List.append_nil]
theorem Z5m (h:BusI n b) {k:Nat} (hk:k < b.conf.masters.length):idx (Zhf b k).splits (k:Int)=some (atI b.splits (k:Int))∧(Zhf b k).splits.set k (max (atI b.splits (k:Int) - 1) 0)=(Zhf b (k+1)).splits∧
  idx (Zhf b k).buckets (k:Int)=some (atI b.buckets (k:Int))∧(Zhf b k).buckets.set k (Zoa (atI b.buckets (k:Int)) (atI b.conf.masters (k:Int)))=(Zhf b (k+1)).buckets:=by
 have h1:=h.sl
 have h2:=h.bl
 have m1:=Ygc (X:=(Z4 b).splits) (Y:=b.splits) (by simp[Z4]) (k:=k) (by omega)
 have m2:=Ygc (X:=(Z4 b).buckets) (Y:=b.buckets) (by simp[Z4];omega) (k:=k) (by omega)
 rw[Xb (by omega),Xb (by omega),Xb hk]
 refine⟨m1.1,?_,m2.1,?_⟩
 ·have:=m1.2
  simp only[Z4,List.getElem_map] at this
  exact this
 ·have:=m2.2
  simp only[Z4,List.getElem_zipWith] at this
  exact this
end
section
variable {n:Int} {b:GBus} {s:GScript}
theorem Zo6 (h:BusI n b) (s:GScript) (hd:b.data_=GBeat.z0):BusI n (Zs b)∧BusI n (Ya (Zs b) s):=⟨Zxe h,(Zjd (Zxe h) s (by rw[(Ze9 b).1];exact hd)).1⟩
theorem Ybt (x0:GBus) (w:GWave) (h:BusI n b) (hs:s.sm) (hd:b.data_=GBeat.z0) (hp:0≤b.picks∧b.picks≤4000) (hn:0≤b.now∧b.now≤4000):(if decide (b.holder≠(-1))=true then Qb x0 s b w (decide (b.held=b.conf.lockMost)) else Qb x0 s b w false)=some ({w with got:=(Zm b s).1},{(Zm b s).2 with now:=b.now+1}):=by
 obtain⟨h1,h2⟩:=Zo6 h s hd
 have e1:=Ze9 b
 have hJ9:∀(c:GBus) (w:GWave),BusI n c→c.now=b.now→Zb0 x0 s c w=some ({w with got:=(Y3 c).1},{(Y3 c).2 with now:=b.now+1}):=by
  intro c w hc hcn
  unfold Zb0 Zbu
  rw[Yjf hc,Option.bind_some]
  simp only
  rw[(Zjo hc).1,hcn,Zr (by omega) (by omega)]
 have hJ8:∀w:GWave,Jm x0 s (Zs b) w=some ({w with got:=(Zm b s).1},{(Zm b s).2 with now:=b.now+1}):=by
  intro w
  unfold Jm Zm
  have e2:=Zj5 (Zs b) s
  by_cases hl:(Zs b).addr.live=true
  ·rw[if_pos hl,Yeb h1 hs hl,Option.bind_some,Zr (by rw[e1.2.2.1];omega) (by rw[e1.2.2.1];omega)]
   have hb:Ya (Zs b) s={Zs b with addr:=GBeat.z0,data_:={(Zs b).addr with left:=(Xd (Zs b) s (Zs b).addr).2,resp:=(Xd (Zs b) s (Zs b).addr).1},picks:=(Zs b).picks+1}:=by
    unfold Ya;rw[if_pos hl]
   rw[←hb]
   exact hJ9 _ _ h2 (by rw[e2.1,e1.2.2.2.1])
  ·rw[if_neg hl]
   have hb:Ya (Zs b) s=Zs b:=by
    unfold Ya;rw[if_neg hl]
   rw[hb]
   exact hJ9 _ _ h1 e1.2.2.2.1
 have hJ6:Qb x0 s b w false=Jm x0 s b w:=by unfold Qb;rw[if_neg (by simp)]
 by_cases e:b.holder=-1
 ·have hb:Zs b=b:=by unfold Zs;rw[if_neg (fun hx:b.holder≠-1∧b.held=b.conf.lockMost=>hx.1 e)]
  rw[if_neg (by simpa using e),hJ6]
  have:=hJ8 w
  rwa [hb] at this
 ·rw[if_pos (by simpa using e)]
  by_cases e2:b.held=b.conf.lockMost
  ·have hb:Zs b=Yi9 {b with m:=b.m.set b.holder.toNat {atI b.m b.holder with broken:=true}}:=by unfold Zs;rw[if_pos ⟨e,e2⟩]
   unfold Qb Zi9
   rw[decide_eq_true e2,if_pos rfl,Y2 h.ml (Kh h e).1,Option.bind_some,Y1,Option.bind_some,Option.bind_some]
   have:=hJ8 w
   rw[hb] at this
   exact this
  ·have hb:Zs b=b:=by unfold Zs;rw[if_neg (fun hx:b.holder≠-1∧b.held=b.conf.lockMost=>e2 hx.2)]
   rw[decide_eq_false e2,hJ6]
   have:=hJ8 w
   rwa [hb] at this
theorem Yai (x0:GBus) (w:GWave) (h:BusI n b) (hs:s.sm) (hd:b.data_=GBeat.z0) (hp:0≤b.picks∧b.picks≤4000) (hn:0≤b.now∧b.now≤4000) (hg:w.got=-1):(if decide (b.holder≥0)=true then Qu x0 s b w (decide (b.held≥b.conf.lockMost)) else Qu x0 s b w false)=some ({(Zm b s).2 with now:=b.now+1},{w with got:=(Zm b s).1}):=by
 obtain⟨h1,h2⟩:=Zo6 h s hd
 have e1:=Ze9 b
 have e2:=Zj5 (Zs b) s
 have hz:=(Zjd h1 s (by rw[e1.1];exact hd)).2
 have hJ9:Zah x0 s (Zs b) w=some ({(Zm b s).2 with now:=b.now+1},{w with got:=(Zm b s).1}):=by
  unfold Zah Zai Zm
  have hgr:=Yhy h2
  have hgd:=(Zjo h2).1
  rw[Yih h1 hs (by rw[e1.2.2.1];exact hp),Option.bind_some,hgr,Option.bind_some]
  have hpk:=Za4 h2
  rw[hgd,e2.1,e1.2.2.2.1,Zr (by omega) (by omega)]
  unfold Y3
  rcases hpk.who with hw|hw
  ·rw[if_pos (show (Z6 (Ya (Zs b) s)).1 < 0 by rw[hw];decide)]
   have:(Z6 (Ya (Zs b) s)).2.2.addr.live=false:=by rw[hpk.addr,hz]
   rw[if_neg (by simp[this])]
   rw[show (-1,(Z6 (Ya (Zs b) s)).2.2).1=w.got from hg.symm]
  ·have hmb:=Ye hw.1
   rw[if_neg (show ¬(Z6 (Ya (Zs b) s)).1 < 0 by omega),if_pos (by rfl)]
   rfl
 have hh:=Zu1 h
 have hlt:b.holder≥0↔b.holder≠-1:=by
  rcases hh with hh|hh
  ·omega
  ·have:=Ye hh;omega
 have hJ7:Qu x0 s b w false=Zah x0 s b w:=by unfold Qu;rw[if_neg (by simp)]
 by_cases e:b.holder=-1
 ·have hb:Zs b=b:=by unfold Zs;rw[if_neg (fun hx:b.holder≠-1∧b.held=b.conf.lockMost=>hx.1 e)]
  rw[if_neg (by simp;omega),hJ7]
  rwa [hb] at hJ9
 ·rw[if_pos (by simpa using hlt.2 e)]
  have hhe:=(Kh h e).2.2.2
  by_cases e2:b.held=b.conf.lockMost
  ·have hb:Zs b=Yi9 {b with m:=b.m.set b.holder.toNat {atI b.m b.holder with broken:=true}}:=by unfold Zs;rw[if_pos ⟨e,e2⟩]
   unfold Qu
   rw[decide_eq_true (show b.held≥b.conf.lockMost by omega),if_pos rfl,Y2 h.ml (Kh h e).1,Option.bind_some,Y1,Option.bind_some]
   rw[hb] at hJ9
   exact hJ9
  ·have hb:Zs b=b:=by unfold Zs;rw[if_neg (fun hx:b.holder≠-1∧b.held=b.conf.lockMost=>e2 hx.2)]
   rw[decide_eq_false (show ¬b.held≥b.conf.lockMost by omega),hJ7]
   rwa [hb] at hJ9
theorem Ypm (x0:GBus) (w:GWave) (h:BusI b.now b) (hs:s.sm) (hw:w.ready=true) (hg:w.resp=0) (hp:0≤b.picks∧b.picks≤4000) (hn:0≤b.now∧b.now < 4000):
  Qe x0 s b w=some (if (Zc b s).2.1=true then ({w with resp:=(Zc b s).2.2,got:=(Zm (Zc b s).1 s).1},{(Zm (Zc b s).1 s).2 with now:=b.now+1}) else ({w with ready:=false,resp:=(Zc b s).2.2},{(Zc b s).1 with now:=b.now+1})):=by
 have hf:=Zuz s hn.1 h
 have hfn:=Zjj b s
 obtain⟨w1,w2,w3,w4,w5,w6,rdy,rsp,w9⟩:=w
 simp only at hw hg
 subst hw
 subst hg
 unfold Qe
 rw[Yer (GWave.mk w1 w2 w3 w4 w5 w6 true 0 w9) h hs (by omega),Option.bind_some]
 simp only
 have hresp:(if b.data_.live=true∧¬b.data_.left > 0 then GWave.mk w1 w2 w3 w4 w5 w6 true b.data_.resp w9 else GWave.mk w1 w2 w3 w4 w5 w6 true 0 w9)=GWave.mk w1 w2 w3 w4 w5 w6 true (Zc b s).2.2 w9:=by
  unfold Zc
  by_cases hd:b.data_.live=true
  ·by_cases hl:b.data_.left > 0
   ·rw[if_neg (fun hx:b.data_.live=true∧¬b.data_.left > 0=>hx.2 hl),if_neg (by simp[hd]),if_pos hl]
   ·rw[if_pos ⟨hd,hl⟩,if_neg (by simp[hd]),if_neg hl]
    congr 1
    split
    ·rfl
    ·split
     ·rfl
     ·split<;>rfl
  ·rw[if_neg (fun hx:b.data_.live=true∧¬b.data_.left > 0=>hd hx.1),if_pos (by simpa using hd)]
 rw[hresp]
 by_cases hr:(Zc b s).2.1=true
 ·rw[if_pos hr,if_pos hr]
  simp only[hr]
  have:=Ybt x0 (GWave.mk w1 w2 w3 w4 w5 w6 true (Zc b s).2.2 w9) hf.1 hs (hf.2 hr) (by rw[hfn.2.1];exact hp) (by rw[hfn.1];omega)
  rw[hfn.1] at this
  exact this
 ·rw[if_neg hr,if_neg hr]
  unfold Zbu
  have hr2:(Zc b s).2.1=false:=by simpa using hr
  rw[hr2,hfn.1,Zr (by omega) (by omega)]
theorem Yo6 (x0:GBus) (w:GWave) (h:BusI b.now b) (hs:s.sm) (hw:w.ready=true) (hg:w.resp=0) (hgot:w.got=-1) (hp:0≤b.picks∧b.picks≤4000) (hn:0≤b.now∧b.now < 4000):
  Qw x0 s b w=some (if (Zc b s).2.1=true then ({(Zm (Zc b s).1 s).2 with now:=b.now+1},{w with resp:=(Zc b s).2.2,got:=(Zm (Zc b s).1 s).1}) else ({(Zc b s).1 with now:=b.now+1},{w with ready:=false,resp:=(Zc b s).2.2})):=by
 have hf:=Zuz s hn.1 h
 have hfn:=Zjj b s
 have hlim:=(Ym h.conf).2.1
 obtain⟨w1,w2,w3,w4,w5,w6,rdy,rsp,w9⟩:=w
 simp only at hw hg hgot
 subst hw
 subst hg
 subst hgot
 have hT:∀w2:GWave,w2.ready=true→w2.got=-1→(Zc b s).2.1=true→Wg x0 s (Zc b s).1 w2=some ({(Zm (Zc b s).1 s).2 with now:=b.now+1},{w2 with got:=(Zm (Zc b s).1 s).1}):=by
  intro w2 h1 h2 hr
  unfold Wg
  rw[if_pos h1]
  have:=Yai x0 w2 hf.1 hs (hf.2 hr) (by rw[hfn.2.1];exact hp) (by rw[hfn.1];omega) h2
  rw[hfn.1] at this
  exact this
 have hF:∀(c:GBus) (w2:GWave),w2.ready=false→c.now=b.now→Wg x0 s c w2=some ({c with now:=b.now+1},w2):=by
  intro c w2 h1 h2
  unfold Wg Zai
  rw[if_neg (by simp[h1]),h2,Zr (by omega) (by omega)]
 unfold Qw Zhz
 by_cases hd:b.data_.live=true
 ·have hdat:=h.data
  unfold X2 at hdat
  rw[if_pos hd] at hdat
  rw[if_pos hd]
  by_cases hl:b.data_.left > 0
  ·have e:Zc b s=({b with data_:={b.data_ with left:=b.data_.left - 1}},false,0):=by
    unfold Zc;rw[if_neg (by simp[hd]),if_pos hl]
   rw[decide_eq_true hl,if_pos rfl,Z9 (by omega) (by omega),hF {b with data_:={b.data_ with left:=b.data_.left - 1}} (GWave.mk w1 w2 w3 w4 w5 w6 false 0 (-1)) rfl rfl,e,if_neg (by simp)]
  ·rw[decide_eq_false hl,if_neg (by simp),if_pos hd]
   have hdone:¬(b.data_.resp≠0∧b.data_.second=false)→Qt x0 s b (GWave.mk w1 w2 w3 w4 w5 w6 true 0 (-1)) false=some (if (Zc b s).2.1=true then ({(Zm (Zc b s).1 s).2 with now:=b.now+1},GWave.mk w1 w2 w3 w4 w5 w6 true (Zc b s).2.2 (Zm (Zc b s).1 s).1) else ({(Zc b s).1 with now:=b.now+1},GWave.mk w1 w2 w3 w4 w5 w6 false (Zc b s).2.2 (-1))):=by
    intro hns
    unfold Qt
    rw[if_neg (by simp),if_pos hd,Ydx h hs (by omega) hd hl hns,Option.bind_some]
    have hr:(Zc b s).2.1=true∧(Zc b s).2.2=b.data_.resp:=by
     unfold Zc
     rw[if_neg (by simp[hd]),if_neg hl,if_neg hns]
     split
     ·exact⟨rfl,rfl⟩
     ·split<;>exact⟨rfl,rfl⟩
    rw[if_pos hr.1,hr.2]
    exact hT _ rfl rfl hr.1
   by_cases h2:b.data_.resp≠0
   ·rw[if_pos (decide_eq_true h2)]
    by_cases h3:b.data_.second=false
    ·rw[h3]
     have e:Zc b s=(if b.addr.live then {Zt {b with data_:={b.data_ with second:=true}} b.addr with addr:=GBeat.z0} else {b with data_:={b.data_ with second:=true}},false,b.data_.resp):=by
      unfold Zc;rw[if_neg (by simp[hd]),if_neg hl,if_pos ⟨h2,h3⟩]
     have hq:∀(x y:Option (GBus×GWave)),(if (Zc b s).2.1=true then x else y)=y:=by
      intro x y
      rw[e]
      exact if_neg (by simp)
     have hq2:(some (if (Zc b s).2.1=true then ({(Zm (Zc b s).1 s).2 with now:=b.now+1},GWave.mk w1 w2 w3 w4 w5 w6 true (Zc b s).2.2 (Zm (Zc b s).1 s).1) else ({(Zc b s).1 with now:=b.now+1},GWave.mk w1 w2 w3 w4 w5 w6 false (Zc b s).2.2 (-1))))=some ({(Zc b s).1 with now:=b.now+1},GWave.mk w1 w2 w3 w4 w5 w6 false b.data_.resp (-1)):=by
      rw[show (Zc b s).2.2=b.data_.resp by rw[e]]
      exact congrArg some (if_neg (by rw[e];simp))
     refine Eq.trans ?_ hq2.symm
     unfold Qt
     rw[if_pos (by rfl),show (Zc b s).1=(if b.addr.live then {Zt {b with data_:={b.data_ with second:=true}} b.addr with addr:=GBeat.z0} else {b with data_:={b.data_ with second:=true}}) by rw[e]]
     by_cases ha:b.addr.live=true
     ·rw[if_pos ha,if_pos ha]
      have hwa:=X6 h ha
      rw[Zvw (b:={b with addr:=GBeat.z0,data_:={b.data_ with second:=true}}) b.addr h.conf hwa h.ml h.bl (h.mst _ hwa).right h.arb,Option.bind_some]
      have er:Zt {b with addr:=GBeat.z0,data_:={b.data_ with second:=true}} b.addr={Zt {b with data_:={b.data_ with second:=true}} b.addr with addr:=GBeat.z0}:=by
       unfold Zt
       split
       ·rfl
       ·split<;>rfl
      rw[er]
      exact hF _ _ rfl (Za1 _ _).1
     ·rw[if_neg ha,if_neg ha]
      exact hF _ _ rfl rfl
    ·have h4:b.data_.second=true:=by simpa using h3
     rw[h4,Bool.not_true]
     exact hdone fun hx=>h3 hx.2
   ·rw[if_neg (by simpa using h2)]
    exact hdone fun hx=>h2 hx.1
 ·have hd2:b.data_.live=false:=by simpa using hd
  have e:Zc b s=(b,true,0):=by unfold Zc;rw[if_pos hd2]
  rw[if_neg hd,if_neg (by simp),if_neg hd]
  unfold Qt
  have:=hT (GWave.mk w1 w2 w3 w4 w5 w6 true 0 (-1)) rfl rfl (by rw[e])
  rw[e] at this ⊢
  rw[if_neg (by simp),if_neg hd,if_pos rfl]
  simp only at this ⊢
  rw[this]
theorem Yo9 (x0:GBus) (w:GWave) (h:BusI b.now b) (hs:s.sm) (hw:w.ready=true) (hg:w.resp=0) (hp:0≤b.picks∧b.picks≤4000) (hn:0≤b.now∧b.now < 4000):
  Ke x0 s FU b w (b.splits.length:Int) 0=Qe x0 s (W7 (Z4 b)) w:=by
 have hlen:=Wy h.conf
 have hsl:=h.sl
 rw[hsl]
 have:=K9 (σ:=GBus×GWave×Int) (n:=b.conf.masters.length) (by omega) (fun k=>(Zhf b k,w,(b.conf.masters.length:Int))) (B:=fun κ st i=>Zee x0 s (fun a b c i=>κ (a,b,c) i) st.1 st.2.1 st.2.2 i) (L:=fun m st i=>Ke x0 s m st.1 st.2.1 st.2.2 i) (fun m s i=>rfl) (r:=Qe x0 s (W7 (Z4 b)) w) (fun k hk κ=>?_) fun κ=>?_
 ·simp only[Yg1] at this
  exact this
 ·have hmk:=mas (c:=b.conf) hk
  obtain⟨t1,t2,t3,t4⟩:=Z5m h hk
  have hsp:=(h.mst _ hmk).split
  have hlm:=(Ym h.conf).2.2.2
  unfold Zee
  simp only
  rw[if_pos (by simpa using hk),t1,Option.bind_some,Y1,Option.bind_some,t3,Option.bind_some,show (Zhf b k).conf=b.conf from rfl,Zub hmk,Option.bind_some,Z4p _ (Zez h.conf hmk),Option.bind_some,Y1,Option.bind_some,Z9 (by omega) (by omega),Zkl,Int.toNat_natCast,t2,t4]
  rfl
 ·have hto:=Zxo h
  unfold Zee
  simp only[Z9d h]
  rw[if_neg (by simp)]
  unfold W7
  by_cases e:b.holder=-1
  ·rw[if_neg (by simp[Z4,e]),if_pos (show (Z4 b).holder=-1 from e)]
  ·have hh:=(Kh hto (show (Z4 b).holder≠-1 from e)).2.2.2
   have hl:=(Ym h.conf).2.2.1
   have h3:(Z4 b).conf.lockMost=b.conf.lockMost:=rfl
   rw[if_pos (by simp[Z4,e]),if_neg (show ¬(Z4 b).holder=-1 from e),Zr (by omega) (by omega),Jq]
theorem Ypo (x0:GBus) (w:GWave) (h:BusI b.now b) (hs:s.sm):K0 x0 s FU b w 0=Qw x0 s (W7 (Z4 b)) w:=by
 have hlen:=Wy h.conf
 have hml:=h.ml
 have:=K9 (σ:=GBus×GWave) (n:=b.conf.masters.length) (by omega) (fun k=>(Zhf b k,w)) (B:=fun κ st i=>Zfb x0 s (fun a b i=>κ (a,b) i) st.1 st.2 i) (L:=fun m st i=>K0 x0 s m st.1 st.2 i) (fun m s i=>rfl) (r:=Qw x0 s (W7 (Z4 b)) w) (fun k hk κ=>?_) fun κ=>?_
 ·simp only[Yg1] at this
  exact this
 ·have hmk:=mas (c:=b.conf) hk
  obtain⟨t1,t2,t3,t4⟩:=Z5m h hk
  have hsp:=(h.mst _ hmk).split
  have hlm:=(Ym h.conf).2.2.2
  unfold Zfb
  simp only
  rw[if_pos (by show decide ((k:Int) < (b.m.length:Int))=true;rw[hml];simpa using hk),t1,Option.bind_some,Y1,Option.bind_some,t3,Option.bind_some,show (Zhf b k).conf=b.conf from rfl,Zub hmk,Option.bind_some,Z4h _ (Zez h.conf hmk),Option.bind_some,Y1,Option.bind_some,Z9 (by omega) (by omega),Zkl,Int.max_comm,Int.toNat_natCast,t2,t4]
  rfl
 ·have hto:=Zxo h
  have hh:=Zu1 h
  unfold Zfb
  simp only[Z9d h]
  rw[if_neg (by show ¬decide ((b.conf.masters.length:Int) < (b.m.length:Int))=true;rw[hml];simp)]
  unfold W7
  by_cases e:b.holder=-1
  ·rw[if_neg (by show ¬decide (b.holder≥0)=true;rw[e];simp),if_pos (show (Z4 b).holder=-1 from e)]
  ·have hh2:=(Kh hto (show (Z4 b).holder≠-1 from e)).2.2.2
   have hl:=(Ym h.conf).2.2.1
   have h3:(Z4 b).conf.lockMost=b.conf.lockMost:=rfl
   have hmb:=Ye (Kh h e).1
   rw[if_pos (by show decide (b.holder≥0)=true;simpa using hmb.1),if_neg (show ¬(Z4 b).holder=-1 from e),Zr (by omega) (by omega),Jq,Int.min_comm]
theorem Yek (h:BusI n b):Ze3 b s=Zb1 b s (Zeh b):=by
 unfold Ze3 Zb5 Zeh
 by_cases ha:b.addr.live=true
 ·have hwa:=X6 h ha
  by_cases hd:b.data_.live=true
  ·have hwd:=Yk h hd
   simp only[ha,hd,if_true,Y2 h.ml hwa,Y2 h.ml hwd,Option.bind_some,Zbo _ (h.mst _ hwa).right,Zbo _ (h.mst _ hwd).right]
   by_cases hf:b.addr.first=true<;>simp[hf]
  ·have hd2:b.data_.live=false:=by simpa using hd
   simp only[ha,hd2,if_true,Bool.false_eq_true,if_false,Y2 h.ml hwa,Option.bind_some,Zbo _ (h.mst _ hwa).right]
   by_cases hf:b.addr.first=true<;>simp[hf]
 ·have ha2:b.addr.live=false:=by simpa using ha
  by_cases hd:b.data_.live=true
  ·have hwd:=Yk h hd
   simp only[ha2,hd,if_true,Bool.false_eq_true,if_false,Y2 h.ml hwd,Option.bind_some,Zbo _ (h.mst _ hwd).right]
  ·have hd2:b.data_.live=false:=by simpa using hd
   simp only[ha2,hd2,if_true,Bool.false_eq_true,if_false]
theorem Yks (h:BusI n b):Zo3 b=some (Zeh b):=by
 unfold Zo3 Zdl Zeh
 by_cases ha:b.addr.live=true
 ·have hwa:=X6 h ha
  by_cases hd:b.data_.live=true
  ·have hwd:=Yk h hd
   simp only[ha,hd,if_true,Y2 h.ml hwa,Y2 h.ml hwd,Option.bind_some,Zes _ (h.mst _ hwa).right,Zes _ (h.mst _ hwd).right]
   by_cases hf:b.addr.first=true<;>simp[hf]
  ·have hd2:b.data_.live=false:=by simpa using hd
   simp only[ha,hd2,if_true,Bool.false_eq_true,if_false,Y2 h.ml hwa,Option.bind_some,Zes _ (h.mst _ hwa).right]
   by_cases hf:b.addr.first=true<;>simp[hf]
 ·have ha2:b.addr.live=false:=by simpa using ha
  by_cases hd:b.data_.live=true
  ·have hwd:=Yk h hd
   simp only[ha2,hd,if_true,Bool.false_eq_true,if_false,Y2 h.ml hwd,Option.bind_some,Zes _ (h.mst _ hwd).right]
  ·have hd2:b.data_.live=false:=by simpa using hd
   simp only[ha2,hd2,if_true,Bool.false_eq_true,if_false]
theorem Yos (x0:GBus) (w:GWave) (h:BusI n b) (ps:List GPost) (hps:ps.length < 1048577∧∀p∈ps,p.req.sm):Zbr x0 s FU b w ps (ps.length:Int) 0=Ke x0 s FU (Z7 b ps) w ((Z7 b ps).splits.length:Int) 0:=by
 have hlt:=Jv h.conf
 have:=K9 (σ:=GBus×GWave×List GPost×Int) (n:=ps.length) (by omega) (fun k=>(Z7 b (ps.take k),w,ps,(ps.length:Int))) (B:=fun κ st i=>Zd8 x0 s (fun a b c d i=>κ (a,b,c,d) i) st.1 st.2.1 st.2.2.1 st.2.2.2 i) (L:=fun m st i=>Zbr x0 s m st.1 st.2.1 st.2.2.1 st.2.2.2 i) (fun m s i=>rfl) (r:=Ke x0 s FU (Z7 b ps) w ((Z7 b ps).splits.length:Int) 0) (fun k hk κ=>?_) fun κ=>?_
 ·exact this
 ·have hI:=Zkb h (ps.take k)
  have hc:=(Zek b (ps.take k)).1
  rw[Zzi b ps k hk]
  generalize Z7 b (ps.take k)=c at hI hc ⊢
  unfold Zd8 Xr
  simp only
  rw[if_pos (by simpa using hk),Yc hk,Option.bind_some,Qk _ _ (by rw[hc];exact hlt),Option.bind_some]
  by_cases e:Za c.conf ps[k].who=true
  ·obtain⟨ok,hp⟩:=Yc0 (r:=ps[k].req) (hI.mst _ e).right (hps.2 _ (List.getElem_mem hk))
   rw[if_pos e,if_pos e,Y2 hI.ml e,Option.bind_some,hp,Option.bind_some,Y1,Option.bind_some]
  ·rw[if_neg e,if_neg e]
 ·unfold Zd8
  simp only
  rw[if_neg (by simp),List.take_length]
theorem Yoo (x0:GBus) (w:GWave) (h:BusI n b) (ps:List GPost) (hps:ps.length < 1048577∧∀p∈ps,p.req.sm):Zdo x0 s FU b w ps 0=K0 x0 s FU (Z7 b ps) w 0:=by
 have hlt:=Jv h.conf
 have:=K9 (σ:=GBus×GWave×List GPost) (n:=ps.length) (by omega) (fun k=>(Z7 b (ps.take k),w,ps)) (B:=fun κ st i=>Zfs x0 s (fun a b c i=>κ (a,b,c) i) st.1 st.2.1 st.2.2 i) (L:=fun m st i=>Zdo x0 s m st.1 st.2.1 st.2.2 i) (fun m s i=>rfl) (r:=K0 x0 s FU (Z7 b ps) w 0) (fun k hk κ=>?_) fun κ=>?_
 ·exact this
 ·have hI:=Zkb h (ps.take k)
  have hc:=(Zek b (ps.take k)).1
  rw[Zzi b ps k hk]
  generalize Z7 b (ps.take k)=c at hI hc ⊢
  unfold Zfs Xr
  simp only
  rw[if_pos (by simpa using hk),Yc hk,Option.bind_some,Zgs hI.ml (by rw[hc];exact hlt),Option.bind_some]
  by_cases e:Za c.conf ps[k].who=true
  ·obtain⟨ok,hp⟩:=Ybp (r:=ps[k].req) (hI.mst _ e).right (hps.2 _ (List.getElem_mem hk))
   rw[if_pos e,if_pos e,Y2 hI.ml e,Option.bind_some,hp,Option.bind_some,Y1,Option.bind_some]
  ·rw[if_neg e,if_neg e]
 ·unfold Zfs
  simp only
  rw[if_neg (by simp),List.take_length]
end
theorem Z8o {b:GBus} {s:GScript} (h:BusP b) (hs:s.sm) (hn:b.now < 4000):Ze3 b s=some ((Ze b s).2,(Ze b s).1):=by
 have hP:=Zkb h.i (Z8 s b.now)
 have hc:=Zek b (Z8 s b.now)
 have hp:=h.picks
 have hn2:=h.now
 have hO:=Z1r h s
 have eO:=Wo b s
 rw[Yek h.i]
 unfold Zb1
 rw[Yap _ _ hs,Option.bind_some,Yos b (Zeh b) h.i _ (Ycq hs _)]
 have hP2:BusI (Z7 b (Z8 s b.now)).now (Z7 b (Z8 s b.now)):=by rw[hc.2.1];exact hP
 rw[Yo9 b (Zeh b) hP2 hs rfl rfl (by rw[hc.2.2.1];omega) (by rw[hc.2.1];omega)]
 have hO2:BusI (Zi b s).now (Zi b s):=by rw[eO.1];exact hO
 show Qe b s (Zi b s) (Zeh b)=_
 rw[Ypm b (Zeh b) hO2 hs rfl rfl (by rw[eO.2.2.1];omega) (by rw[eO.1];omega),eO.1]
 unfold Ze
 split<;>rfl
theorem Z9a {b:GBus} {s:GScript} (h:BusP b) (hs:s.sm) (hn:b.now < 4000):Zpu b s=some ((Ze b s).1,(Ze b s).2):=by
 have hP:=Zkb h.i (Z8 s b.now)
 have hc:=Zek b (Z8 s b.now)
 have hp:=h.picks
 have hn2:=h.now
 have hO:=Z1r h s
 have eO:=Wo b s
 unfold Zpu
 rw[Zzv b h.sm,Option.bind_some,Yks h.i,Option.bind_some,Yat _ _ hs,Option.bind_some,Yoo b (Zeh b) h.i _ (Ycq hs _)]
 have hP2:BusI (Z7 b (Z8 s b.now)).now (Z7 b (Z8 s b.now)):=by rw[hc.2.1];exact hP
 rw[Ypo b (Zeh b) hP2 hs]
 have hO2:BusI (Zi b s).now (Zi b s):=by rw[eO.1];exact hO
 show Qw b s (Zi b s) (Zeh b)=_
 rw[Yo6 b (Zeh b) hO2 hs rfl rfl rfl (by rw[eO.2.2.1];omega) (by rw[eO.1];omega),eO.1]
 unfold Ze
 split<;>rfl
def okB (b:GBus):Bool:=(Zik b).getD false
theorem Z1g {b:GBus} (hs:b.sm):okB b=true↔BusP b:=by
 obtain⟨r,-,h2,h3⟩:=Z35 b hs
 unfold okB
 rw[h2]
 exact h3
theorem i_okB {b:GBus} (hs:b.sm):Zmf b=some (okB b):=by
 obtain⟨r,h1,h2,h3⟩:=Z35 b hs
 unfold okB
 rw[h1,h2];rfl
theorem s_okB {b:GBus} (hs:b.sm):Zik b=some (okB b):=by
 obtain⟨r,h1,h2,h3⟩:=Z35 b hs
 unfold okB
 rw[h2];rfl
theorem BusP.ok {b:GBus} (h:BusP b):okB b=true:=(Z1g h.sm).2 h
def newG (c:GConf):GBus:={GBus.z0 with conf:=c,m:=List.replicate c.masters.length GMst.z0,buckets:=c.masters.map Zo9,splits:=List.replicate c.masters.length 0,holder:=-1,last:=-1,model:=GModel.mk (List.replicate 192 0) (GDev.mk (List.replicate 4 0) 0 [])}
def Z1f (c:GConf):GBus×Bool:=if Zz c=true then (newG c,true) else (GBus.z0,false)
theorem Yew:Zyo=some (GDev.mk (List.replicate 4 0) 0 []):=rfl
theorem Z9h:Zn7=some (GModel.mk (List.replicate 192 0) (GDev.mk (List.replicate 4 0) 0 [])):=by
 unfold Zn7
 rw[show (192:Int)=((192:Nat):Int) from rfl,Ybn (by decide) (by decide),Option.bind_some,Yew]
 rfl
theorem Z9w:Zmy=some (GModel.mk (List.replicate 192 0) (GDev.mk (List.replicate 4 0) 0 [])):=by
 unfold Zmy
 first
 | rfl
 | (rw[show (192:Int)=((192:Nat):Int) from rfl,Ybn (by decide) (by decide),Option.bind_some];rfl)
def newK (c:GConf) (k:Nat):GBus:={newG c with m:=List.replicate k GMst.z0,buckets:=(c.masters.take k).map Zo9,splits:=List.replicate k 0}
theorem Z84 (c:GConf) {k:Nat} (hk:k < c.masters.length):newK c (k+1)={newK c k with m:=(newK c k).m++[GMst.z0],buckets:=(newK c k).buckets++[Zo9 c.masters[k]],splits:=(newK c k).splits++[0]}:=by
 unfold newK
 simp only[List.replicate_succ']
 rw[List.take_succ_eq_append_getElem hk,List.map_append]
 rfl
theorem Ya3 (c:GConf):newK c c.masters.length=newG c:=by
 unfold newK
 rw[List.take_length]
 rfl
theorem Yeu (c:GConf) (hl:c.masters.length < 1048577):Zru c=some (Z1f c):=by
 unfold Zru Z1f
 rw[Zpb c hl,Option.bind_some]
 by_cases h:Zz c=true
 ·rw[h,if_neg (by simp),(Zuh c hl).1,Option.bind_some,Z9w,Option.bind_some,if_pos rfl]
  rw[←Ya3 c]
  refine K9 (σ:=GBus) (n:=c.masters.length) (by omega) (newK c) (B:=Zhx c) (L:=Zjh c) (fun m s i=>rfl) (fun k hk κ=>?_) fun κ=>?_
  ·unfold Zhx
   have e1:(newK c k).m.length=k:=by simp[newK]
   have e2:(newK c k).buckets.length=k:=by simp[newK];omega
   have e3:(newK c k).splits.length=k:=by simp[newK]
   rw[if_pos (by simpa using hk),Yc hk,Option.bind_some,Ys (by simp only[List.length_cons,List.length_nil];omega) (by simp only[List.length_cons,List.length_nil];omega),Option.bind_some,Z7f,Option.bind_some,Ys (by simp only[List.length_cons,List.length_nil];omega) (by simp only[List.length_cons,List.length_nil];omega),Option.bind_some,Ys (by simp only[List.length_cons,List.length_nil];omega) (by simp only[List.length_cons,List.length_nil];omega),Option.bind_some,Z84 c hk]
  ·unfold Zhx
   rw[if_neg (by simp)]
 ·simp[h]
theorem Z12 (c:GConf) (hl:c.masters.length < 1048577):Zmo c=some (Z1f c):=by
 unfold Zmo Z1f
 rw[Zd3 c hl,Option.bind_some]
 by_cases h:Zz c=true
 ·rw[h,if_neg (by simp),(Zuh c hl).2,Option.bind_some,Z9h,Option.bind_some,if_pos rfl]
  rw[←Ya3 c]
  refine K9 (σ:=GBus) (n:=c.masters.length) (by omega) (newK c) (B:=Zg9 c) (L:=Zki c) (fun m s i=>rfl) (fun k hk κ=>?_) fun κ=>?_
  ·unfold Zg9
   have e1:(newK c k).m.length=k:=by simp[newK]
   have e2:(newK c k).buckets.length=k:=by simp[newK];omega
   have e3:(newK c k).splits.length=k:=by simp[newK]
   rw[if_pos (by simpa using hk),Ys (by simp only[List.length_cons,List.length_nil];omega) (by simp only[List.length_cons,List.length_nil];omega),Option.bind_some,Yc hk,Option.bind_some,Z71,Option.bind_some,Ys (by simp only[List.length_cons,List.length_nil];omega) (by simp only[List.length_cons,List.length_nil];omega),Option.bind_some,Ys (by simp only[List.length_cons,List.length_nil];omega) (by simp only[List.length_cons,List.length_nil];omega),Option.bind_some,Z84 c hk]
  ·unfold Zg9
   rw[if_neg (by simp)]
 ·simp[h]
theorem Yng (c:GConf) (i:Int):flyG (newG c) i=0:=rfl
theorem Zr2 (c:GConf) {i:Int} (h:Za c i=true):atI (newG c).m i=GMst.z0:=by
 obtain⟨k,rfl,hk⟩:=Zwk h
 have hk2:k < (newG c).m.length:=by simpa [newG] using hk
 rw[Xb hk2]
 simp[newG]
theorem Ymv:RightP GMst.z0:=⟨by decide,by decide,fun r hr=>absurd hr (by simp[GMst.z0]),fun _=>⟨rfl,rfl,rfl,rfl,rfl⟩,fun h=>absurd rfl h⟩
theorem Ylg:ModelP (GModel.mk (List.replicate 192 0) (GDev.mk (List.replicate 4 0) 0 [])):=⟨List.length_replicate,by show (List.replicate 192 (0:Int)).all Jc=true;rw[List.all_replicate];rfl,⟨rfl,by show ∀v∈List.replicate 4 (0:Int),numG v 2=true;decide,by show numG 0 2=true;decide,by show 0≤4;decide,fun v hv=>absurd hv (by show ¬v∈([]:List Int);simp)⟩⟩
theorem Zqu {c:GConf} (h:Zz c=true):BusP (newG c):=by
 have hl:=Wy h
 have hm0:Za c 0=true:=by simp only[Za,decide_eq_true_eq];omega
 have hsl:0 < Wi c:=by
  have:=Zso c
  simp only[Zz,Bool.and_eq_true,decide_eq_true_eq] at h
  omega
 have hlim:=Ym h
 have e0:(0:Int)≤0:=Int.le_refl 0
 refine⟨h,⟨e0,by show (0:Int)≤4000;omega⟩,by simp[newG],by simp[newG],by simp[newG],fun i hi=>⟨by rw[Zr2 c hi];exact Ymv,?_,?_,?_⟩,?_,.inl rfl,?_,⟨e0,e0⟩,fun hx=>absurd hx (by simp[newG,GBus.z0,GBeat.z0]),fun hx=>absurd hx (by simp[newG,GBus.z0,GBeat.z0]),fun i hi=>?_,?_,?_,⟨fun i hi hb=>?_,?_⟩,fun d hd=>absurd hd (by simp[newG,GBus.z0]),?_⟩
 ·rw[Zr2 c hi]
  show (0:Int)≤c.maxRetry
  exact hlim.1.1
 ·obtain⟨k,rfl,hk⟩:=Zwk hi
  have hk2:k < (newG c).buckets.length:=by simpa [newG] using hk
  have hk:k < c.masters.length:=hk
  have hm:=Zez h hi
  show Z0 (atI (newG c).buckets k) (atI c.masters k)=true
  rw[Xb hk] at hm ⊢
  rw[Xb hk2]
  have:(newG c).buckets[k]=Zo9 c.masters[k]:=by simp[newG]
  rw[this]
  exact Ypq hm ⟨hsl,fun hp=>List.countP_pos_iff.2 ⟨_,List.getElem_mem hk,hp⟩⟩
 ·obtain⟨k,rfl,hk⟩:=Zwk hi
  have hk2:k < (newG c).splits.length:=by simpa [newG] using hk
  rw[Xb hk2]
  have:(newG c).splits[k]=0:=by simp[newG]
  rw[this]
  exact⟨e0,by show (0:Int)≤c.maxSplit;omega⟩
 ·show wrrG GWrr.z0 c=true
  unfold wrrG
  have:=Zow c 0
  simp[h,hm0,GWrr.z0,this.1]
 ·exact Ylg
 ·rw[Zr2 c hi,Yng];rfl
 ·unfold Wc
  rw[if_neg (by simp[newG,GBus.z0,GBeat.z0])]
  rfl
 ·unfold X2
  rw[if_neg (by simp[newG,GBus.z0,GBeat.z0])]
  rfl
 ·rw[Zr2 c hi] at hb
  exact absurd hb (by decide)
 ·show if (-1:Int)=-1 then (0:Int)=0 else _
  rw[if_pos rfl]
 ·exact List.Pairwise.nil
theorem Ygm {c:GConf} (h:Zz c=true):Z1f c=(newG c,true):=if_pos h
def Zdr (b:GBus):Bool:=b.m.all fun m=>decide (m.queue=[])
theorem Yfu {b:GBus} (hl:b.m.length < 1048577):Zjz b=some (Zdr b):=by
 unfold Zjz Xz We
 have e:∀a:GMst,Zb6 a=some (!decide (a.queue=[])):=by
  intro a
  unfold Zb6
  by_cases h:a.queue=[]
  ·simp[h]
  ·have:=List.length_pos_iff.2 h
   simp only[h,decide_false,Bool.not_false]
   exact congrArg some (decide_eq_true (by omega))
 rcases Zxg b.m (by omega) Zb6 (fun m=>decide (m.queue=[])) (fun a _=>e a) (Yw b.m) (fun m i=>rfl) with⟨h1,h2⟩|⟨k,hk,h2,h3,-⟩
 ·rw[h2]
  unfold Zdr
  rw[h1]
  rfl
 ·rw[h2]
  have:Zdr b=false:=by
   unfold Zdr
   rw[List.all_eq_false]
   exact⟨_,List.getElem_mem hk,by rw[h3];simp⟩
  rw[this]
  simp
theorem Ym8 {α ρ:Type} (xs:List α) (hl:xs.length < 4611686018427387904) (c:α→Bool) {no:Option ρ} (fin:Option ρ) (L:Nat→Int→Option ρ)
  (hL:∀m i,L (m+1) i=if decide (i < (xs.length:Int))=true then (idx xs i).bind fun a=>if c a=true then no else L m (addW i 1) else fin):L FU 0=if xs.any c=true then no else fin:=by
 have key:∀(m k:Nat),k≤xs.length→xs.length - k < m→L m (k:Int)=if (xs.drop k).any c=true then no else fin:=by
  intro m
  induction m with
  | zero=>intro k _ h;omega
  | succ m ih=>
   intro k hk hm
   rw[hL]
   by_cases hc:k < xs.length
   ·rw[if_pos (by simpa using hc),Yc hc,Option.bind_some,Yo (by omega),ih (k+1) (by omega) (by omega),List.drop_eq_getElem_cons hc,List.any_cons]
    by_cases h:c xs[k]=true
    ·simp[h]
    ·simp[h]
   ·rw[if_neg (by simpa using hc),List.drop_of_length_le (by omega)]
    simp
 have:=key FU 0 (Nat.zero_le _) (by have:=Y5;omega)
 simpa using this
theorem Ykr (b:GBus):(b.m.any fun a=>decide ((a.queue.length:Int) > 0))=!Zdr b:=by
 unfold Zdr
 rw[List.not_all_eq_any_not]
 congr 1
 funext a
 by_cases h:a.queue=[]
 ·simp[h]
 ·have:=List.length_pos_iff.2 h
  simp only[h,decide_false,Bool.not_false]
  exact decide_eq_true (by omega)
def So {β:Type} (e:Option β) (R:β→Prop):Prop:=∃b,e=some b∧R b
theorem So.bind {α β:Type} {e:Option α} {Q:α→Prop} {f:α→Option β} {R:β→Prop} (h:So e Q) (k:∀a,Q a→So (f a) R):So (e.bind f) R:=by
 obtain⟨a,rfl,q⟩:=h
 exact k a q
theorem So.ret {β:Type} {b:β} {R:β→Prop} (h:R b):So (some b) R:=⟨b,rfl,h⟩
theorem So.ite {β:Type} {c:Prop} [Decidable c] {x y:Option β} {R:β→Prop} (h1:c→So x R) (h2:¬c→So y R):So (if c then x else y) R:=by
 split
 ·exact h1 ‹_›
 ·exact h2 ‹_›
def Yb (c:GL1Cur):Prop:=0≤c.i∧c.i≤(c.b.length:Int)∧c.b.length < 4611686018427387904
theorem Ylx (a:Int):0≤andW a 255∧andW a 255≤255:=by
 have h:((BitVec.ofInt IntKind.i64.bits a &&& BitVec.ofInt IntKind.i64.bits 255).toNat)≤255:=by
  rw[BitVec.toNat_and]
  have:(BitVec.ofInt IntKind.i64.bits 255).toNat=255:=by decide
  rw[this]
  exact Nat.and_le_right
 unfold andW
 generalize (BitVec.ofInt IntKind.i64.bits a &&& BitVec.ofInt IntKind.i64.bits 255).toNat=n at*
 rw[Zp7 (by omega) (by omega)]
 omega
theorem Zqi {c:GL1Cur} (h:Yb c):∃r c',Zc0 c=some (r,c')∧Yb c'∧0≤r∧r≤255:=by
 obtain⟨h1,h2,h3⟩:=h
 unfold Zc0
 by_cases hc:c.i < (c.b.length:Int)
 ·obtain⟨k,hk⟩:∃k:Nat,c.i=k:=⟨c.i.toNat,by omega⟩
  have hk2:k < c.b.length:=by omega
  rw[if_pos (by simpa using hc),hk,Yc hk2,Option.bind_some]
  refine⟨_,_,rfl,⟨?_,?_,h3⟩,Ylx _⟩
  ·show 0≤addW (k:Int) 1
   rw[Yo (by omega)];omega
  ·show addW (k:Int) 1≤_
   rw[Yo (by omega)];show ((k+1:Nat):Int)≤(c.b.length:Int);omega
 ·rw[if_neg (by simpa using hc)]
  exact⟨_,_,rfl,⟨h1,h2,h3⟩,Ylx _⟩
theorem Ygp {a n:Int} (h0:0≤a) (hn:0 < n):0≤remW a n∧remW a n < n:=by
 unfold remW
 rw[Int.tmod_eq_emod_of_nonneg h0]
 exact⟨Int.emod_nonneg _ (by omega),Int.emod_lt_of_pos _ hn⟩
theorem Zxv {c:GL1Cur} (n:Int) (h:Yb c):∃r c',Zo c n=some (r,c')∧Yb c'∧0≤r∧(0 < n→r < n)∧(n≤0→r=0):=by
 unfold Zo
 by_cases h0:n≤0
 ·rw[if_pos (by simpa using h0)]
  exact⟨_,_,rfl,h,by omega,fun _=>by omega,fun _=>rfl⟩
 ·rw[if_neg (by simpa using h0)]
  by_cases h1:n≤256
  ·rw[if_pos (by simpa using h1)]
   obtain⟨r,c',hr,hc,h2,h3⟩:=Zqi h
   rw[hr,Option.bind_some,Zis (by omega),Option.bind_some]
   have:=Ygp h2 (by omega:0 < n)
   exact⟨_,_,rfl,hc,this.1,fun _=>this.2,fun _=>by omega⟩
  ·rw[if_neg (by simpa using h1)]
   obtain⟨r,c',hr,hc,h2,h3⟩:=Zqi h
   obtain⟨r2,c2,hr2,hc2,h22,h32⟩:=Zqi hc
   obtain⟨r3,c3,hr3,hc3,h23,h33⟩:=Zqi hc2
   obtain⟨r4,c4,hr4,hc4,h24,h34⟩:=Zqi hc3
   rw[hr,Option.bind_some,hr2,Option.bind_some,hr3,Option.bind_some,hr4,Option.bind_some,Zis (by omega),Option.bind_some]
   have e:addW (addW (addW (mulW r 16777216) (mulW r2 65536)) (mulW r3 256)) r4=r*16777216+r2*65536+r3*256+r4:=by
    rw[K8 (by omega) (by omega),K8 (by omega) (by omega),K8 (by omega) (by omega),Zr (a:=r*16777216) (by omega) (by omega),Zr (a:=r*16777216+r2*65536) (by omega) (by omega),Zr (by omega) (by omega)]
   have:=Ygp (by rw[e];omega:0≤addW (addW (addW (mulW r 16777216) (mulW r2 65536)) (mulW r3 256)) r4) (by omega:0 < n)
   exact⟨_,_,rfl,hc4,this.1,fun _=>this.2,fun _=>by omega⟩
theorem Yn6 (x:List Int) (hl:x.length < 1048577):∃c,Zmh x=some c∧Yb c:=by
 unfold Zmh
 have key:∀(m k:Nat) (v:Int),k≤x.length→x.length - k < m→∃c,Zco x m v k=some c∧Yb c:=by
  intro m
  induction m with
  | zero=>intro k _ _ h;omega
  | succ m ih=>
   intro k v hk hm
   have e:Zco x (m+1) v k=Zon x (Zco x m) v k:=rfl
   rw[e]
   unfold Zon Zlj
   by_cases hc:k < x.length
   ·rw[if_pos (by simpa using hc)]
    by_cases h4:(k:Int) < 4000
    ·rw[if_pos (by simpa using h4),Yc hc,Option.bind_some,Yo (by omega)]
     exact ih (k+1) _ (by omega) (by omega)
    ·rw[if_neg (by simpa using h4)]
     exact⟨_,rfl,by simp[Yb];omega⟩
   ·rw[if_neg (by simpa using hc)]
    exact⟨_,rfl,by simp[Yb];omega⟩
 exact key FU 0 _ (Nat.zero_le _) (by have:=Y5;omega)
theorem Ylj {c:GL1Cur} (n:Int) (h:Yb c):∃r c',Zar c n=some (r,c')∧Yb c':=by
 unfold Zar
 obtain⟨r,c',hr,hc,_⟩:=Zxv n h
 rw[hr]
 exact⟨_,_,rfl,hc⟩
theorem Ylc {α:Type} {xs:List α} {i:Int} (h0:0≤i) (h1:i < (xs.length:Int)):∃a,idx xs i=some a∧a∈xs:=by
 obtain⟨k,rfl⟩:∃k:Nat,i=k:=⟨i.toNat,by omega⟩
 have hk:k < xs.length:=by omega
 exact⟨_,Yc hk,List.getElem_mem hk⟩
theorem Ybc {c:GL1Cur} (xs:List Int) (hx:xs≠[]) (h:Yb c):∃r c',Yh c xs=some (r,c')∧Yb c'∧r∈xs:=by
 unfold Yh
 obtain⟨r,c',hr,hc,h0,h1,_⟩:=Zxv (xs.length:Int) h
 have hl:0 < xs.length:=List.length_pos_iff.2 hx
 obtain⟨a,ha,hm⟩:=Ylc h0 (h1 (by omega))
 rw[hr,Option.bind_some,ha]
 exact⟨_,_,rfl,hc,hm⟩
theorem Yu {c:GL1Cur} (n:Int) (h:Yb c):So (Zo c n) fun r=>Yb r.2∧0≤r.1∧(0 < n→r.1 < n)∧(n≤0→r.1=0):=by
 obtain⟨r,c',e,h1,h2,h3,h4⟩:=Zxv n h
 exact⟨_,e,h1,h2,h3,h4⟩
theorem Zwt {c:GL1Cur} (n:Int) (h:Yb c):So (Zar c n) fun r=>Yb r.2:=by
 obtain⟨r,c',e,h1⟩:=Ylj n h
 exact⟨_,e,h1⟩
theorem Zcr {c:GL1Cur} (xs:List Int) (hx:xs≠[]) (h:Yb c):So (Yh c xs) fun r=>Yb r.2∧r.1∈xs:=by
 obtain⟨r,c',e,h1,h2⟩:=Ybc xs hx h
 exact⟨_,e,h1,h2⟩
theorem Zwv {α:Type} {xs:List α} {i:Int} (h0:0≤i) (h1:i < (xs.length:Int)):So (idx xs i) fun a=>a∈xs:=Ylc h0 h1
theorem Zwe {α:Type} (xs:List α) (i:Int) (a:α):So (setO xs i a) fun r=>r=xs.set i.toNat a:=⟨_,rfl,rfl⟩
theorem Zw7 {α:Type} (sz:Nat) (hz:sz≤1024) (xs ys:List α) (h:xs.length+ys.length≤1048600):So (appI sz xs ys) fun r=>r=xs++ys:=by
 have hb:(xs.length+ys.length)*sz≤140737488355328:=Nat.le_trans (Nat.mul_le_mul h hz) (by decide)
 exact⟨_,Ys hb (by omega),rfl⟩
theorem Z85 {x0:GL1Cur} (h:Yb x0):So (Zm3 x0) fun r=>Yb r.2∧Zz r.1=true:=by
 unfold Zm3
 refine (Yu 3 h).bind fun r1 ⟨h1,a1,b1,_⟩=>?_
 refine (Yu 3 h1).bind fun r2 ⟨h2,a2,b2,_⟩=>?_
 refine (Yu 3 h2).bind fun r3 ⟨h3,a3,b3,_⟩=>?_
 refine (Yu 6 h3).bind fun r4 ⟨h4,a4,b4,_⟩=>?_
 refine (Yu 12 h4).bind fun r5 ⟨h5,a5,b5,_⟩=>?_
 refine (Yu 4 h5).bind fun r6 ⟨h6,a6,b6,_⟩=>?_
 have b1:=b1 (by omega)
 have b2:=b2 (by omega)
 have b3:=b3 (by omega)
 have b4:=b4 (by omega)
 have b5:=b5 (by omega)
 have b6:=b6 (by omega)
 rw[Zr (by omega) (by omega),Zr (by omega) (by omega),Zr (by omega) (by omega),Zr (by omega) (by omega)]
 generalize r1.1=q at*
 generalize r2.1=w at*
 generalize r3.1=e at*
 generalize r4.1=s at*
 generalize r5.1=l at*
 have hcost:∀ms,Zct (GConf.mk ms (1+q) w e (1+s) (1+l))=(e+2)*(w+6):=fun ms=>by
  unfold Zct
  rw[if_pos (by simp only;omega)]
 have hcl:12≤(e+2)*(w+6)∧(e+2)*(w+6)≤32:=by
  obtain rfl|rfl|rfl:e=0∨e=1∨e=2:=by omega
  all_goals omega
 have hslot:∀ms,Wi (GConf.mk ms (1+q) w e (1+s) (1+l))=2*((e+2)*(w+6))+(1+l):=fun ms=>by
  unfold Wi
  rw[hcost,if_neg (by omega),if_pos (by simp only;omega)]
 generalize (e+2)*(w+6)=cost at*
 have key:∀(m k:Nat) (c:GL1Cur) (ms:List GMConf),Yb c→k < m→1≤ms.length+k→ms.length+k≤4→(∀x∈ms,(1≤x.weight∧x.weight≤4)∧x.prio=false∧x.every=0∧x.cap=0)→So (Zbh x0 m c (GConf.mk ms (1+q) w e (1+s) (1+l)) (k:Int)) fun r=>Yb r.2∧Zz r.1=true:=by
  intro m
  induction m with
  | zero=>intro k _ _ _ h;omega
  | succ m ih=>
   intro k c ms hc hm hl1 hl2 hms
   have eL:Zbh x0 (m+1) c (GConf.mk ms (1+q) w e (1+s) (1+l)) (k:Int)=Zmr x0 (Zbh x0 m) c (GConf.mk ms (1+q) w e (1+s) (1+l)) (k:Int):=rfl
   rw[eL]
   unfold Zmr
   cases k with
   | succ k=>
    rw[if_pos (by simp)]
    refine (Yu 3 hc).bind fun r1 ⟨h1,a1,b1,_⟩=>?_
    have b1:=b1 (by omega)
    refine (Zw7 32 (by decide) _ _ (by simp only[List.length_cons,List.length_nil];omega)).bind fun z hz=>?_
    rw[Z9 (by omega) (by omega),show ((k+1:Nat):Int) - 1=(k:Int) by omega]
    subst hz
    refine ih k r1.2 _ h1 (by omega) (by simp;omega) (by simp;omega) fun x hx=>?_
    rw[List.mem_append,List.mem_singleton] at hx
    rcases hx with hx|rfl
    ·exact hms x hx
    ·refine⟨?_,rfl,rfl,rfl⟩
     show 1≤addW 1 r1.1∧addW 1 r1.1≤4
     rw[Zr (by omega) (by omega)]
     omega
   | zero=>
    have hgood:∀ys:List GMConf,ys.length=ms.length→(∀x∈ys,Xj (GConf.mk ys (1+q) w e (1+s) (1+l)) x=true)→Zz (GConf.mk ys (1+q) w e (1+s) (1+l))=true:=by
     intro ys hy h
     unfold Zz
     rw[hslot]
     simp only[Bool.and_eq_true,decide_eq_true_eq,List.all_eq_true]
     refine⟨⟨⟨⟨?_,?_⟩,?_⟩,?_⟩,h⟩<;>omega
    rw[if_neg (by simp)]
    refine (Zwt 2 hc).bind fun r1 h1=>?_
    refine So.ite (fun _=>?_) fun _=>So.ret ⟨h1,hgood ms rfl fun x hx=>?_⟩
    ·refine (Yu (ms.length:Int) h1).bind fun r2 ⟨h2,a2,b2,_⟩=>?_
     have b2:=b2 (by omega)
     obtain⟨k,hk⟩:∃k:Nat,r2.1=(k:Int):=⟨r2.1.toNat,by omega⟩
     simp only[hk] at a2 b2 ⊢
     have hk2:k < ms.length:=by omega
     rw[Yc hk2,Option.bind_some,Y1,Option.bind_some,Zvx,Option.bind_some,hslot]
     refine (Yu 30 h2).bind fun r3 ⟨h3,a3,b3,_⟩=>?_
     have b3:=b3 (by omega)
     rw[Int.toNat_natCast,Yc (by simpa using hk2),Option.bind_some,Y1,Option.bind_some]
     refine (Yu 4 h3).bind fun r4 ⟨h4,a4,b4,_⟩=>?_
     have b4:=b4 (by omega)
     rw[Int.toNat_natCast,Yc (by simpa using hk2),Option.bind_some,Y1,Option.bind_some,Int.toNat_natCast]
     refine So.ret ⟨h4,?_⟩
     simp only[List.getElem_set_self,List.set_set]
     rw[K8 (by omega) (by omega),Zr (by omega) (by omega),Zr (by omega) (by omega)]
     have hx:=hms _ (List.getElem_mem hk2)
     have hp:List.countP (fun x:GMConf=>x.prio) (ms.set k (GMConf.mk ms[k].weight true (2*(2*cost+(1+l))+r3.1) (1+r4.1)))=1:=by
      have h0:List.countP (fun x:GMConf=>x.prio) ms=0:=List.countP_eq_zero.2 fun x hx=>by simp[(hms x hx).2.1]
      rw[List.countP_set hk2,h0]
      simp[hx.2.1]
     refine hgood _ (by simp) fun x hx2=>?_
     rcases List.mem_or_eq_of_mem_set hx2 with hx2|rfl
     ·have:=hms x hx2
      unfold Xj
      rw[this.2.1]
      simp[this.1,this.2.2]
     ·unfold Xj
      simp only[hslot]
      unfold Xv
      rw[hp]
      simp only[if_true,Bool.and_eq_true,decide_eq_true_eq]
      refine⟨hx.1,⟨?_,?_⟩,?_⟩<;>omega
    ·have:=hms x hx
     unfold Xj
     rw[this.2.1]
     simp[this.1,this.2.2]
 rw[show (1:Int)+r6.1=((r6.1.toNat+1:Nat):Int) by omega]
 exact key FU (r6.1.toNat+1) r6.2 [] h6 (by have:=Y5;omega) (by simp) (by simp;omega) (by simp)
theorem Yaj {c:GL1Cur} (h:Yb c):So (Zp3 c) fun r=>Yb r.2∧r.1.masters.length≤4:=by
 unfold Zp3
 refine (Z85 h).bind fun r1 ⟨h1,g1⟩=>?_
 have hl:=Wy g1
 refine (Yu 14 h1).bind fun r2 ⟨h2,_⟩=>?_
 refine So.ite (fun _=>?_) fun _=>So.ite (fun _=>?_) fun _=>So.ite (fun _=>?_) fun _=>So.ite (fun _=>?_) fun _=>So.ite (fun _=>?_) fun _=>So.ite (fun _=>?_) fun _=>So.ite (fun _=>?_) fun _=>?_
 ·refine (Zcr _ (by simp) h2).bind fun r3 ⟨h3,_⟩=>?_
  refine (Zwv (by omega) (by omega)).bind fun a _=>?_
  refine (Zwe _ _ _).bind fun y hy=>So.ret ⟨h3,?_⟩
  subst hy
  simp;omega
 ·refine (Zwv (by omega) (by omega)).bind fun a _=>?_
  refine (Zwe _ _ _).bind fun y hy=>So.ret ⟨h2,?_⟩
  subst hy
  simp;omega
 ·exact (Zcr _ (by simp) h2).bind fun r3 ⟨h3,_⟩=>So.ret ⟨h3,by simp;omega⟩
 ·exact (Zcr _ (by simp) h2).bind fun r3 ⟨h3,_⟩=>So.ret ⟨h3,by simp;omega⟩
 ·exact (Zcr _ (by simp) h2).bind fun r3 ⟨h3,_⟩=>So.ret ⟨h3,by simp;omega⟩
 ·exact So.ret ⟨h2,by simp⟩
 ·exact (Zcr _ (by simp) h2).bind fun r3 ⟨h3,_⟩=>So.ret ⟨h3,by simp;omega⟩
 ·exact So.ret ⟨h2,by dsimp only;omega⟩
theorem Z3j {x0:GL1Cur} (h:Yb x0):So (Zi0 x0) fun r=>Yb r.2∧r.1.data_.length≤8:=by
 unfold Zi0
 refine (Zwt 2 h).bind fun r1 h1=>?_
 refine (Zcr _ (by simp) h1).bind fun r2 ⟨h2,m2⟩=>?_
 refine (Zcr _ (by simp) h2).bind fun r3 ⟨h3,m3⟩=>?_
 refine (Zwt 6 h3).bind fun r4 h4=>?_
 rw[Q4,Option.bind_some]
 refine (Yu 128 h4).bind fun r5 ⟨h5,_⟩=>?_
 refine (Yu 128 h5).bind fun r6 ⟨h6,_⟩=>?_
 refine (Yu 64 h6).bind fun r7 ⟨h7,_⟩=>?_
 refine (Yu 40 h7).bind fun r8 ⟨h8,_⟩=>?_
 refine (Yu 512 h8).bind fun r9 ⟨h9,_⟩=>?_
 refine (Zcr _ (by simp) h9).bind fun r10 ⟨h10,_⟩=>?_
 have hb:0 < Z2 r2.1:=by
  rw[Zin]
  simp only[List.mem_cons,List.not_mem_nil,or_false] at m2
  omega
 rw[Zis (by omega),Option.bind_some,Zzy,Option.bind_some]
 have key:∀(g:GReq) (c:GL1Cur),Yb c→g.data_=[]→So (Zgj x0 c g) fun r=>Yb r.2∧r.1.data_.length≤8:=by
  intro g c hc hg
  unfold Zgj
  have key2:∀(m k:Nat) (c:GL1Cur) (g:GReq),Yb c→k≤8→8 - k < m→g.data_.length=k→So (Zcp x0 m c g (k:Int)) fun r=>Yb r.2∧r.1.data_.length≤8:=by
   intro m
   induction m with
   | zero=>intro k _ _ _ _ h;omega
   | succ m ih=>
    intro k c g hc hk hm hg
    have eL:Zcp x0 (m+1) c g (k:Int)=Zom x0 (Zcp x0 m) c g (k:Int):=rfl
    rw[eL]
    unfold Zom Zlh
    rw[Zbi,Option.bind_some]
    have hbl:=Zdb g.burst
    by_cases hlt:(k:Int) < Yl g.burst
    ·rw[if_pos (by simpa using hlt)]
     refine So.ite (fun _=>?_) fun _=>So.ret ⟨hc,by dsimp only;omega⟩
     rw[Q7,Option.bind_some,Option.bind_some]
     refine (Zcr _ (by simp) hc).bind fun r1 ⟨h1,_⟩=>?_
     refine (Yu _ h1).bind fun r2 ⟨h2,_⟩=>?_
     refine (Zw7 8 (by decide) _ _ (by simp only[List.length_cons,List.length_nil];omega)).bind fun z hz=>?_
     rw[Yo (by omega)]
     exact ih (k+1) _ _ h2 (by omega) (by omega) (by subst hz;simp[hg])
    ·rw[if_neg (by simpa using hlt),if_neg (by simp)]
     exact So.ret ⟨hc,by dsimp only;omega⟩
  have:=key2 FU 0 c g hc (by omega) (by have:=Y5;omega) (by simp[hg])
  simpa using this
 exact So.ite (fun _=>key _ _ h10 rfl) fun _=>key _ _ h10 rfl
theorem Ybg {c:GL1Cur} (h:Yb c):So (Zkt c) fun r=>Yb r.2:=by
 unfold Zkt
 exact (Yu 6 h).bind fun r1 ⟨h1,_⟩=>So.ret h1
theorem Yc8 {c:GL1Cur} (h:Yb c):So (Zix c) fun r=>Yb r.2∧r.1.data_.length≤9:=by
 unfold Zix
 refine (Z3j h).bind fun r1 ⟨h1,g1⟩=>?_
 refine (Yu 12 h1).bind fun r2 ⟨h2,_⟩=>?_
 refine So.ite (fun _=>?_) fun _=>So.ite (fun _=>?_) fun _=>So.ite (fun _=>?_) fun _=>So.ite (fun _=>?_) fun _=>So.ite (fun _=>?_) fun _=>?_
 ·exact (Zcr _ (by simp) h2).bind fun r3 ⟨h3,_⟩=>So.ret ⟨h3,by simp;omega⟩
 ·exact So.ret ⟨h2,by simp;omega⟩
 ·exact (Ybg h2).bind fun r3 h3=>So.ret ⟨h3,by simp;omega⟩
 ·exact (Ybg h2).bind fun r3 h3=>So.ret ⟨h3,by simp;omega⟩
 ·exact (Zw7 8 (by decide) _ _ (by simp only[List.length_cons,List.length_nil];omega)).bind fun z hz=>So.ret ⟨h2,by subst hz;simp;omega⟩
 ·exact So.ret ⟨h2,by dsimp only;omega⟩
theorem Z8a {c:GL1Cur} (n:Int) (hn:0 < n∧n≤1000) (h:Yb c):So (Zf7 c n) fun r=>Yb r.2∧r.1.length≤6∧∀x∈r.1,0≤x∧x < n:=by
 unfold Zf7
 refine (Yu 6 h).bind fun r1 ⟨h1,a1,b1,_⟩=>?_
 have b1:=b1 (by omega)
 have key:∀(m k:Nat) (c1:GL1Cur) (l:List Int),Yb c1→k < m→l.length+k≤6→(∀x∈l,0≤x∧x < n)→So (Zbb c n m c1 l (k:Int)) fun r=>Yb r.2∧r.1.length≤6∧∀x∈r.1,0≤x∧x < n:=by
  intro m
  induction m with
  | zero=>intro k _ _ _ h;omega
  | succ m ih=>
   intro k c1 l hc hm hl hx
   have eL:Zbb c n (m+1) c1 l (k:Int)=Zmm c n (Zbb c n m) c1 l (k:Int):=rfl
   rw[eL]
   unfold Zmm
   cases k with
   | zero=>rw[if_neg (by simp)];exact So.ret ⟨hc,by omega,hx⟩
   | succ k=>
    rw[if_pos (by simp)]
    refine (Yu n hc).bind fun r2 ⟨h2,a2,b2,_⟩=>?_
    refine (Zw7 8 (by decide) _ _ (by simp only[List.length_cons,List.length_nil];omega)).bind fun z hz=>?_
    rw[Z9 (by omega) (by omega),show ((k+1:Nat):Int) - 1=(k:Int) by omega]
    subst hz
    refine ih k _ _ h2 (by omega) (by simp;omega) fun x hx2=>?_
    rw[List.mem_append,List.mem_singleton] at hx2
    rcases hx2 with hx2|rfl
    ·exact hx x hx2
    ·exact⟨a2,b2 (by omega)⟩
 have:=key FU r1.1.toNat r1.2 [] h1 (by have:=Y5;omega) (by simp;omega) (by simp)
 rwa [show ((r1.1.toNat:Nat):Int)=r1.1 by omega] at this
structure ScrP (s:GScript):Prop where
 posts:s.posts.length≤6
 reqs:∀p∈s.posts,p.req.data_.length≤9
 waits:s.waits.length≤6
 says:s.says.length≤6
 wmin:∀w∈s.waits,0≤w∧w < 5
theorem ScrP.sm {s:GScript} (h:ScrP s):s.sm:=⟨by have:=h.posts;omega,fun p hp=>by have:=h.reqs p hp;unfold GReq.sm;omega,by have:=h.waits;omega,by have:=h.says;omega,fun w hw=>by have:=h.wmin w hw;omega⟩
theorem ScrP.set {s:GScript} (h:ScrP s) (i:Nat) (p:GPost) (hp:p.req.data_.length≤9):ScrP {s with posts:=s.posts.set i p}:=
 ⟨by simpa using h.posts,fun q hq=>by
  rcases List.mem_or_eq_of_mem_set hq with hq|rfl
  ·exact h.reqs q hq
  ·exact hp,h.waits,h.says,h.wmin⟩
theorem Ygo {s:GScript} (hs:ScrP s) {x0:GL1Cur} {c:GConf} (k:GL1Cur→GScript→Int→Int→Option (GScript×GL1Cur×GConf)) {R:GScript×GL1Cur×GConf→Prop} {c1:GL1Cur} (v6 v7:Int) (b:Bool) (h1:Yb c1)
  (hk:b=true→∀c2 p v,Yb c2→p.req.data_.length≤9→So (k c2 {s with posts:=s.posts++[p]} v (subW v7 1)) R) (hb:b=false→R (s,c1,c)):So (Zbn x0 c k c1 s v6 v7 b) R:=by
 unfold Zbn
 refine So.ite (fun e=>?_) fun e=>So.ret (hb (by simpa using e))
 refine (Zcr _ (by simp) h1).bind fun r2 ⟨h2,_⟩=>?_
 refine (Yu _ h2).bind fun r3 ⟨h3,_⟩=>?_
 refine (Z3j h3).bind fun r4 ⟨h4,g4⟩=>?_
 have:=hs.posts
 refine (Zw7 80 (by decide) _ _ (by simp only[List.length_cons,List.length_nil];omega)).bind fun z hz=>?_
 subst hz
 exact hk e _ _ _ h4 (by show r4.1.data_.length≤9;omega)
theorem Zv8 {x0:GL1Cur} (c:GConf) (h:Yb x0):So (Zb4 x0 c) fun r=>ScrP r.1∧Yb r.2.1∧r.2.2=c:=by
 unfold Zb4
 refine (Z8a 5 (by omega) h).bind fun r1 ⟨h1,l1,m1⟩=>?_
 refine (Z8a 5 (by omega) h1).bind fun r2 ⟨h2,l2,m2⟩=>?_
 refine (Yu 6 h2).bind fun r3 ⟨h3,a3,b3,_⟩=>?_
 have b3:=b3 (by omega)
 have key:∀(m k:Nat) (c1:GL1Cur) (s:GScript) (v:Int),Yb c1→k < m→s.posts.length+k≤6→ScrP s→So (Ww x0 c m c1 s v (k:Int)) fun r=>ScrP r.1∧Yb r.2.1∧r.2.2=c:=by
  intro m
  induction m with
  | zero=>intro k _ _ _ _ h;omega
  | succ m ih=>
   intro k c1 s v hc hm hl hs
   have eL:Ww x0 c (m+1) c1 s v (k:Int)=Zec x0 c (Ww x0 c m) c1 s v (k:Int):=rfl
   rw[eL]
   unfold Zec
   cases k with
   | zero=>rw[if_neg (by simp)];exact Ygo hs _ _ _ _ hc (fun e=>absurd e (by simp)) fun _=>⟨hs,hc,rfl⟩
   | succ k=>
    rw[if_pos (by simp)]
    refine Ygo hs _ _ _ _ hc (fun e c2 p v h2 hp=>?_) fun _=>⟨hs,hc,rfl⟩
    rw[Z9 (by omega) (by omega),show ((k+1:Nat):Int) - 1=(k:Int) by omega]
    refine ih k c2 _ v h2 (by omega) (by simp;omega) ⟨by simp;omega,fun q hq=>?_,hs.waits,hs.says,hs.wmin⟩
    rw[List.mem_append,List.mem_singleton] at hq
    rcases hq with hq|rfl
    ·exact hs.reqs q hq
    ·exact hp
 have:=key FU r3.1.toNat r3.2 (GScript.mk [] r1.1 r2.1) 0 h3 (by have:=Y5;omega) (by simp;omega) ⟨by simp,fun p hp=>absurd hp (by simp),l1,l2,m1⟩
 rwa [show ((r3.1.toNat:Nat):Int)=r3.1 by omega] at this
theorem Yjt (x0:GL1Cur) (c:GConf):∀(m:Nat) (c1:GL1Cur) (s:GScript) (v w:Int),K7 x0 c m c1 s v w=Ww x0 c m c1 s v w:=by
 intro m
 induction m with
 | zero=>intros;rfl
 | succ m ih=>
  intro c1 s v w
  have e:K7 x0 c m=Ww x0 c m:=by funext a b d e;exact ih a b d e
  show Zp8 x0 c (K7 x0 c m) c1 s v w=Zec x0 c (Ww x0 c m) c1 s v w
  rw[e]
  rfl
theorem Yil (x0:GL1Cur) (c:GConf):Zld x0 c=Zb4 x0 c:=by
 unfold Zld Zb4
 simp only[Yjt]
theorem Z05 {α:Type} (xs:List α):lenE xs xs=some ():=by
 unfold lenE
 simp
theorem Ycs {c:GConf} {s:GScript} {c1:GL1Cur} (hs:ScrP s) (h1:Yb c1) {R:GScript×GL1Cur×GConf→Prop} (f:GScript→GL1Cur→Option (GScript×GL1Cur×GConf)) (hf:∀s2 c2,ScrP s2→Yb c2→So (f s2 c2) R):
  So (if decide ((s.posts.length:Int)=0)=true then f s c1 else
   (Zo c1 (s.posts.length:Int)).bind fun r404=>
   (Zo r404.2 14).bind fun r501=>
   if decide (r501.1=0)=true then (
    (Yh r501.2 [(-1),0,99,4001]).bind fun r705=>
    (idx s.posts r404.1).bind fun a706=>
    (setO s.posts r404.1 {a706 with at_:=r705.1}).bind fun y708=>
    f {s with posts:=y708} r705.2)
   else (
    if decide (r501.1=1)=true then (
     (Zo r501.2 6).bind fun r904=>
     (idx s.posts r404.1).bind fun a906=>
     (setO s.posts r404.1 {a906 with who:=(subW r904.1 1)}).bind fun y908=>
     f {s with posts:=y908} r904.2)
    else (
     if decide (r501.1=2)=true then (
      (Zix r501.2).bind fun r1104=>
      (idx s.posts r404.1).bind fun a1105=>
      (setO s.posts r404.1 {a1105 with req:=r1104.1}).bind fun y1107=>
      f {s with posts:=y1107} r1104.2)
     else (
      f s r501.2)))) R:=by
 refine So.ite (fun _=>hf _ _ hs h1) fun h0=>?_
 have h0:¬((s.posts.length:Int)=0):=by simpa using h0
 refine (Yu _ h1).bind fun r2 ⟨h2,a2,b2,_⟩=>?_
 have b2:=b2 (by omega)
 refine (Yu 14 h2).bind fun r3 ⟨h3,_⟩=>?_
 refine So.ite (fun _=>?_) fun _=>So.ite (fun _=>?_) fun _=>So.ite (fun _=>?_) fun _=>hf _ _ hs h3
 ·refine (Zcr _ (by simp) h3).bind fun r4 ⟨h4,_⟩=>?_
  refine (Zwv a2 b2).bind fun a ha=>?_
  refine (Zwe _ _ _).bind fun y hy=>?_
  subst hy
  exact hf _ _ (hs.set _ _ (hs.reqs a ha)) h4
 ·refine (Yu 6 h3).bind fun r4 ⟨h4,_⟩=>?_
  refine (Zwv a2 b2).bind fun a ha=>?_
  refine (Zwe _ _ _).bind fun y hy=>?_
  subst hy
  exact hf _ _ (hs.set _ _ (hs.reqs a ha)) h4
 ·refine (Yc8 h3).bind fun r4 ⟨h4,g4⟩=>?_
  refine (Zwv a2 b2).bind fun a ha=>?_
  refine (Zwe _ _ _).bind fun y hy=>?_
  subst hy
  exact hf _ _ (hs.set _ _ g4) h4
theorem Yns {x0:GL1Cur} (c:GConf) (h:Yb x0):So (Zmd x0 c) fun r=>ScrP r.1∧Yb r.2.1∧r.2.2=c:=by
 unfold Zmd
 refine (Zv8 c h).bind fun r1 ⟨g1,h1,e1⟩=>?_
 exact Ycs (c:=c) g1 h1 (fun s c2=>some (s,c2,c)) fun s2 c2 p q=>So.ret ⟨p,q,rfl⟩
theorem Yjv {x0:GL1Cur} (c:GConf) (h:Yb x0):So (Zjr x0 c) fun r=>ScrP r.1∧Yb r.2.1∧r.2.2=c:=by
 unfold Zjr
 have key:∀(s:GScript) (c1:GL1Cur),ScrP s→Yb c1→So (Zew x0 c c1 c.masters s) fun r=>ScrP r.1∧Yb r.2.1∧r.2.2=c:=by
  intro s c1 hs hc
  unfold Zew
  rw[Z05]
  exact Ycs (c:=c) hs hc (fun s c2=>some (s,c2,c)) fun s2 c2 p q=>So.ret ⟨p,q,rfl⟩
 refine So.ite (fun _=>?_) fun _=>?_
 ·refine (Zv8 _ h).bind fun r1 ⟨g1,h1,e1⟩=>?_
  exact key _ _ g1 h1
 ·rw[Yil]
  refine (Zv8 c h).bind fun r1 ⟨g1,h1,e1⟩=>?_
  rw[e1,Z05,Option.bind_some]
  exact key _ _ g1 h1
theorem Yku {x0:GL1Cur} (h:Yb x0):So (Zrw x0) fun r=>r.1.masters.length≤4∧ScrP r.2.1∧Yb r.2.2:=by
 unfold Zrw
 refine (Z85 h).bind fun r1 ⟨h1,g1⟩=>?_
 have hl:=Wy g1
 refine (Zwt 16 h1).bind fun r2 h2=>?_
 have key:∀(c:GConf) (c1:GL1Cur),c.masters.length≤4→Yb c1→So (if decide (c.masters.length=0)=true then (
   (Zmd c1 {c with masters:=[]}).bind fun r403=>
   some (c,r403.1,r403.2.1))
  else (
   (Zjr c1 c).bind fun r403=>
   (lenE c.masters r403.2.2.masters).bind fun q4_1024=>
   some ({c with masters:=r403.2.2.masters},r403.1,r403.2.1))) fun r=>r.1.masters.length≤4∧ScrP r.2.1∧Yb r.2.2:=by
  intro c c1 hc h1
  refine So.ite (fun _=>?_) fun _=>?_
  ·exact (Yns _ h1).bind fun r3 ⟨g3,h3,e3⟩=>So.ret ⟨hc,g3,h3⟩
  ·refine (Yjv c h1).bind fun r3 ⟨g3,h3,e3⟩=>?_
   rw[e3,Z05,Option.bind_some]
   exact So.ret ⟨hc,g3,h3⟩
 refine So.ite (fun _=>?_) fun _=>?_
 ·exact (Yaj h2).bind fun r3 ⟨h3,l3⟩=>key _ _ l3 h3
 ·exact key _ _ (by omega) h2
theorem Yk6 (x:List Int) (hl:x.length < 1048577):So (Zmh x) Yb:=Yn6 x hl
theorem Yel (x:List Int) (hl:x.length < 1048577):So (Zmq x) fun r=>r.1.masters.length≤4∧ScrP r.2.1∧(-1≤r.2.2∧r.2.2≤60):=by
 unfold Zmq
 refine (Yk6 x hl).bind fun c h=>?_
 refine (Yku h).bind fun r ⟨h1,h2,h3⟩=>?_
 refine (Yu 62 h3).bind fun r2 ⟨h4,a,b,_⟩=>?_
 have b:=b (by omega)
 rw[Z9 (by omega) (by omega)]
 exact So.ret ⟨h1,h2,by dsimp only;omega⟩
theorem Ydw (x0:List Int) (hl:x0.length < 1048577):So (Zn3 x0) fun r=>r.1.masters.length≤4∧r.2.length≤5∧∀q∈r.2,q.data_.length≤9:=by
 unfold Zn3
 refine (Yk6 x0 hl).bind fun c h=>?_
 refine (Yaj h).bind fun r1 ⟨h1,g1⟩=>?_
 refine (Yu 5 h1).bind fun r2 ⟨h2,a2,b2,_⟩=>?_
 have b2:=b2 (by omega)
 have key:∀(m k:Nat) (c1:GL1Cur) (g:GConf) (l:List GReq),Yb c1→k < m→l.length+k≤5→g.masters.length≤4→(∀q∈l,q.data_.length≤9)→So (Jj x0 m c1 g l (k:Int)) fun r=>r.1.masters.length≤4∧r.2.length≤5∧∀q∈r.2,q.data_.length≤9:=by
  intro m
  induction m with
  | zero=>intro k _ _ _ _ h;omega
  | succ m ih=>
   intro k c1 g l hc hm hk hg hq
   have eL:Jj x0 (m+1) c1 g l (k:Int)=Zkp x0 (Jj x0 m) c1 g l (k:Int):=rfl
   rw[eL]
   unfold Zkp
   cases k with
   | zero=>
    rw[if_neg (by simp)]
    have hJ:∀(c2:GL1Cur) (b:Bool),Yb c2→(b=true→0 < l.length)→So (Zbp x0 c2 g l b) fun r=>r.1.masters.length≤4∧r.2.length≤5∧∀q∈r.2,q.data_.length≤9:=by
     intro c2 b h2 hb
     unfold Zbp
     refine So.ite (fun e=>?_) fun _=>So.ret ⟨hg,by dsimp only;omega,hq⟩
     have hb:=hb e
     refine (Yc8 h2).bind fun r3 ⟨h3,g3⟩=>?_
     refine (Zwv (by omega) (by omega)).bind fun a _=>?_
     refine (Zwe _ _ _).bind fun y hy=>?_
     subst hy
     refine So.ret ⟨hg,by simp;omega,fun q hx=>?_⟩
     rcases List.mem_or_eq_of_mem_set hx with hx|rfl
     ·exact hq q hx
     ·exact g3
    refine So.ite (fun e=>?_) fun _=>hJ _ _ hc (fun e=>absurd e (by simp))
    have e:(l.length:Int) > 0:=by simpa using e
    exact (Zwt 8 hc).bind fun r3 h3=>hJ _ _ h3 fun _=>by omega
   | succ k=>
    rw[if_pos (by simp)]
    refine (Z3j hc).bind fun r3 ⟨h3,g3⟩=>?_
    refine (Zw7 64 (by decide) _ _ (by simp only[List.length_cons,List.length_nil];omega)).bind fun z hz=>?_
    subst hz
    rw[Z9 (by omega) (by omega),show ((k+1:Nat):Int) - 1=(k:Int) by omega]
    refine ih k _ _ _ h3 (by omega) (by simp;omega) hg fun q hx=>?_
    rw[List.mem_append,List.mem_singleton] at hx
    rcases hx with hx|rfl
    ·exact hq q hx
    ·omega
 have:=key FU r2.1.toNat r2.2 r1.1 [] h2 (by have:=Y5;omega) (by simp;omega) g1 (by simp)
 rwa [show ((r2.1.toNat:Nat):Int)=r2.1 by omega] at this
theorem big_eq (x:List Int):Z7e x=some (decide ((x.length:Int) > 1048576)):=rfl
def rdyG (x:GBeat):Bool:=!x.live||(decide (x.left≤0)&&(decide (x.resp=0)||x.second))
def Yae (x:GBeat):Int:=if x.live=true∧x.left≤0 then x.resp else 0
def Yy (x:GBeat):Bool:=x.live&&rdyG x&&decide (x.resp≠2∧x.resp≠3)
theorem Z6j (b:GBus) (s:GScript):(Zc b s).2.1=rdyG b.data_∧(Zc b s).2.2=Yae b.data_:=by
 unfold Zc rdyG Yae
 by_cases hd:b.data_.live=false
 ·rw[if_pos hd];simp[hd]
 ·have hd2:b.data_.live=true:=by simpa using hd
  rw[if_neg hd,hd2]
  by_cases hl:b.data_.left > 0
  ·rw[if_pos hl,if_neg (by omega)]
   simp;omega
  ·rw[if_neg hl,if_pos (show true=true∧b.data_.left≤0 from⟨rfl,by omega⟩)]
   have hl2:b.data_.left≤0:=by omega
   by_cases hs:b.data_.resp≠0∧b.data_.second=false
   ·rw[if_pos hs]
    simp[hs.1,hs.2]
   ·rw[if_neg hs]
    have:(decide (b.data_.resp=0)||b.data_.second)=true:=by
     by_cases h0:b.data_.resp=0
     ·simp[h0]
     ·have:¬b.data_.second=false:=fun h=>hs ⟨h0,h⟩
      simpa [h0] using this
    rw[this]
    simp only[hl2,decide_true,Bool.and_true,Bool.not_true,Bool.false_or]
    repeat' split
    all_goals exact⟨rfl,rfl⟩
theorem Zjm (b:GBus) (s:GScript):Ze b s=if rdyG b.data_=true then
  ({(Zm (Zc (Zi b s) s).1 s).2 with now:=b.now+1},{Zeh b with resp:=Yae b.data_,got:=(Zm (Zc (Zi b s) s).1 s).1})
 else ({(Zc (Zi b s) s).1 with now:=b.now+1},{Zeh b with ready:=false,resp:=Yae b.data_}):=by
 unfold Ze
 have h:=Z6j (Zi b s) s
 have e:=Wo b s
 rw[e.2.2.2.2.2.2.1] at h
 rw[h.1,h.2]
theorem Za0 (b:GBus) (x:GBeat):(Zt b x).log=b.log∧(Zt b x).splits=b.splits∧(Zt b x).holder=b.holder∧(Zt b x).held=b.held∧(Zt b x).data_=b.data_:=by
 unfold Zt;repeat' split
 all_goals exact⟨rfl,rfl,rfl,rfl,rfl⟩
theorem Yh1 (b:GBus) (s:GScript):(Zc b s).1.log=if Yy b.data_=true then b.log++[Zhe {b with data_:=GBeat.z0} b.data_] else b.log:=by
 unfold Zc Yy rdyG
 by_cases hd:b.data_.live=false
 ·rw[if_pos hd];simp[hd]
 ·have hd2:b.data_.live=true:=by simpa using hd
  rw[if_neg hd,hd2]
  by_cases hl:b.data_.left > 0
  ·rw[if_pos hl]
   have:decide (b.data_.left≤0)=false:=decide_eq_false (by omega)
   simp[this]
  ·rw[if_neg hl]
   have hl2:decide (b.data_.left≤0)=true:=decide_eq_true (by omega)
   rw[hl2]
   by_cases hs:b.data_.resp≠0∧b.data_.second=false
   ·rw[if_pos hs]
    simp only[hs.1,hs.2,decide_false,Bool.or_self,Bool.and_false,Bool.not_true,Bool.or_false,Bool.false_and,if_false,Bool.false_eq_true]
    split
    ·exact (Za0 _ _).1
    ·rfl
   ·rw[if_neg hs]
    have:(decide (b.data_.resp=0)||b.data_.second)=true:=by
     by_cases h0:b.data_.resp=0
     ·simp[h0]
     ·have:¬b.data_.second=false:=fun h=>hs ⟨h0,h⟩
      simpa [h0] using this
    rw[this]
    by_cases h2:b.data_.resp=2
    ·rw[if_pos h2,if_neg (by simp[h2])]
     exact (Za0 _ _).1
    ·rw[if_neg h2]
     by_cases h3:b.data_.resp=3
     ·rw[if_pos h3,if_neg (by simp[h3])]
      exact (Za0 _ _).1
     ·rw[if_neg h3,if_pos (by simp[h2,h3])]
      rfl
structure Readied (b:GBus) (r:Int×GBus):Prop where
 splits:r.2.splits=b.splits
 got:r.1=-1∨(Za b.conf r.1=true∧atI b.splits r.1=0∧(r.2.holder=r.1∨r.2.holder=-1))
 some:r.1=-1∨(atI b.m r.1).queue≠[]
 held:r.2.holder=-1∨r.2.held < b.conf.lockMost
theorem Yiw (b:GBus):(Zs b).splits=b.splits∧(Zs b).conf=b.conf∧((Zs b).holder=-1∨((Zs b).holder=b.holder∧(Zs b).held=b.held∧b.held≠b.conf.lockMost)):=by
 unfold Zs
 split
 ·exact⟨rfl,rfl,.inl rfl⟩
 ·rename_i h
  refine⟨rfl,rfl,?_⟩
  by_cases h1:b.holder=-1
  ·exact .inl h1
  ·exact .inr ⟨rfl,rfl,fun h2=>h ⟨h1,h2⟩⟩
theorem Yhr (b:GBus) (s:GScript):(Ya b s).held=b.held:=by
 unfold Ya;split<;>rfl
theorem Yid {n:Int} {b:GBus} (h:BusI n b) (hh:b.holder=-1∨b.held < b.conf.lockMost):Readied b (Y3 b):=by
 have hp:=Za4 h
 have hlm:=Ym h.conf
 unfold Y3
 split
 ·rename_i hx
  exact⟨hp.splits,.inl rfl,.inl rfl,by rw[hp.holder,hp.held];exact hh⟩
 ·rename_i hx
  rcases hp.who with h1|⟨h1,h2,h3⟩
  ·exact absurd (show (Z6 b).1 < 0 by rw[h1];decide) hx
  ·have hw:=Zyn h2
   have hq:(atI b.m (Z6 b).1).queue≠[]:=by
    intro hq
    have:=(h.mst _ h1).right.none hq
    have h5:=hw.1
    unfold Zf at h5
    rw[if_pos hq] at h5
    omega
   refine⟨hp.splits,.inr ⟨h1,hw.2.1,?_⟩,.inr hq,?_⟩
   ·show (if _ then (Z6 b).1 else (Z6 b).2.2.holder)=_∨(if _ then (Z6 b).1 else (Z6 b).2.2.holder)=-1
    split
    ·exact .inl rfl
    ·rw[hp.holder];exact hw.2.2.symm
   ·show (if _ then (Z6 b).1 else (Z6 b).2.2.holder)=_∨(if _ then 0 else (Z6 b).2.2.held) < _
    split
    ·exact .inr (by omega)
    ·rw[hp.holder,hp.held];exact hh
theorem Z6i {n:Int} {b:GBus} (h:BusI n b) (s:GScript) (hd:b.data_=GBeat.z0):Readied b (Zm b s):=by
 have h1:=Zxe h
 have e1:=Ze9 b
 have m1:=Yiw b
 have h2:=Zjd h1 s (by rw[e1.1];exact hd)
 have e2:=Zj5 (Zs b) s
 have hlm:=Ym h.conf
 have hb:(Ya (Zs b) s).holder=-1∨(Ya (Zs b) s).held < (Ya (Zs b) s).conf.lockMost:=by
  rw[e2.2.2.2.2.2.2.1,Yhr,e2.2.1,m1.2.1]
  rcases m1.2.2 with h3|⟨h3,h4,h5⟩
  ·exact .inl h3
  ·by_cases hz:b.holder=-1
   ·exact .inl (by rw[h3,hz])
   ·have:=(Kh h hz).2.2.2
    exact .inr (by rw[h4];omega)
 have h3:=Yid h2.1 hb
 unfold Zm
 have hbm:∀i,Za b.conf i=true→(atI (Zs b).m i).queue=(atI b.m i).queue:=by
  intro i hi
  unfold Zs
  split
  ·rename_i hx
   have hw:=(Kh h hx.1).1
   show (atI (b.m.set b.holder.toNat {atI b.m b.holder with broken:=true}) i).queue=_
   rw[h.at_m hw _ hi]
   split
   ·rename_i e;rw[e]
   ·rfl
  ·rfl
 refine⟨by rw[h3.splits,e2.2.2.2.2.2.1,m1.1],?_,?_,?_⟩
 ·have:=h3.got
  rw[e2.2.1,m1.2.1,e2.2.2.2.2.2.1,m1.1] at this
  exact this
 ·have h4:=h3.got
  have h5:=h3.some
  rw[e2.2.1,m1.2.1] at h4
  rcases h4 with h4|h4
  ·exact .inl h4
  ·rcases h5 with h5|h5
   ·exact .inl h5
   ·refine .inr ?_
    rw[e2.2.2.2.2.1,hbm _ h4.1] at h5
    exact h5
 ·have:=h3.held
  rw[e2.2.1,m1.2.1] at this
  exact this
theorem Zwg {b:GBus} (h:BusP b) (s:GScript):BusI (Zi b s).now (Zi b s):=by
 have:=Z1r h s
 rw[(Wo b s).1];exact this
theorem Zu4 {b:GBus} (h:BusP b) (s:GScript):BusI (b.now+1) (Zc (Zi b s) s).1∧(rdyG b.data_=true→(Zc (Zi b s) s).1.data_=GBeat.z0):=by
 have e:=Wo b s
 have hn:=h.now
 have h1:=Zuz s (by rw[e.1];omega) (Zwg h s)
 rw[e.1] at h1
 have h2:=Z6j (Zi b s) s
 rw[e.2.2.2.2.2.2.1] at h2
 rw[h2.1] at h1
 exact h1
theorem Zti {b:GBus} (h:BusP b) (s:GScript):(Ze b s).1.log=if Yy b.data_=true then b.log++[Zhe {Zi b s with data_:=GBeat.z0} b.data_] else b.log:=by
 have hf:=Zu4 h s
 have e:=Wo b s
 have hl:(Zc (Zi b s) s).1.log=if Yy b.data_=true then b.log++[Zhe {Zi b s with data_:=GBeat.z0} b.data_] else b.log:=by
  rw[Yh1,e.2.2.2.2.2.2.1]
  split
  ·exact congrArg (·++[Zhe {Zi b s with data_:=GBeat.z0} b.data_]) e.2.2.2.1
  ·exact e.2.2.2.1
 rw[Zjm,←hl]
 by_cases hr:rdyG b.data_=true
 ·rw[if_pos hr]
  exact (Zyg hf.1 s (hf.2 hr)).2.2.2.2.2.1
 ·rw[if_neg hr]
theorem Ynj (m:GMst) (r:GReq):∃l,X8 m r={m with queue:=m.queue++l}:=by
 unfold X8
 split
 ·exact⟨[r],rfl⟩
 ·exact⟨[],by simp⟩
theorem Yo7 {α:Type} [Inhabited α] {xs ys:List α} (h:xs≠[]):atI (xs++ys) 0=atI xs 0:=by
 cases xs with
 | nil=>exact absurd rfl h
 | cons x xs=>rfl
theorem Yl1 {m:GMst} (l:List GReq) (h:m.queue≠[]) (k:Int):Zf {m with queue:=m.queue++l}=Zf m∧Zn {m with queue:=m.queue++l} k=Zn m k∧atI (m.queue++l) 0=atI m.queue 0:=by
 have e:=Yo7 (ys:=l) h
 have e1:Zf {m with queue:=m.queue++l}=Zf m:=by
  unfold Zf
  dsimp only
  rw[e,if_neg h,if_neg (by simp[h])]
 refine⟨e1,?_,e⟩
 unfold Zn
 rw[e1]
 dsimp only
 rw[e]
theorem Z7p {n:Int} {b:GBus} (h:BusI n b) (hd:b.data_.live=true):(atI b.m b.data_.who).queue≠[]:=by
 have hw:=Yk h hd
 have hf:=h.fly _ hw
 have hr:=(h.mst _ hw).right
 intro hq
 have:=hr.none hq
 rw[this.1,this.2.1] at hf
 unfold flyG at hf
 rw[if_pos (show b.data_.live=true∧b.data_.who=b.data_.who from⟨hd,rfl⟩)] at hf
 split at hf<;>omega
def Zj9 (s:GScript):Int:=s.posts.foldl (fun m p=>maxI m p.at_) (-1)
theorem Z99 (s:GScript) (hl:s.posts.length < 1048577):Zmz s=some (Zj9 s):=by
 unfold Zmz
 rw[Zxj (ρ:=Int) s.posts (by omega) (fun (p:GPost) m=>some (.inl (maxI m p.at_))) (fun m=>some m) (Zfj s) (fun m v i=>rfl) (-1)]
 exact Z83 _ _ (fun m (p:GPost)=>maxI m p.at_) (fun _ _=>True) (fun a l s _=>⟨rfl,trivial⟩) _ _ trivial
theorem Z90 (s:GScript) (hl:s.posts.length < 1048577):Znz s=some (Zj9 s):=by
 unfold Znz
 rw[Zxj (ρ:=Int) s.posts (by omega) (fun (p:GPost) m=>some (.inl (maxI m p.at_))) (fun m=>some m) (Zfg s) (fun m v i=>rfl) (-1)]
 exact Z83 _ _ (fun m (p:GPost)=>maxI m p.at_) (fun _ _=>True) (fun a l s _=>⟨rfl,trivial⟩) _ _ trivial
theorem Yav {b:GBus} (hl:b.m.length < 1048577):Zpp b=some (Zdr b):=by
 unfold Zpp
 rw[Ym8 b.m (by omega) (fun a=>decide ((a.queue.length:Int) > 0)) (some true) (Zha b) (fun m i=>rfl),Ykr]
 cases Zdr b<;>simp
def Zhq (s:GScript) (b:GBus):Prop:=b.now < 4000∧(Zdr b=false∨b.now≤Zj9 s)
instance (s:GScript) (b:GBus):Decidable (Zhq s b):=by unfold Zhq;infer_instance
def outN (s:GScript):Nat→GBus→GBus
 | 0,b=>b
 | f+1,b=>if Zhq s b then outN s f (Ze b s).1 else b
def outG (b:GBus) (s:GScript):GBus×Int:=if okB b=true then (outN s (4000 - b.now).toNat b,(outN s (4000 - b.now).toNat b).now - b.now) else (b,0)
theorem Ygt (s:GScript):∀(f:Nat) {b:GBus},BusP b→f=(4000 - b.now).toNat→BusP (outN s f b)∧¬Zhq s (outN s f b)∧b.now≤(outN s f b).now∧(outN s f b).conf=b.conf:=by
 intro f
 induction f with
 | zero=>
  intro b h hf
  have hn:=h.now
  exact⟨h,fun hx=>by have:=hx.1;simp only[outN] at this;omega,Int.le_refl _,rfl⟩
 | succ f ih=>
  intro b h hf
  have hn:=h.now
  unfold outN
  split
  ·rename_i hg
   have hs:=Zg2 h s hg.1
   have:=ih hs.1 (by rw[hs.2.1];omega)
   rw[hs.2.1,hs.2.2] at this
   exact⟨this.1,this.2.1,by omega,this.2.2.2⟩
  ·rename_i hg
   exact⟨h,hg,Int.le_refl _,rfl⟩
theorem Z11 {b:GBus} {s:GScript} (hb:b.sm) (hs:s.sm):Zne b s=some (outG b s):=by
 unfold Zne outG
 rw[Z2g b hb,Option.bind_some,i_okB hb,Option.bind_some]
 by_cases h:okB b=true
 ·have hP:=(Z1g hb).1 h
  have hN:=hP.now
  rw[h,if_neg (by simp),if_pos rfl,Z90 s hs.posts,Option.bind_some]
  have hJ:∀c:GBus,BusP c→b.now≤c.now→Zer b s c=some (c,c.now - b.now):=by
   intro c hc hn
   have:=hc.now
   unfold Zer
   rw[Z2g _ hc.sm,Option.bind_some,Z9 (by omega) (by omega)]
  have key:∀(f m:Nat) (c:GBus),BusP c→b.now≤c.now→f=(4000 - c.now).toNat→f < m→Jo b s m c (Zj9 s)=some (outN s f c,(outN s f c).now - b.now):=by
   intro f
   induction f with
   | zero=>
    intro m c hc hn hf hm
    obtain⟨m,rfl⟩:∃k,m=k+1:=⟨m - 1,by omega⟩
    have:=hc.now
    show Zc9 b s (Jo b s m) c (Zj9 s)=_
    unfold Zc9
    rw[if_neg (by simp;omega),hJ c hc hn]
    rfl
   | succ f ih=>
    intro m c hc hn hf hm
    obtain⟨m,rfl⟩:∃k,m=k+1:=⟨m - 1,by omega⟩
    have hcn:=hc.now
    have hst:=Zg2 hc s (by omega)
    have hgo:Jo b s m (Ze c s).1 (Zj9 s)=some (outN s f (Ze c s).1,(outN s f (Ze c s).1).now - b.now):=ih m _ hst.1 (by rw[hst.2.1];omega) (by rw[hst.2.1];omega) (by omega)
    show Zc9 b s (Jo b s m) c (Zj9 s)=_
    unfold Zc9 outN
    have hlt:c.now < 4000:=by omega
    rw[if_pos (by simpa using hlt),Yfu hc.sm.ml,Option.bind_some]
    by_cases hq:Zdr c=true
    ·rw[if_neg (by simp[hq])]
     by_cases hl:c.now≤Zj9 s
     ·rw[if_pos (by simpa using hl),Z8o hc hs hlt,Option.bind_some,if_pos (show Zhq s c from⟨hlt,.inr hl⟩)]
      exact hgo
     ·rw[if_neg (by simpa using hl),if_neg (show ¬Zhq s c from fun hx=>hx.2.elim (fun h1=>by rw[hq] at h1;exact absurd h1 (by decide)) hl),hJ c hc hn]
    ·rw[if_pos (by simpa using hq),Z8o hc hs hlt,Option.bind_some,if_pos (show Zhq s c from⟨hlt,.inl (by simpa using hq)⟩)]
     exact hgo
  exact key _ FU b hP (Int.le_refl _) rfl (by have:=Y5;omega)
 ·simp[h]
theorem Yff {b:GBus} {s:GScript} (hb:b.sm) (hs:s.sm):Zrt b s=some (outG b s):=by
 unfold Zrt outG
 rw[Zzv b hb,Option.bind_some,s_okB hb,Option.bind_some]
 by_cases h:okB b=true
 ·have hP:=(Z1g hb).1 h
  have hN:=hP.now
  rw[h,if_neg (by simp),if_pos rfl]
  have key:∀(f m:Nat) (c:GBus),BusP c→b.now≤c.now→f=(4000 - c.now).toNat→f < m→Jn b s m c (c.now - b.now)=some (outN s f c,(outN s f c).now - b.now):=by
   intro f
   induction f with
   | zero=>
    intro m c hc hn hf hm
    obtain⟨m,rfl⟩:∃k,m=k+1:=⟨m - 1,by omega⟩
    have:=hc.now
    show Zc6 b s (Jn b s m) c _=_
    unfold Zc6 Zbd
    rw[if_neg (by simp;omega),if_neg (by simp)]
    rfl
   | succ f ih=>
    intro m c hc hn hf hm
    obtain⟨m,rfl⟩:∃k,m=k+1:=⟨m - 1,by omega⟩
    have hcn:=hc.now
    have hst:=Zg2 hc s (by omega)
    have hgo:Jn b s m (Ze c s).1 ((Ze c s).1.now - b.now)=some (outN s f (Ze c s).1,(outN s f (Ze c s).1).now - b.now):=ih m _ hst.1 (by rw[hst.2.1];omega) (by rw[hst.2.1];omega) (by omega)
    have e1:addW (c.now - b.now) 1=(Ze c s).1.now - b.now:=by rw[hst.2.1,Zr (by omega) (by omega)];omega
    show Zc6 b s (Jn b s m) c _=_
    unfold Zc6 Zbd outN
    have hlt:c.now < 4000:=by omega
    rw[if_pos (by simpa using hlt),Yav hc.sm.ml,Option.bind_some]
    by_cases hq:Zdr c=true
    ·rw[if_neg (by simp[hq]),Z99 s hs.posts,Option.bind_some]
     by_cases hl:c.now≤Zj9 s
     ·rw[if_pos (by simpa using hl),Z9a hc hs hlt,Option.bind_some,if_pos (show Zhq s c from⟨hlt,.inr hl⟩),e1]
      exact hgo
     ·rw[if_neg (by simpa using hl),if_neg (show ¬Zhq s c from fun hx=>hx.2.elim (fun h1=>by rw[hq] at h1;exact absurd h1 (by decide)) hl)]
    ·rw[if_pos (by simpa using hq),if_pos rfl,Z9a hc hs hlt,Option.bind_some,if_pos (show Zhq s c from⟨hlt,.inl (by simpa using hq)⟩),e1]
     exact hgo
  have:=key _ FU b hP (Int.le_refl _) rfl (by have:=Y5;omega)
  rwa [Int.sub_self] at this
 ·simp[h]
theorem Ylq {b:GBus} (hb:b.sm) (s:GScript):(outG b s).1.sm:=by
 unfold outG
 split
 ·rename_i h
  exact (Ygt s _ ((Z1g hb).1 h) rfl).1.sm
 ·exact hb
def Zws:GModel:=GModel.mk (List.replicate 192 0) (GDev.mk (List.replicate 4 0) 0 [])
theorem Z1i {m m':GMst} (h:m'.queue=m.queue) {k:Int}:Zn m' k=Zn m k:=by
 unfold Zn Zf;rw[h]
theorem Z4j {b:GBus} (h:BusP b) (s:GScript) (hr:rdyG b.data_=false):b.data_.live=true∧(Ze b s).1.data_.live=true∧(Ze b s).1.data_.who=b.data_.who∧(Ze b s).1.data_.beat=b.data_.beat∧(Ze b s).1.data_.resp=b.data_.resp∧
  ((b.data_.left > 0∧(Ze b s).1.addr=b.addr∧(Ze b s).1.data_.left=b.data_.left - 1∧(Ze b s).1.data_.second=b.data_.second)∨
   (b.data_.left≤0∧b.data_.resp≠0∧b.data_.second=false∧(Ze b s).1.addr.live=false∧(Ze b s).1.data_.left=b.data_.left∧(Ze b s).1.data_.second=true)):=by
 have hlive:b.data_.live=true:=by
  unfold rdyG at hr
  simp only[Bool.or_eq_false_iff] at hr
  simpa using hr.1
 have e:=Wo b s
 have ed:=e.2.2.2.2.2.2.1
 have ea:=e.2.2.2.2.2.1
 rw[Zjm,if_neg (by simp[hr])]
 refine⟨hlive,?_⟩
 show (Zc (Zi b s) s).1.data_.live=true∧(Zc (Zi b s) s).1.data_.who=_∧(Zc (Zi b s) s).1.data_.beat=_∧(Zc (Zi b s) s).1.data_.resp=_∧
  ((b.data_.left > 0∧(Zc (Zi b s) s).1.addr=b.addr∧(Zc (Zi b s) s).1.data_.left=_∧(Zc (Zi b s) s).1.data_.second=_)∨
   (b.data_.left≤0∧b.data_.resp≠0∧b.data_.second=false∧(Zc (Zi b s) s).1.addr.live=false∧(Zc (Zi b s) s).1.data_.left=_∧(Zc (Zi b s) s).1.data_.second=true))
 unfold Zc
 rw[if_neg (by rw[ed,hlive];simp)]
 by_cases hl:b.data_.left > 0
 ·rw[if_pos (by rw[ed];exact hl)]
  dsimp only
  rw[ed,ea]
  exact⟨hlive,rfl,rfl,rfl,.inl ⟨hl,rfl,rfl,rfl⟩⟩
 ·have hs:b.data_.resp≠0∧b.data_.second=false:=by
   unfold rdyG at hr
   rw[decide_eq_true (show b.data_.left≤0 by omega)] at hr
   simp only[Bool.or_eq_false_iff,Bool.true_and,decide_eq_false_iff_not] at hr
   exact hr.2
  rw[if_neg (by rw[ed];exact hl),if_pos (by rw[ed];exact hs)]
  by_cases ha:b.addr.live=true
  ·rw[if_pos (by rw[ea];exact ha)]
   have hrv:=Za0 {Zi b s with data_:={(Zi b s).data_ with second:=true}} (Zi b s).addr
   dsimp only
   rw[hrv.2.2.2.2]
   dsimp only
   rw[ed]
   exact⟨hlive,rfl,rfl,rfl,.inr ⟨by omega,hs.1,hs.2,rfl,rfl,rfl⟩⟩
  ·rw[if_neg (by rw[ea];exact ha)]
   dsimp only
   rw[ed,ea]
   exact⟨hlive,rfl,rfl,rfl,.inr ⟨by omega,hs.1,hs.2,by simpa using ha,rfl,rfl⟩⟩
def Zca (m:GMst):List GReq×Int:=if m.done+1=Zf m then (m.queue.tail,0) else (m.queue,m.done+1)
theorem Z8w (c:GBus) (x:GBeat):(Zt c x).m=c.m.set x.who.toNat (Qo (atI c.m x.who)):=by
 unfold Zt;repeat' split
 all_goals rfl
theorem Z1o (b:GBus) (s:GScript):(Ya b s).m=b.m:=by
 unfold Ya;split<;>rfl
theorem Z2e (c:GBus) (x:GBeat):(Zt c x).addr=c.addr:=by
 unfold Zt;repeat' split
 all_goals rfl
theorem Z07 {x:GBeat} (hr:rdyG x=true) (hd:x.live=true):¬x.left > 0∧¬(x.resp≠0∧x.second=false):=by
 unfold rdyG at hr
 simp only[hd,Bool.not_true,Bool.false_or,Bool.and_eq_true,decide_eq_true_eq,Bool.or_eq_true] at hr
 refine⟨by omega,fun h=>?_⟩
 rcases hr.2 with h1|h1
 ·exact h.1 h1
 ·rw[h.2] at h1;cases h1
theorem Ycy {b:GBus} (s:GScript) (hr:rdyG b.data_=true):(Zc b s).1.addr=b.addr:=by
 unfold Zc
 by_cases hd:b.data_.live=false
 ·rw[if_pos hd]
 ·have hp:=Z07 hr (by simpa using hd)
  rw[if_neg hd,if_neg hp.1,if_neg hp.2]
  by_cases h3:b.data_.resp=2
  ·rw[if_pos h3];exact Z2e _ _
  ·rw[if_neg h3]
   by_cases h4:b.data_.resp=3
   ·rw[if_pos h4];exact Z2e _ _
   ·rw[if_neg h4];rfl
theorem Yg9 {n:Int} {b:GBus} (h:BusI n b) (ha:b.addr.live=false):(Y3 b).1=if (Y3 b).2.addr.live=true then (Y3 b).2.addr.who else -1:=by
 have hp:=Za4 h
 unfold Y3
 split
 ·show (-1:Int)=if (Z6 b).2.2.addr.live=true then _ else -1
  rw[hp.addr,if_neg (by simp[ha])]
 ·rfl
theorem Zvn {b:GBus} (hP:BusP b) (s:GScript) (hr:rdyG b.data_=true):
  (b.addr.live=true→(Ze b s).1.data_.live=true∧(Ze b s).1.data_.who=b.addr.who∧(Ze b s).1.data_.beat=b.addr.beat∧(Ze b s).1.data_.second=false)∧
  (b.addr.live=false→(Ze b s).1.data_.live=false)∧(Ze b s).2.got=(if (Ze b s).1.addr.live=true then (Ze b s).1.addr.who else -1):=by
 have e:=Wo b s
 have hf:=Zu4 hP s
 have hd:=hf.2 hr
 have hfa:(Zc (Zi b s) s).1.addr=b.addr:=by rw[Ycy s (by rw[e.2.2.2.2.2.2.1];exact hr),e.2.2.2.2.2.1]
 have e1:=Ze9 (Zc (Zi b s) s).1
 have hb:=Zo6 hf.1 s hd
 have hz:=(Zjd hb.1 s (by rw[e1.1];exact hd)).2
 have hg:=Zjo hb.2
 have hga:=Yg9 hb.2 (by rw[hz])
 have hA:=hP.addr
 unfold Wc at hA
 rw[Zjm,if_pos hr]
 have ed:(Zm (Zc (Zi b s) s).1 s).2.data_=(Ya (Zs (Zc (Zi b s) s).1) s).data_:=hg.2.2.2.2.2
 show (_→(Zm (Zc (Zi b s) s).1 s).2.data_.live=_∧(Zm (Zc (Zi b s) s).1 s).2.data_.who=_∧(Zm (Zc (Zi b s) s).1 s).2.data_.beat=_∧(Zm (Zc (Zi b s) s).1 s).2.data_.second=_)∧(_→(Zm (Zc (Zi b s) s).1 s).2.data_.live=_)∧(Zm (Zc (Zi b s) s).1 s).1=_
 rw[ed]
 have ea:(Zs (Zc (Zi b s) s).1).addr=b.addr:=by rw[e1.2.1,hfa]
 refine⟨fun hl=>?_,fun hl=>?_,hga⟩
 ·rw[if_pos hl] at hA
  unfold Ya
  rw[if_pos (by rw[ea];exact hl)]
  dsimp only
  rw[ea]
  exact⟨hl,rfl,rfl,hA.2.2.2⟩
 ·unfold Ya
  rw[if_neg (by rw[ea,hl];simp),e1.1,hd]
theorem Ygn {n:Int} {b:GBus} (h:BusI n b) (hl:b.addr.live=true):(atI b.m b.addr.who).queue≠[]:=by
 have hb:=Zp2 h hl
 exact Zj4 hb.1 hb.2
def Zpn (r:GReq) (k:Nat):GDone:=GDone.mk 0 0 r.write (atI (Qi r.addr r.size r.burst) (k:Int)) r.size (if r.write=true then atI r.data_ (k:Int) else 0) 0
def Zrv (m:GMst):Prop:=m.broken=false∧∀r∈m.queue,r.lock=false
def Yii (a r:Int):Prop:=(Zp a=0→r=1)∧(Zp a=1∨Zp a=2→r≠1)
structure NoL (b:GBus):Prop where
 m:∀i,Za b.conf i=true→Zrv (atI b.m i)
 data:b.data_.live=true→Yii (Zn (atI b.m b.data_.who) b.data_.beat) b.data_.resp
 log:∀d∈b.log,(Zp d.addr=0→d.resp=1)∧(Zp d.addr=1∨Zp d.addr=2→d.resp=0)
theorem Ydr {m m':GMst} (h:m'.queue=m.queue) (k:Int):Zn m' k=Zn m k:=by
 unfold Zn Zf;rw[h]
theorem Yjl {m:GMst} (h:Zrv m):Zx m=false:=by
 unfold Zx
 by_cases hq:m.queue=[]
 ·simp[hq]
 ·have:atI m.queue 0∈m.queue:=Zb3 (by omega) (by have:=List.length_pos_iff.2 hq;omega)
  simp[h.2 _ this]
theorem NoL.holder {n:Int} {b:GBus} (h:NoL b) (hI:BusI n b):b.holder=-1:=by
 by_cases e:b.holder=-1
 ·exact e
 ·have:=Kh hI e
  rw[Yjl (h.m _ this.1)] at this
  exact absurd this.2.1 (by decide)
theorem NoL.same {b c:GBus} (h:NoL b) (hc:c.conf=b.conf) (hm:∀i,Za b.conf i=true→(atI c.m i).queue=(atI b.m i).queue∧(atI c.m i).broken=(atI b.m i).broken) (hw:b.data_.live=true→Za b.conf b.data_.who=true)
  (hd:c.data_.live=true→b.data_.live=true∧c.data_.who=b.data_.who∧c.data_.beat=b.data_.beat∧c.data_.resp=b.data_.resp) (hl:c.log=b.log):NoL c:=by
 refine⟨fun i hi=>?_,fun hx=>?_,by rw[hl];exact h.log⟩
 ·rw[hc] at hi
  have h1:=h.m i hi
  have h2:=hm i hi
  unfold Zrv
  rw[h2.1,h2.2];exact h1
 ·obtain⟨h1,h2,h3,h4⟩:=hd hx
  rw[h2,h3,h4,Ydr (hm _ (hw h1)).1]
  exact h.data h1
theorem Yki {m:GMst} {r:GReq} (h:Zrv m) (hr:r.lock=false):Zrv (X8 m r):=by
 unfold X8
 split
 ·refine⟨h.1,fun x hx=>?_⟩
  have hx:x∈m.queue++[r]:=hx
  rw[List.mem_append,List.mem_singleton] at hx
  rcases hx with hx|rfl
  ·exact h.2 x hx
  ·exact hr
 ·exact h
theorem Yfp {n:Int} {b:GBus} {p:GPost} (hI:BusI n b) (h:NoL b) (hp:p.req.lock=false):NoL (Xr b p):=by
 unfold Xr
 split
 ·rename_i hw
  refine⟨fun i hi=>?_,fun hx=>?_,h.log⟩
  ·show Zrv (atI (b.m.set p.who.toNat (X8 (atI b.m p.who) p.req)) i)
   rw[hI.at_m hw _ hi]
   split
   ·exact Yki (h.m _ hw) hp
   ·exact h.m _ hi
  ·have hx:b.data_.live=true:=hx
   have hdw:=Yk hI hx
   show Yii (Zn (atI (b.m.set p.who.toNat (X8 (atI b.m p.who) p.req)) b.data_.who) b.data_.beat) b.data_.resp
   rw[hI.at_m hw _ hdw]
   split
   ·rename_i e
    obtain⟨l,el⟩:=Ynj (atI b.m p.who) p.req
    rw[el,←e,(Yl1 l (Z7p hI hx) _).2.1]
    exact h.data hx
   ·exact h.data hx
 ·exact h
theorem Ye9 {n:Int} {b:GBus} (ps:List GPost) (hI:BusI n b) (h:NoL b) (hp:∀p∈ps,p.req.lock=false):NoL (Z7 b ps):=by
 induction ps generalizing b with
 | nil=>exact h
 | cons p ps ih=>exact ih (Zyb hI) (Yfp hI h (hp p (List.mem_cons_self ..))) fun q hq=>hp q (List.mem_cons_of_mem _ hq)
theorem Z3o {b:GBus} {s:GScript} (hP:BusP b) (h:NoL b) (hs:∀p∈s.posts,p.req.lock=false):NoL (Zi b s):=by
 have h1:=Ye9 (Z8 s b.now) hP.i h fun p hp=>hs p (List.mem_filter.1 hp).1
 have e:=Zun (Z4 (Z7 b (Z8 s b.now)))
 have e2:=Zvl (Z7 b (Z8 s b.now))
 have hI:=Zkb hP.i (Z8 s b.now)
 refine h1.same (c:=Zi b s) (by unfold Zi;rw[e.2.1,e2.2.1]) (fun i hi=>?_) (fun hx=>Yk hI hx) (fun hx=>?_) ?_
 ·unfold Zi
  rw[e.2.2.2.2.2.1,e2.2.2.2.2.2.1]
  exact⟨rfl,rfl⟩
 ·unfold Zi at hx ⊢
  rw[e.2.2.2.2.2.2.2.1,e2.2.2.2.2.2.2.2.1] at hx ⊢
  exact⟨hx,rfl,rfl,rfl⟩
 ·unfold Zi
  rw[e.2.2.2.1,e2.2.2.2.1]
theorem Ynf {n:Int} {b:GBus} {x:GBeat} (hI:BusI n b) (hw:Za b.conf x.who=true):∀i,Za b.conf i=true→(atI (Zt b x).m i).queue=(atI b.m i).queue∧(atI (Zt b x).m i).broken=(atI b.m i).broken:=by
 intro i hi
 have e:(Zt b x).m=b.m.set x.who.toNat (Qo (atI b.m x.who)):=by
  unfold Zt;repeat' split
  all_goals rfl
 rw[e,hI.at_m hw _ hi]
 split
 ·rename_i e;subst e;exact⟨(Ziq _).1,(Ziq _).2.2.2.2⟩
 ·exact⟨rfl,rfl⟩
theorem Yn5 {m:GMst} (h:Zrv m):Zrv (endG m):=by
 unfold endG
 repeat' split
 ·exact h
 ·exact⟨rfl,fun r hr=>h.2 r (List.mem_of_mem_tail hr)⟩
 ·exact h
theorem Zx4 {b:GBus} {n:Int} (s:GScript) (hI:BusI n b) (h:NoL b):NoL (Zc b s).1:=by
 have hwho:=fun hx=>Yk hI hx
 unfold Zc
 by_cases hd:b.data_.live=false
 ·rw[if_pos hd];exact h
 ·have hd2:b.data_.live=true:=by simpa using hd
  have hw:=hwho hd2
  rw[if_neg hd]
  by_cases hl:b.data_.left > 0
  ·rw[if_pos hl]
   exact h.same rfl (fun i hi=>⟨rfl,rfl⟩) hwho (fun hx=>⟨hd2,rfl,rfl,rfl⟩) rfl
  ·rw[if_neg hl]
   by_cases h2:b.data_.resp≠0∧b.data_.second=false
   ·rw[if_pos h2]
    by_cases ha:b.addr.live=true
    ·have haw:=X6 hI ha
     have hr:=Za0 {b with data_:={b.data_ with second:=true}} b.addr
     have hconf:=(Za1 {b with data_:={b.data_ with second:=true}} b.addr).2.2
     have hm:∀i,Za b.conf i=true→(atI (Zt {b with data_:={b.data_ with second:=true}} b.addr).m i).queue=(atI b.m i).queue∧(atI (Zt {b with data_:={b.data_ with second:=true}} b.addr).m i).broken=(atI b.m i).broken:=by
      have e:(Zt {b with data_:={b.data_ with second:=true}} b.addr).m=(Zt b b.addr).m:=by
       unfold Zt;repeat' split
       all_goals rfl
      rw[e]
      exact Ynf hI haw
     rw[if_pos ha]
     exact h.same hconf.1 hm hwho (fun hx=>by
      show b.data_.live=true∧(Zt {b with data_:={b.data_ with second:=true}} b.addr).data_.who=_∧(Zt {b with data_:={b.data_ with second:=true}} b.addr).data_.beat=_∧(Zt {b with data_:={b.data_ with second:=true}} b.addr).data_.resp=_
      rw[hr.2.2.2.2]
      exact⟨hd2,rfl,rfl,rfl⟩) hr.1
    ·rw[if_neg ha]
     exact h.same rfl (fun i hi=>⟨rfl,rfl⟩) hwho (fun hx=>⟨hd2,rfl,rfl,rfl⟩) rfl
   ·rw[if_neg h2]
    have key:∀(c:GBus) (x:GMst),c.conf=b.conf→c.m=b.m.set b.data_.who.toNat x→x.queue=(atI b.m b.data_.who).queue→x.broken=(atI b.m b.data_.who).broken→c.log=b.log→c.data_=GBeat.z0→NoL (Zt c b.data_):=by
     intro c x hc hm hq hbr hlog hdat
     have hr:=Za0 c b.data_
     have hconf:=(Za1 c b.data_).2.2
     refine h.same (hconf.1.trans hc) (fun i hi=>?_) hwho (fun hx=>?_) (hr.1.trans hlog)
     ·have e:(Zt c b.data_).m=c.m.set b.data_.who.toNat (Qo (atI c.m b.data_.who)):=by
       unfold Zt;repeat' split
       all_goals rfl
      have hb:=Ye hw
      have hbi:=Ye hi
      rw[e,hm,Zsq _ hb.1 (by rw[List.length_set,hI.ml];exact hb.2) hbi.1]
      split
      ·rename_i e2
       have e3:=Zg1 (xs:=b.m) x hb.1 (by rw[hI.ml];exact hb.2)
       rw[(Ziq _).1,(Ziq _).2.2.2.2,e3,e2]
       exact⟨hq,hbr⟩
      ·rename_i e2
       rw[Zz5 _ hb.1 hbi.1 fun h=>e2 h.symm]
       exact⟨rfl,rfl⟩
     ·rw[hr.2.2.2.2,hdat] at hx
      exact absurd hx (by decide)
    by_cases h3:b.data_.resp=2
    ·rw[if_pos h3]
     exact key _ {atI b.m b.data_.who with tries:=(atI b.m b.data_.who).tries+1} rfl rfl rfl rfl rfl rfl
    ·rw[if_neg h3]
     by_cases h4:b.data_.resp=3
     ·rw[if_pos h4]
      exact key _ {atI b.m b.data_.who with parted:=true} rfl rfl rfl rfl rfl rfl
     ·rw[if_neg h4]
      refine⟨fun i hi=>?_,fun hx=>absurd hx (by show ¬GBeat.z0.live=true;decide),fun d hdm=>?_⟩
      ·show Zrv (atI (b.m.set b.data_.who.toNat (endG (atI b.m b.data_.who))) i)
       rw[hI.at_m hw _ hi]
       split
       ·exact Yn5 (h.m _ hw)
       ·exact h.m _ hi
      ·have hdm:d∈b.log++[Zhe {b with data_:=GBeat.z0} b.data_]:=hdm
       rw[List.mem_append,List.mem_singleton] at hdm
       rcases hdm with hdm|rfl
       ·exact h.log d hdm
       ·have hf:=h.data hd2
        have hD:=hI.data
        unfold X2 at hD
        rw[if_pos hd2] at hD
        refine⟨hf.1,fun hx=>?_⟩
        have h5:=hf.2 hx
        show b.data_.resp=0
        omega
theorem Yjd {n:Int} {b:GBus} (hI:BusI n b) (hl:b.addr.live=true) (hs:Zp (Zn (atI b.m b.addr.who) b.addr.beat)=1∨Zp (Zn (atI b.m b.addr.who) b.addr.beat)=2):(doG b b.addr).2.2=0:=by
 have hw:=X6 hI hl
 have hr:=(hI.mst _ hw).right
 have hA:=hI.addr
 unfold Wc at hA
 rw[if_pos hl] at hA
 have hf:=hI.fly _ hw
 unfold flyG at hf
 rw[if_pos (show b.addr.live=true∧b.addr.who=b.addr.who from⟨hl,rfl⟩)] at hf
 have hq:(atI b.m b.addr.who).queue≠[]:=by
  intro hq
  have:=hr.none hq
  rw[this.1,this.2.1] at hf
  split at hf<;>omega
 have hsm:=hr.some hq
 have hge:(atI b.m b.addr.who).beat≥(atI b.m b.addr.who).done+1:=by split at hf<;>omega
 have hma:=Z3u (b:=b.addr.beat) hr (by omega) (by omega)
 have hrq:=Zg0 hr hq
 have hrp:=Zc2 hrq.1
 unfold doG X7
 have hnum:(Yv (Zn (atI b.m b.addr.who) b.addr.beat) (atI (atI b.m b.addr.who).queue 0).size&&!((atI (atI b.m b.addr.who).queue 0).write&&!numG (Zbf (atI b.m b.addr.who) b.addr.beat) (atI (atI b.m b.addr.who).queue 0).size))=true:=by
  rw[hma.2.1]
  unfold Zbf
  cases hwr:(atI (atI b.m b.addr.who).queue 0).write with
  | false=>rfl
  | true=>
   rw[hwr,if_pos rfl] at hrp
   have hm:atI (atI (atI b.m b.addr.who).queue 0).data_ b.addr.beat∈(atI (atI b.m b.addr.who).queue 0).data_:=Zb3 (by omega) (by rw[hrp.2.1,←hrq.2.1];omega)
   rw[if_pos rfl,hrp.2.2 _ hm]
   rfl
 rw[if_pos hnum,if_pos hs]
 split<;>rfl
theorem Yj1 {n:Int} {b:GBus} (s:GScript) (hI:BusI n b) (h:NoL b) (hd:b.data_.live=false):NoL (Ya b s):=by
 unfold Ya
 by_cases hl:b.addr.live=true
 ·rw[if_pos hl]
  have hw:=X6 hI hl
  refine⟨h.m,fun _=>?_,h.log⟩
  show Yii (Zn (atI b.m b.addr.who) b.addr.beat) (Xd b s b.addr).1
  have hbr:=(h.m _ hw).1
  refine⟨fun hz=>?_,fun hz=>?_⟩
  ·unfold Xd
   rw[if_pos (.inr hz)]
  ·have hne:Zp (Zn (atI b.m b.addr.who) b.addr.beat)≠0:=by omega
   unfold Xd
   rw[if_neg (fun hx=>hx.elim (fun h1=>by rw[hbr] at h1;exact absurd h1 (by decide)) hne)]
   dsimp only
   rw[Yjd hI hl hz]
   repeat' split
   all_goals first|omega|decide
 ·rw[if_neg hl];exact h
theorem Yj0 {n:Int} {b:GBus} (hI:BusI n b) (h:NoL b):NoL (Y3 b).2:=by
 have hp:=Za4 hI
 have h1:NoL (Z6 b).2.2:=h.same hp.conf (fun i hi=>by rw[hp.m];exact⟨rfl,rfl⟩) (fun hx=>Yk hI hx) (fun hx=>by rw[hp.data] at hx ⊢;exact⟨hx,rfl,rfl,rfl⟩) hp.log
 unfold Y3
 split
 ·exact h1
 ·rename_i hx
  rcases hp.who with h2|h2
  ·exact absurd (show (Z6 b).1 < 0 by rw[h2];decide) hx
  ·have hw:Za (Z6 b).2.2.conf (Z6 b).1=true:=by rw[hp.conf];exact h2.1
   refine h1.same (c:=Zu0 (Z6 b).2.2 (Z6 b).1 (Z6 b).2.1) rfl (fun i hi=>?_) (fun hx=>Yk hp.ok hx) (fun hx=>⟨hx,rfl,rfl,rfl⟩) rfl
   show (atI ((Z6 b).2.2.m.set (Z6 b).1.toNat (Yq (atI (Z6 b).2.2.m (Z6 b).1))) i).queue=_∧(atI ((Z6 b).2.2.m.set (Z6 b).1.toNat (Yq (atI (Z6 b).2.2.m (Z6 b).1))) i).broken=_
   rw[hp.ok.at_m hw _ hi]
   split
   ·rename_i e
    have:=Zyq (atI (Z6 b).2.2.m (Z6 b).1)
    rw[e]
    exact⟨this.1,this.2.2.2.2⟩
   ·exact⟨rfl,rfl⟩
theorem Ybo {b:GBus} {s:GScript} (hP:BusP b) (h:NoL b) (hs:∀p∈s.posts,p.req.lock=false):NoL (Ze b s).1:=by
 have h1:=Z3o hP h hs
 have h2:=Zx4 s (Zwg hP s) h1
 have hf:=Zu4 hP s
 rw[Zjm]
 by_cases hr:rdyG b.data_=true
 ·rw[if_pos hr]
  have hd:=hf.2 hr
  have hbr:Zs (Zc (Zi b s) s).1=(Zc (Zi b s) s).1:=by
   unfold Zs
   rw[if_neg (fun hx=>hx.1 (h2.holder hf.1))]
  have h3:=Yj1 s hf.1 h2 (by rw[hd])
  have hI3:=(Zjd hf.1 s hd).1
  have h4:=Yj0 hI3 h3
  have h5:NoL (Zm (Zc (Zi b s) s).1 s).2:=by
   unfold Zm
   rw[hbr];exact h4
  exact⟨h5.m,h5.data,h5.log⟩
 ·rw[if_neg hr]
  exact⟨h2.m,h2.data,h2.log⟩
theorem Ypi {c:GConf} (h:Zz c=true):NoL (newG c):=
 ⟨fun i hi=>by rw[Zr2 c hi];exact⟨rfl,fun r hr=>absurd hr (by simp[GMst.z0])⟩,fun hx=>absurd hx (by simp[newG,GBus.z0,GBeat.z0]),fun d hd=>absurd hd (by simp[newG,GBus.z0])⟩
def qt (m:GMst):List GReq×Int×Int×Bool:=(m.queue,m.done,m.tries,m.parted)
def finT (d:GBeat) (m:GMst):List GReq×Int×Int×Bool:=
 if Yy d=true then ((Zca m).1,(Zca m).2,0,false)
 else if (d.live&&rdyG d)=true∧d.resp=2 then (m.queue,m.done,m.tries+1,m.parted)
 else if (d.live&&rdyG d)=true∧d.resp=3 then (m.queue,m.done,m.tries,true)
 else qt m
theorem Ygi (m:GMst):qt (Qo m)=qt m:=by
 have h:=Ziq m
 unfold qt;rw[h.1,h.2.1,h.2.2.1,h.2.2.2.1]
theorem Z0o {n:Int} {b:GBus} (h:BusI n b) {w:Int} (hw:Za b.conf w=true) (x:GMst) {i:Int} (hi:Za b.conf i=true):qt (atI (b.m.set w.toNat x) i)=if w=i then qt x else qt (atI b.m i):=by
 rw[h.at_m hw _ hi]
 by_cases e:i=w
 ·rw[if_pos e,if_pos e.symm]
 ·rw[if_neg e,if_neg (fun h=>e h.symm)]
theorem Z8v {n:Int} {c:GBus} (h:BusI n c) {w:Int} (hw:Za c.conf w=true) (X:GMst) (d:GBus) (hd:d.m=c.m.set w.toNat X) (x:GBeat) (hx:x.who=w) {i:Int} (hi:Za c.conf i=true):qt (atI (Zt d x).m i)=if w=i then qt X else qt (atI c.m i):=by
 rw[Z8w,hd,hx,h.at_m hw X hw,if_pos rfl,List.set_set,Z0o h hw _ hi,Ygi]
theorem end_qt {m:GMst} (h:m.beat - m.done≥1):qt (endG m)=((Zca m).1,(Zca m).2,0,false):=by
 unfold endG Zca
 rw[if_neg (by omega)]
 split<;>rfl
theorem Ycm {x:GBeat} (hl:¬x.left > 0) (h2:¬(x.resp≠0∧x.second=false)):rdyG x=true:=by
 unfold rdyG
 have:x.resp=0∨x.second=true:=by
  by_cases h5:x.resp=0
  ·exact .inl h5
  ·exact .inr (by simpa using fun h6=>h2 ⟨h5,h6⟩)
 rw[decide_eq_true (show x.left≤0 by omega)]
 rcases this with h5|h5<;>simp[h5]
theorem Zwo {x:GBeat} (hd:x.live=true) (h:x.left > 0∨(x.resp≠0∧x.second=false)):rdyG x=false:=by
 unfold rdyG
 rcases h with h|h
 ·simp[hd,show ¬x.left≤0 by omega]
 ·simp[hd,h.1,h.2]
theorem Zsv {d:GBeat} {m:GMst} (h:(d.live&&rdyG d)=false):finT d m=qt m:=by
 unfold finT
 have:Yy d=false:=by unfold Yy;rw[h];rfl
 rw[if_neg (by simp[this]),if_neg (by simp[h]),if_neg (by simp[h])]
theorem Yjx {n:Int} {c:GBus} (s:GScript) (h:BusI n c) {i:Int} (hi:Za c.conf i=true):qt (atI (Zc c s).1.m i)=if c.data_.who=i then finT c.data_ (atI c.m i) else qt (atI c.m i):=by
 have hno:(c.data_.live&&rdyG c.data_)=false→(if c.data_.who=i then finT c.data_ (atI c.m i) else qt (atI c.m i))=qt (atI c.m i):=fun hx=>by
  rw[Zsv hx,Zxp]
 unfold Zc
 by_cases hd:c.data_.live=false
 ·rw[if_pos hd,hno (by simp[hd])]
 ·have hd2:c.data_.live=true:=by simpa using hd
  have hw:=Yk h hd2
  have hp:=Zl0 h hd2
  rw[if_neg hd]
  by_cases hl:c.data_.left > 0
  ·rw[if_pos hl,hno (by simp[Zwo hd2 (.inl hl)])]
  ·rw[if_neg hl]
   by_cases h2:c.data_.resp≠0∧c.data_.second=false
   ·rw[if_pos h2,hno (by simp[Zwo hd2 (.inr h2)])]
    by_cases ha:c.addr.live=true
    ·rw[if_pos ha]
     show qt (atI (Zt {c with data_:={c.data_ with second:=true}} c.addr).m i)=_
     rw[Z8w,Z0o h (X6 h ha) _ hi,Ygi]
     split
     ·rename_i e;rw[←e]
     ·rfl
    ·rw[if_neg ha]
   ·have hr:=Ycm hl h2
    rw[if_neg h2]
    by_cases h3:c.data_.resp=2
    ·have hE:¬Yy c.data_=true:=by simp[Yy,h3]
     rw[if_pos h3,Z8v h hw {atI c.m c.data_.who with tries:=(atI c.m c.data_.who).tries+1} _ rfl _ rfl hi]
     by_cases e:c.data_.who=i
     ·rw[if_pos e,if_pos e]
      unfold finT
      rw[if_neg hE,if_pos ⟨by simp[hd2,hr],h3⟩,←e]
      rfl
     ·rw[if_neg e,if_neg e]
    ·rw[if_neg h3]
     by_cases h4:c.data_.resp=3
     ·have hE:¬Yy c.data_=true:=by simp[Yy,h4]
      rw[if_pos h4,Z8v h hw {atI c.m c.data_.who with parted:=true} _ rfl _ rfl hi]
      by_cases e:c.data_.who=i
      ·rw[if_pos e,if_pos e]
       unfold finT
       rw[if_neg hE,if_neg (fun hx=>h3 hx.2),if_pos ⟨by simp[hd2,hr],h4⟩,←e]
       rfl
      ·rw[if_neg e,if_neg e]
     ·have he:Yy c.data_=true:=by
       simp only[Yy,hd2,hr,decide_eq_true (show c.data_.resp≠2∧c.data_.resp≠3 from⟨h3,h4⟩)]
       rfl
      rw[if_neg h4]
      show qt (atI (c.m.set c.data_.who.toNat (endG (atI c.m c.data_.who))) i)=_
      rw[Z0o h hw _ hi]
      by_cases e:c.data_.who=i
      ·rw[if_pos e,if_pos e,end_qt hp]
       unfold finT
       rw[if_pos he,e]
      ·rw[if_neg e,if_neg e]
theorem Ylz {n:Int} {b:GBus} (h:BusI n b) {i:Int} (hi:Za b.conf i=true):qt (atI (Zs b).m i)=qt (atI b.m i):=by
 unfold Zs
 split
 ·rename_i hb
  show qt (atI (b.m.set b.holder.toNat {atI b.m b.holder with broken:=true}) i)=_
  rw[Z0o h (Kh h hb.1).1 _ hi]
  split
  ·rename_i e;rw[←e];rfl
  ·rfl
 ·rfl
theorem Ync {n:Int} {b:GBus} (h:BusI n b) {i:Int} (hi:Za b.conf i=true):qt (atI (Y3 b).2.m i)=qt (atI b.m i):=by
 have hp:=Za4 h
 unfold Y3
 split
 ·show qt (atI (Z6 b).2.2.m i)=_
  rw[hp.m]
 ·rename_i hx
  rcases hp.who with h2|h2
  ·exact absurd (show (Z6 b).1 < 0 by rw[h2];decide) hx
  ·show qt (atI ((Z6 b).2.2.m.set (Z6 b).1.toNat (Yq (atI (Z6 b).2.2.m (Z6 b).1))) i)=_
   rw[hp.m,Z0o h h2.1 _ hi]
   have hs:=Zyq (atI b.m (Z6 b).1)
   split
   ·rename_i e
    unfold qt;rw[hs.1,hs.2.1,hs.2.2.1,hs.2.2.2.1,e]
   ·rfl
theorem Z30 {n:Int} {b:GBus} (h:BusI n b) (s:GScript) (hd:b.data_=GBeat.z0) {i:Int} (hi:Za b.conf i=true):qt (atI (Zm b s).2.m i)=qt (atI b.m i):=by
 have h2:=(Zo6 h s hd).2
 have e1:=Ze9 b
 have e2:=Zj5 (Zs b) s
 unfold Zm
 rw[Ync h2 (by rw[e2.2.1,e1.2.2.2.2.1];exact hi),Z1o,Ylz h hi]
theorem Z1s {b:GBus} (hP:BusP b) (s:GScript) {i:Int} (hi:Za b.conf i=true):qt (atI (Ze b s).1.m i)=if b.data_.who=i then finT b.data_ (atI (Zi b s).m i) else qt (atI (Zi b s).m i):=by
 have e:=Wo b s
 have hf:=Zu4 hP s
 have hfn:=Zjj (Zi b s) s
 have h1:=Yjx s (Zwg hP s) (i:=i) (by rw[e.2.1];exact hi)
 rw[e.2.2.2.2.2.2.1] at h1
 rw[←h1,Zjm]
 by_cases hr:rdyG b.data_=true
 ·rw[if_pos hr]
  exact Z30 hf.1 s (hf.2 hr) (by rw[hfn.2.2,e.2.1];exact hi)
 ·rw[if_neg hr]
theorem Yho {b:GBus} (s:GScript):(Zc b s).1.splits=if (b.data_.live&&rdyG b.data_)=true∧b.data_.resp=3 then b.splits.set b.data_.who.toNat (K4 b.conf s b.picks) else b.splits:=by
 unfold Zc
 by_cases hd:b.data_.live=false
 ·rw[if_pos hd,if_neg (by simp[hd])]
 ·have hd2:b.data_.live=true:=by simpa using hd
  rw[if_neg hd]
  by_cases hl:b.data_.left > 0
  ·have hE:¬((b.data_.live&&rdyG b.data_)=true∧b.data_.resp=3):=by simp[Zwo hd2 (.inl hl)]
   rw[if_pos hl,if_neg hE]
  ·rw[if_neg hl]
   by_cases h2:b.data_.resp≠0∧b.data_.second=false
   ·have hE:¬((b.data_.live&&rdyG b.data_)=true∧b.data_.resp=3):=by simp[Zwo hd2 (.inr h2)]
    rw[if_pos h2,if_neg hE]
    by_cases ha:b.addr.live=true
    ·rw[if_pos ha];exact (Za0 _ _).2.1
    ·rw[if_neg ha]
   ·have hr:=Ycm hl h2
    rw[if_neg h2]
    by_cases h3:b.data_.resp=2
    ·have hE:¬((b.data_.live&&rdyG b.data_)=true∧b.data_.resp=3):=by simp[h3]
     rw[if_pos h3,if_neg hE];exact (Za0 _ _).2.1
    ·rw[if_neg h3]
     by_cases h4:b.data_.resp=3
     ·rw[if_pos h4,if_pos ⟨by simp[hd2,hr],h4⟩];exact (Za0 _ _).2.1
     ·have hE:¬((b.data_.live&&rdyG b.data_)=true∧b.data_.resp=3):=fun hx=>h4 hx.2
      rw[if_neg h4,if_neg hE];rfl
theorem Yf3 (b:GBus) (s:GScript):(Zi b s).splits=b.splits.map fun n=>max (n - 1) 0:=by
 have h3:=Zek b (Z8 s b.now)
 unfold Zi W7
 split
 ·show (Z4 _).splits=_
  unfold Z4
  dsimp only
  rw[h3.2.2.2.2.2.2.2.2.2.1]
 ·show (Z4 _).splits=_
  unfold Z4
  dsimp only
  rw[h3.2.2.2.2.2.2.2.2.2.1]
theorem Zpt {b:GBus} (hP:BusP b) (s:GScript) {i:Int} (hi:Za b.conf i=true):atI (Ze b s).1.splits i=if ((b.data_.live&&rdyG b.data_)=true∧b.data_.resp=3)∧b.data_.who=i then K4 b.conf s b.picks else max (atI b.splits i - 1) 0:=by
 have e:=Wo b s
 have hf:=Zu4 hP s
 have hbi:=Ye hi
 have h1:=Yho (b:=Zi b s) s
 rw[e.2.2.2.2.2.2.1,Yf3,e.2.1,e.2.2.1] at h1
 have h2:(Ze b s).1.splits=(Zc (Zi b s) s).1.splits:=by
  rw[Zjm]
  by_cases hr:rdyG b.data_=true
  ·rw[if_pos hr]
   exact (Z6i hf.1 s (hf.2 hr)).splits
  ·rw[if_neg hr]
 rw[h2,h1]
 by_cases hx:(b.data_.live&&rdyG b.data_)=true∧b.data_.resp=3
 ·have hd:b.data_.live=true:=by
   have:=hx.1
   rw[Bool.and_eq_true] at this
   exact this.1
  have hw:=Ye (Yk hP.i hd)
  have hsl:=hP.sl
  rw[if_pos hx,Zsq _ hw.1 (by simp;omega) hbi.1]
  by_cases ew:i=b.data_.who
  ·rw[if_pos ew,if_pos ⟨hx,ew.symm⟩]
  ·rw[if_neg ew,if_neg (fun h=>ew h.2.symm),Yc4 (fun n=>max (n - 1) 0) hbi.1 (by omega)]
 ·have hsl:=hP.sl
  rw[if_neg hx,if_neg (fun h=>hx h.1),Yc4 (fun n=>max (n - 1) 0) hbi.1 (by omega)]
theorem Yij {w:GWrr} {c:GConf} {wants:List Bool} (ha:0≤w.at_∧w.at_ < (wants.length:Int)):∀(r:Nat) (k:Int),1≤k→(Ze1 w c wants r k).2=-1→∀j:Nat,j < r→atI wants ((w.at_+(k+j)) % (wants.length:Int))=false:=by
 intro r
 induction r with
 | zero=>intro k _ _ j hj;omega
 | succ r ih=>
  intro k hk h j hj
  simp only[Ze1] at h
  split at h
  ·have h0:0≤(w.at_+k) % (wants.length:Int):=Int.emod_nonneg _ (by omega)
   exact absurd h (by show (w.at_+k) % (wants.length:Int)≠-1;omega)
  ·rename_i hq
   cases j with
   | zero=>simpa using hq
   | succ j=>
    have:=ih (k+1) (by omega) h j (by omega)
    rw[show w.at_+(k+1+(j:Int))=w.at_+(k+((j+1:Nat):Int)) by omega] at this
    exact this
theorem Yh2 {w:GWrr} {c:GConf} {wants:List Bool} (h:wrrG w c=true) (hn:wants.length=c.masters.length) (hp:(Qy w c wants).2=-1) {i:Int} (h0:0≤i) (h1:i < (wants.length:Int)):atI wants i=false:=by
 obtain⟨hc,hm,-,-⟩:=Zdd h
 have hb:=Ye hm
 unfold Qy at hp
 split at hp
 ·exact absurd hp (by show w.at_≠-1;omega)
 ·have key:=Yij (c:=c) (wants:=wants) (w:=w) ⟨hb.1,by omega⟩ wants.length 1 (by omega) hp
  by_cases hi:w.at_ < i
  ·have:=key (i - w.at_ - 1).toNat (by omega)
   rw[show w.at_+(1+(((i - w.at_ - 1).toNat:Nat):Int))=i by omega,Int.emod_eq_of_lt h0 h1] at this
   exact this
  ·have:=key (i+wants.length - w.at_ - 1).toNat (by omega)
   rw[show w.at_+(1+(((i+wants.length - w.at_ - 1).toNat:Nat):Int))=i+wants.length by omega,Int.add_emod_right,Int.emod_eq_of_lt h0 h1] at this
   exact this
theorem Yj8 {n:Int} {b:GBus} (h:BusI n b) (ha:b.addr.live=false) (hh:b.holder=-1) (ho:∀i,Za b.conf i=true→i≠0→(atI b.m i).queue=[]):(Y3 b).2.addr.live=Xq b 0:=by
 have hp:=Za4 h
 have hl:=Wy h.conf
 have hml:=h.ml
 have hno:∀i,Za b.conf i=true→i≠0→Xq b i=false:=fun i hi hne=>by
  have hq:=ho i hi hne
  have hb:=((h.mst i hi).right.none hq).1
  unfold Xq Zgt Zf
  rw[if_pos hq,hb];rfl
 have hlt:∀{k:Nat},k∈List.range b.m.length→Za b.conf (k:Int)=true:=fun hk=>mas (by have:=List.mem_range.1 hk;omega)
 unfold Y3
 split
 ·rename_i hx
  show (Z6 b).2.2.addr.live=_
  rw[hp.addr,ha]
  cases hw:Xq b 0 with
  | false=>rfl
  | true=>
   exfalso
   unfold Z6 at hx
   rw[if_neg (fun h=>h.1 hh)] at hx
   split at hx
   ·rename_i k hk
    have:(k:Int) < 0:=hx
    omega
   ·rename_i hk
    rw[if_neg (by simp[hh])] at hx
    have hx:(Qy b.arb b.conf (Xu b)).2 < 0:=hx
    have hwk:=Yc9 h.arb (by rw[Ka];exact h.ml)
    have hm1:(Qy b.arb b.conf (Xu b)).2=-1:=by
     rcases hwk.2 with h1|h1
     ·exact h1
     ·have:=Ye h1.1;omega
    have:=Yh2 h.arb (by rw[Ka];exact h.ml) hm1 (i:=0) (by omega) (by rw[Ka];omega)
    have hm0:Za b.conf 0=true:=mas (k:=0) (by omega)
    rw[Zme h hm0,hw] at this
    exact absurd this (by decide)
 ·rename_i hx
  show true=_
  rcases hp.who with h2|h2
  ·exact absurd (show (Z6 b).1 < 0 by rw[h2];decide) hx
  ·by_cases e:(Z6 b).1=0
   ·rw[←e];exact h2.2.1.symm
   ·rw[hno _ h2.1 e] at h2
    exact absurd h2.2.1 (by decide)
theorem Yas (b:GBus) (s:GScript) (x:GBeat) (hb:(atI b.m x.who).broken=false):
  if Zp (Zn (atI b.m x.who) x.beat)=0 then (Xd b s x).1=1∧(Xd b s x).2=0 else
   (Xd b s x).2=(if Zp (Zn (atI b.m x.who) x.beat)=3 then Zae b.conf s b.picks+2 else Zae b.conf s b.picks)∧
   (((Xd b s x).1=2∧Kq s b.picks=2∧(atI b.m x.who).tries < b.conf.maxRetry)∨((Xd b s x).1=3∧Kq s b.picks=3∧(atI b.m x.who).parted=false)∨(Xd b s x).1=(doG b x).2.2):=by
 unfold Xd
 by_cases h0:Zp (Zn (atI b.m x.who) x.beat)=0
 ·rw[if_pos h0,if_pos (.inr h0)]
  exact⟨rfl,rfl⟩
 ·rw[if_neg h0,if_neg (by
               rintro (h|h);·rw[hb] at h;cases h
               ·exact h0 h)]
  refine⟨rfl,?_⟩
  dsimp only
  split
  ·rename_i h;exact .inl ⟨rfl,h.1,h.2.2⟩
  ·split
   ·rename_i h;exact .inr (.inl ⟨rfl,h.1,h.2.2.1⟩)
   ·exact .inr (.inr rfl)
theorem Ynb {m:GModel} {w:Bool} {a s v:Int} (h:Zp a=0):(X7 m w a s v).2.2=1:=by
 unfold X7
 split
 ·rw[if_neg (by omega),if_neg (by omega)]
 ·rfl
theorem Z0t {b:GBus} {s:GScript} (hP:BusP b) (hN:NoL b) (hs:∀p∈s.posts,p.req.lock=false) (hr:rdyG b.data_=true) (hl:b.addr.live=true):
  if Zp (Zn (atI (Ze b s).1.m b.addr.who) b.addr.beat)=0 then (Ze b s).1.data_.resp=1∧(Ze b s).1.data_.left=0 else
   (Ze b s).1.data_.left=(if Zp (Zn (atI (Ze b s).1.m b.addr.who) b.addr.beat)=3 then Zae b.conf s b.picks+2 else Zae b.conf s b.picks)∧
   (((Ze b s).1.data_.resp=2∧Kq s b.picks=2∧(atI (Ze b s).1.m b.addr.who).tries < b.conf.maxRetry)∨((Ze b s).1.data_.resp=3∧Kq s b.picks=3∧(atI (Ze b s).1.m b.addr.who).parted=false)∨(Ze b s).1.data_.resp=(doG (Ze b s).1 (Ze b s).1.data_).2.2):=by
 have e:=Wo b s
 have hf:=Zu4 hP s
 have hd:=hf.2 hr
 have hw:=X6 hP.i hl
 have hfn:=Zjj (Zi b s) s
 have hN2:=Zx4 s (Zwg hP s) (Z3o hP hN hs)
 have hbr:Zs (Zc (Zi b s) s).1=(Zc (Zi b s) s).1:=by
  unfold Zs
  rw[if_neg (fun hx=>hx.1 (hN2.holder hf.1))]
 generalize hc:(Zc (Zi b s) s).1=c at*
 have hcc:c.conf=b.conf:=by rw[hfn.2.2,e.2.1]
 have hcp:c.picks=b.picks:=by rw[hfn.2.1,e.2.2.1]
 have hfa:c.addr=b.addr:=by rw[←hc,Ycy s (by rw[e.2.2.2.2.2.2.1];exact hr),e.2.2.2.2.2.1]
 have hwc:Za c.conf b.addr.who=true:=by rw[hcc];exact hw
 have ha:=Yas c s b.addr (hN2.m _ hwc).1
 have hB:=Zjd hf.1 s hd
 have hg:=Zjo hB.1
 have ed:(Zm c s).2.data_={b.addr with left:=(Xd c s b.addr).2,resp:=(Xd c s b.addr).1}:=by
  unfold Zm
  rw[hbr,hg.2.2.2.2.2]
  unfold Ya
  rw[if_pos (by rw[hfa];exact hl),hfa]
 have hq:=Z30 hf.1 s hd hwc
 have e1:(atI (Zm c s).2.m b.addr.who).queue=(atI c.m b.addr.who).queue:=congrArg (·.1) hq
 have e3:(atI (Zm c s).2.m b.addr.who).tries=(atI c.m b.addr.who).tries:=congrArg (·.2.2.1) hq
 have e4:(atI (Zm c s).2.m b.addr.who).parted=(atI c.m b.addr.who).parted:=congrArg (·.2.2.2) hq
 have em:(Zm c s).2.model=c.model:=(Zyg hf.1 s hd).2.2.2.2.2.2
 have e5:∀k,Zn (atI (Zm c s).2.m b.addr.who) k=Zn (atI c.m b.addr.who) k:=fun k=>Z1i e1
 have e6:doG (Zm c s).2 {b.addr with left:=(Xd c s b.addr).2,resp:=(Xd c s b.addr).1}=doG c b.addr:=by
  unfold doG Zbf
  dsimp only
  rw[em,e1,e5]
 rw[Zjm,if_pos hr,hc]
 have e7:doG {(Zm c s).2 with now:=b.now+1} (Zm c s).2.data_=doG c b.addr:=by rw[ed];exact e6
 show if Zp (Zn (atI (Zm c s).2.m b.addr.who) b.addr.beat)=0 then (Zm c s).2.data_.resp=1∧(Zm c s).2.data_.left=0 else
   (Zm c s).2.data_.left=(if Zp (Zn (atI (Zm c s).2.m b.addr.who) b.addr.beat)=3 then Zae b.conf s b.picks+2 else Zae b.conf s b.picks)∧
   (((Zm c s).2.data_.resp=2∧Kq s b.picks=2∧(atI (Zm c s).2.m b.addr.who).tries < b.conf.maxRetry)∨((Zm c s).2.data_.resp=3∧Kq s b.picks=3∧(atI (Zm c s).2.m b.addr.who).parted=false)∨(Zm c s).2.data_.resp=(doG {(Zm c s).2 with now:=b.now+1} (Zm c s).2.data_).2.2)
 rw[e7,ed,e5,e3,e4]
 rw[hcc,hcp] at ha
 exact ha
def Z1n (r:GReq) (k:Nat):GDone×Bool:=(Zpn r k,decide (k=0))
def Z0i (r:GReq):List (GDone×Bool):=(List.range (Yl r.burst).toNat).map (Z1n r)
def allP (q:List GReq):List (GDone×Bool):=q.flatMap Z0i
def Zuj (q:List GReq) (d:Int):List (GDone×Bool):=(allP q).drop d.toNat
theorem Zm7 (r:GReq):(Z0i r).length=(Yl r.burst).toNat:=by simp[Z0i]
theorem Zxd {m:GMst} (h:RightP m) (hq:m.queue≠[]):Zuj m.queue m.done=Z1n (atI m.queue 0) m.done.toNat::Zuj (Zca m).1 (Zca m).2:=by
 have h1:=h.some hq
 have h2:=Zg0 h hq
 obtain⟨r,t,e⟩:=List.exists_cons_of_ne_nil hq
 have e0:atI m.queue 0=r:=by rw[e];rfl
 rw[e0] at h2 ⊢
 have hlt:m.done.toNat < (Yl r.burst).toNat:=by omega
 have hlt2:m.done.toNat < (allP m.queue).length:=by
  rw[e];unfold allP;rw[List.flatMap_cons,List.length_append,Zm7];omega
 have hg:(allP m.queue)[m.done.toNat]=Z1n r m.done.toNat:=by
  have:(allP m.queue)[m.done.toNat]?=some (Z1n r m.done.toNat):=by
   rw[e];unfold allP
   rw[List.flatMap_cons,List.getElem?_append_left (by rw[Zm7];exact hlt)]
   simp[Z0i,hlt]
  obtain⟨_,h3⟩:=List.getElem?_eq_some_iff.1 this
  exact h3
 show (allP m.queue).drop m.done.toNat=_
 rw[List.drop_eq_getElem_cons hlt2,hg]
 congr 1
 unfold Zca
 by_cases hl:m.done+1=Zf m
 ·rw[if_pos hl]
  show _=(allP m.queue.tail).drop 0
  rw[e]
  unfold allP
  rw[List.flatMap_cons,List.drop_append_of_le_length (by rw[Zm7];omega),List.drop_of_length_le (by rw[Zm7];omega)]
  rfl
 ·rw[if_neg hl]
  show _=(allP m.queue).drop (m.done+1).toNat
  rw[show (m.done+1).toNat=m.done.toNat+1 by omega]
theorem Ymx:∀(q:List GReq),(allP q).length≤8*q.length:=by
 intro q
 induction q with
 | nil=>simp[allP]
 | cons r q ih=>
  have hb:=Zdb r.burst
  have e:allP (r::q)=Z0i r++allP q:=rfl
  rw[e,List.length_append,Zm7,List.length_cons];omega
def Z4l (m:GModel) (w:GDone):Int:=(X7 m w.write w.addr w.size w.value).2.2
def Yac (m:GModel) (w:GDone):GModel:=if Z4l m w=0 then (X7 m w.write w.addr w.size w.value).1 else m
def valM (m:GModel) (w:GDone):Int:=if Z4l m w=0 then (X7 m w.write w.addr w.size w.value).2.1 else 0
def exP:GModel→List (GDone×Bool)→List GDone→GModel→Prop
 | m,[],[],m'=>m=m'
 | m,w::ws,d::ds,m'=>(d.addr=w.1.addr∧d.resp=Z4l m w.1∧d.value=valM m w.1)∧exP (Yac m w.1) ws ds m'
 | _,_,_,_=>False
theorem Yol:∀{ws:List (GDone×Bool)} {ds:List GDone} {m m':GModel},exP m ws ds m'→ws.length=ds.length:=by
 intro ws
 induction ws with
 | nil=>intro ds m m' h;cases ds with
  | nil=>rfl
  | cons d ds=>exact absurd h id
 | cons w ws ih=>intro ds m m' h;cases ds with
  | nil=>exact absurd h id
  | cons d ds=>simp[ih h.2]
theorem Ymf {w:GDone×Bool} {d:GDone}:∀{ws:List (GDone×Bool)} {ds:List GDone} {m m':GModel},exP m ws ds m'→d.addr=w.1.addr→d.resp=Z4l m' w.1→d.value=valM m' w.1→exP m (ws++[w]) (ds++[d]) (Yac m' w.1):=by
 intro ws
 induction ws with
 | nil=>intro ds m m' h h1 h2 h3;cases ds with
  | nil=>
   have h:m=m':=h
   subst h
   exact⟨⟨h1,h2,h3⟩,rfl⟩
  | cons e ds=>exact absurd h id
 | cons v ws ih=>intro ds m m' h h1 h2 h3;cases ds with
  | nil=>exact absurd h id
  | cons e ds=>exact⟨h.1,ih h.2 h1 h2 h3⟩
def devC (a:Int):Int:=if Zp a=3 then 2 else 0
def gapF (pe first:Bool):Int:=if (first||pe)=true then 2 else 1
def Z5x (c:Int):List GDone→Int
 | []=>c
 | d::ds=>Z5x d.cycle ds
def Z4m (e:Bool):List GDone→Bool
 | []=>e
 | d::ds=>Z4m (decide (d.resp=1)) ds
theorem Yhs (d:GDone):∀(l:List GDone) (c:Int),Z5x c (l++[d])=d.cycle:=by
 intro l
 induction l with
 | nil=>intro c;rfl
 | cons a l ih=>intro c;exact ih _
theorem Yhh (d:GDone):∀(l:List GDone) (c:Bool),Z4m c (l++[d])=decide (d.resp=1):=by
 intro l
 induction l with
 | nil=>intro c;rfl
 | cons a l ih=>intro c;exact ih _
def tmP (R:Int→Int→Prop):Int→Bool→List (GDone×Bool)→List GDone→Prop
 | c,pe,w::ws,d::ds=>R d.cycle (c+gapF pe w.2+devC d.addr+d.resp)∧tmP R d.cycle (decide (d.resp=1)) ws ds
 | _,_,_,_=>True
theorem Ynw {R:Int→Int→Prop} {w:GDone×Bool} {d:GDone}:∀{ws:List (GDone×Bool)} {ds:List GDone} {c:Int} {pe:Bool},ws.length=ds.length→tmP R c pe ws ds→R d.cycle (Z5x c ds+gapF (Z4m pe ds) w.2+devC d.addr+d.resp)→tmP R c pe (ws++[w]) (ds++[d]):=by
 intro ws
 induction ws with
 | nil=>intro ds c pe hl h1 h2;cases ds with
  | nil=>exact⟨h2,trivial⟩
  | cons e ds=>simp at hl
 | cons v ws ih=>intro ds c pe hl h1 h2;cases ds with
  | nil=>simp at hl
  | cons e ds=>exact⟨h1.1,ih (by simpa using hl) h1.2 h2⟩
theorem Yme:∀{ws:List (GDone×Bool)} {ds es:List GDone} {m m1 m2:GModel} {c c':Int} {pe:Bool},exP m ws ds m1→exP m ws es m2→tmP (fun a b=>a≥b) c pe ws ds→tmP (fun a b=>a≤b) c' pe ws es→c'≤c→
  ds.length=es.length∧∀(k:Nat) (h1:k < ds.length) (h2:k < es.length),ds[k].resp=es[k].resp∧ds[k].addr=es[k].addr∧ds[k].value=es[k].value∧es[k].cycle≤ds[k].cycle:=by
 intro ws
 induction ws with
 | nil=>
  intro ds es m m1 m2 c c' pe h1 h2 _ _ _
  cases ds with
  | cons d ds=>exact absurd h1 id
  | nil=>
   cases es with
   | cons e es=>exact absurd h2 id
   | nil=>exact⟨rfl,fun k h=>absurd h (by simp)⟩
 | cons w ws ih=>
  intro ds es m m1 m2 c c' pe h1 h2 t1 t2 hc
  cases ds with
  | nil=>exact absurd h1 id
  | cons d ds=>
   cases es with
   | nil=>exact absurd h2 id
   | cons e es=>
    have er:d.resp=e.resp:=by rw[h1.1.2.1,h2.1.2.1]
    have ea:d.addr=e.addr:=by rw[h1.1.1,h2.1.1]
    have ev:d.value=e.value:=by rw[h1.1.2.2,h2.1.2.2]
    have hcy:e.cycle≤d.cycle:=by
     have a1:=t1.1;have a2:=t2.1
     rw[er,ea] at a1
     have a1:d.cycle≥c+gapF pe w.2+devC e.addr+e.resp:=a1
     have a2:e.cycle≤c'+gapF pe w.2+devC e.addr+e.resp:=a2
     omega
    have t1':=t1.2
    rw[er] at t1'
    have:=ih h1.2 h2.2 t1' t2.2 hcy
    refine⟨by simp[this.1],fun k k1 k2=>?_⟩
    cases k with
    | zero=>exact⟨er,ea,ev,hcy⟩
    | succ k=>simpa using this.2 k (by simpa using k1) (by simpa using k2)
structure Alone (c:GConf) (b:GBus):Prop where
 p:BusP b
 conf:b.conf=c
 nol:NoL b
 oth:∀i,Za c i=true→i≠0→(atI b.m i).queue=[]
 dat:b.data_.live=true→b.data_.resp≤1→(doG b b.data_).2.2=b.data_.resp
theorem Alone.m0 {c:GConf} {b:GBus} (h:Alone c b):Za b.conf 0=true:=by
 have:=Wy h.p.conf
 exact mas (k:=0) (by omega)
theorem Alone.dwho {c:GConf} {b:GBus} (h:Alone c b) (hd:b.data_.live=true):b.data_.who=0:=by
 by_cases e:b.data_.who=0
 ·exact e
 ·exact absurd (h.oth _ (by rw[←h.conf];exact Yk h.p.i hd) e) (Z7p h.p.i hd)
theorem Alone.awho {c:GConf} {b:GBus} (h:Alone c b) (hd:b.addr.live=true):b.addr.who=0:=by
 by_cases e:b.addr.who=0
 ·exact e
 ·exact absurd (h.oth _ (by rw[←h.conf];exact X6 h.p.i hd) e) (Ygn h.p.i hd)
theorem Alone.dz {c:GConf} {b:GBus} (h:Alone c b):b.data_.who=0:=by
 by_cases hd:b.data_.live=true
 ·exact h.dwho hd
 ·have hD:=h.p.data
  unfold X2 at hD
  rw[if_neg hd] at hD
  rw[hD]
theorem Zz1 {b:GBus} {s:GScript} (hp:Z8 s b.now=[]):(Zi b s).m=b.m:=by
 have e:=Zun (Z4 (Z7 b (Z8 s b.now)))
 have e2:=Zvl (Z7 b (Z8 s b.now))
 unfold Zi
 rw[e.2.2.2.2.2.1,e2.2.2.2.2.2.1,hp]
 rfl
theorem Alone.qt {c:GConf} {b:GBus} (h:Alone c b) {s:GScript} (hp:Z8 s b.now=[]):qt (atI (Ze b s).1.m 0)=finT b.data_ (atI b.m 0):=by
 rw[Z1s h.p s h.m0,if_pos h.dz,Zz1 hp]
theorem Alone.grant {c:GConf} {b:GBus} (h:Alone c b) {s:GScript} (hs:∀p∈s.posts,p.req.lock=false) (ho:∀i,Za c i=true→i≠0→(atI (Zi b s).m i).queue=[]) (hr:rdyG b.data_=true):
  (Ze b s).1.addr.live=(decide ((atI (Ze b s).1.m 0).done+(if (Ze b s).1.data_.live=true then 1 else 0) < Zf (atI (Ze b s).1.m 0))&&decide (atI (Ze b s).1.splits 0=0)):=by
 have hP:=h.p
 have e:=Wo b s
 have hf:=Zu4 hP s
 have hd:=hf.2 hr
 have hfn:=Zjj (Zi b s) s
 have hN2:=Zx4 s (Zwg hP s) (Z3o hP h.nol hs)
 have hbr:Zs (Zc (Zi b s) s).1=(Zc (Zi b s) s).1:=by
  unfold Zs
  rw[if_neg (fun hx=>hx.1 (hN2.holder hf.1))]
 have hcc:(Zc (Zi b s) s).1.conf=b.conf:=by rw[hfn.2.2,e.2.1]
 have hoth:∀i,Za b.conf i=true→i≠0→(atI (Zc (Zi b s) s).1.m i).queue=[]:=by
  intro i hi hne
  have h1:=Yjx s (Zwg hP s) (i:=i) (by rw[e.2.1];exact hi)
  rw[e.2.2.2.2.2.2.1,h.dz,if_neg (fun h=>hne h.symm)] at h1
  have h2:(atI (Zc (Zi b s) s).1.m i).queue=(atI (Zi b s).m i).queue:=congrArg (·.1) h1
  rw[h2]
  exact ho i (by rw[←h.conf];exact hi) hne
 generalize hc:(Zc (Zi b s) s).1=c1 at*
 have hB:=Zjd hf.1 s hd
 have e2:=Zj5 c1 s
 have hm0:Za c1.conf 0=true:=by rw[hcc];exact h.m0
 have hm1:Za (Ya c1 s).conf 0=true:=by rw[e2.2.1];exact hm0
 have hg:=Yj8 hB.1 (by rw[hB.2]) (by rw[e2.2.2.2.2.2.2.1];exact hN2.holder hf.1) (fun i hi hne=>by
  rw[Z1o]
  exact hoth i (by rw[←hcc,←e2.2.1];exact hi) hne)
 have hgd:=Zjo hB.1
 have hsp:=(Z6i hf.1 s hd).splits
 have hq:=Z30 hf.1 s hd hm0
 have hfl:=hB.1.fly 0 hm1
 rw[Z1o] at hfl
 have hez:(Ya c1 s).addr.live=false:=by rw[hB.2]
 unfold flyG at hfl
 rw[if_neg (by rw[hez];simp)] at hfl
 have eb:Ze b s=({(Zm c1 s).2 with now:=b.now+1},(Ze b s).2):=by
  rw[Zjm,if_pos hr,hc]
 rw[eb]
 show (Zm c1 s).2.addr.live=(decide ((atI (Zm c1 s).2.m 0).done+(if (Zm c1 s).2.data_.live=true then 1 else 0) < Zf (atI (Zm c1 s).2.m 0))&&decide (atI (Zm c1 s).2.splits 0=0))
 have q1:(atI (Zm c1 s).2.m 0).queue=(atI c1.m 0).queue:=congrArg (·.1) hq
 have q2:(atI (Zm c1 s).2.m 0).done=(atI c1.m 0).done:=congrArg (·.2.1) hq
 have q3:Zf (atI (Zm c1 s).2.m 0)=Zf (atI c1.m 0):=by unfold Zf;rw[q1]
 have q4:(Zm c1 s).2.data_=(Ya c1 s).data_:=by
  unfold Zm
  rw[hbr];exact hgd.2.2.2.2.2
 rw[q2,q3,q4,hsp]
 have ea:(Zm c1 s).2.addr.live=Xq (Ya c1 s) 0:=by
  unfold Zm
  rw[hbr];exact hg
 rw[ea]
 unfold Xq Zgt
 rw[Z1o,e2.2.2.2.2.2.1,e2.2.2.2.2.2.2.1,hN2.holder hf.1]
 have hw:(Ya c1 s).data_.live=true→(Ya c1 s).data_.who=0:=by
  intro hl
  unfold Ya at hl ⊢
  by_cases hx:c1.addr.live=true
  ·rw[if_pos hx] at hl ⊢
   by_cases e5:c1.addr.who=0
   ·exact e5
   ·exact absurd (hoth _ (by rw[←hcc];exact X6 hf.1 hx) e5) (Ygn hf.1 hx)
  ·rw[if_neg hx,hd] at hl
   exact absurd hl (by decide)
 have hbeat:(atI c1.m 0).beat=(atI c1.m 0).done+(if (Ya c1 s).data_.live=true then 1 else 0):=by
  by_cases hl:(Ya c1 s).data_.live=true
  ·rw[if_pos ⟨hl,hw hl⟩] at hfl
   rw[if_pos hl];omega
  ·rw[if_neg (fun hx=>hl hx.1)] at hfl
   rw[if_neg hl];omega
 rw[hbeat]
 simp
theorem Yjz {b:GBus} (s:GScript):(Zc b s).1.model=if Yy b.data_=true∧b.data_.resp=0 then (doG b b.data_).1 else b.model:=by
 unfold Zc
 by_cases hd:b.data_.live=false
 ·have hE:¬(Yy b.data_=true∧b.data_.resp=0):=by simp[Yy,hd]
  rw[if_pos hd,if_neg hE]
 ·have hd2:b.data_.live=true:=by simpa using hd
  rw[if_neg hd]
  by_cases hl:b.data_.left > 0
  ·have hE:¬(Yy b.data_=true∧b.data_.resp=0):=by simp[Yy,Zwo hd2 (.inl hl)]
   rw[if_pos hl,if_neg hE]
  ·rw[if_neg hl]
   by_cases h2:b.data_.resp≠0∧b.data_.second=false
   ·have hE:¬(Yy b.data_=true∧b.data_.resp=0):=fun h=>h2.1 h.2
    rw[if_pos h2,if_neg hE]
    by_cases ha:b.addr.live=true
    ·rw[if_pos ha];exact (Za1 _ _).2.2.2.2
    ·rw[if_neg ha]
   ·have hr:=Ycm hl h2
    rw[if_neg h2]
    by_cases h3:b.data_.resp=2
    ·have hE:¬(Yy b.data_=true∧b.data_.resp=0):=fun h=>by omega
     rw[if_pos h3,if_neg hE];exact (Za1 _ _).2.2.2.2
    ·rw[if_neg h3]
     by_cases h4:b.data_.resp=3
     ·have hE:¬(Yy b.data_=true∧b.data_.resp=0):=fun h=>by omega
      rw[if_pos h4,if_neg hE];exact (Za1 _ _).2.2.2.2
     ·have he:Yy b.data_=true:=by
       simp only[Yy,hd2,hr,decide_eq_true (show b.data_.resp≠2∧b.data_.resp≠3 from⟨h3,h4⟩)]
       rfl
      rw[if_neg h4]
      show (if b.data_.resp=0 then (doG {b with data_:=GBeat.z0} b.data_).1 else b.model)=_
      by_cases h0:b.data_.resp=0
      ·rw[if_pos h0,if_pos ⟨he,h0⟩];rfl
      ·rw[if_neg h0,if_neg (fun h=>h0 h.2)]
theorem Zyw {b:GBus} (hP:BusP b) (s:GScript):(Ze b s).1.model=if Yy b.data_=true∧b.data_.resp=0 then (doG (Zi b s) b.data_).1 else b.model:=by
 have e:=Wo b s
 have hf:=Zu4 hP s
 have h1:=Yjz (b:=Zi b s) s
 rw[e.2.2.2.2.2.2.1,e.2.2.2.2.1] at h1
 rw[←h1,Zjm]
 by_cases hr:rdyG b.data_=true
 ·rw[if_pos hr]
  exact (Zyg hf.1 s (hf.2 hr)).2.2.2.2.2.2
 ·rw[if_neg hr]
theorem Yga {b:GBus} {s:GScript} (hp:Z8 s b.now=[]) (x:GBeat):doG (Zi b s) x=doG b x:=by
 have e:=Wo b s
 unfold doG
 rw[Zz1 hp,e.2.2.2.2.1]
section
variable {c:GConf} {b:GBus} {s:GScript}
theorem Zgd {d:GBeat} (h:Yy d=true):d.live=true∧rdyG d=true∧d.resp≠2∧d.resp≠3:=by
 simpa [Yy,Bool.and_eq_true,and_assoc] using h
theorem Alone.step (h:Alone c b) (hp:Z8 s b.now=[]) (hs:∀p∈s.posts,p.req.lock=false) (hn:b.now < 4000):Alone c (Ze b s).1:=by
 have h1:=Zg2 h.p s hn
 refine⟨h1.1,by rw[h1.2.2,h.conf],Ybo h.p h.nol hs,fun i hi hne=>?_,fun hl hr=>?_⟩
 ·have h2:=Z1s h.p s (i:=i) (by rw[h.conf];exact hi)
  rw[if_neg (by rw[h.dz];exact fun h=>hne h.symm),Zz1 hp] at h2
  have h3:(atI (Ze b s).1.m i).queue=(atI b.m i).queue:=congrArg (·.1) h2
  rw[h3]
  exact h.oth i hi hne
 ·by_cases hrd:rdyG b.data_=true
  ·obtain⟨p1,p2,-⟩:=Zvn h.p s hrd
   by_cases ha:b.addr.live=true
   ·have hb:=Z0t h.p h.nol hs hrd ha
    have q:=p1 ha
    by_cases h0:Zp (Zn (atI (Ze b s).1.m b.addr.who) b.addr.beat)=0
    ·rw[if_pos h0] at hb
     rw[hb.1]
     unfold doG
     rw[q.2.1,q.2.2.1]
     exact Ynb h0
    ·rw[if_neg h0] at hb
     rcases hb.2 with h2|h2|h2
     ·omega
     ·omega
     ·exact h2.symm
   ·rw[p2 (by simpa using ha)] at hl
    exact absurd hl (by decide)
  ·have hrd:rdyG b.data_=false:=by simpa using hrd
   obtain⟨q1,q2,q3,q4,q5,q6⟩:=Z4j h.p s hrd
   have hm:=Zyw h.p s
   rw[if_neg (by simp[Yy,hrd])] at hm
   have hq:=h.qt hp
   rw[Zsv (by simp[hrd])] at hq
   have e1:(atI (Ze b s).1.m 0).queue=(atI b.m 0).queue:=congrArg (·.1) hq
   have ed:doG (Ze b s).1 (Ze b s).1.data_=doG b b.data_:=by
    unfold doG Zbf
    rw[q3,q4,hm,h.dz,e1,Z1i e1]
   rw[ed,q5]
   exact h.dat q1 (by rw[←q5];exact hr)
theorem Alone.beat (h:Alone c b) (hd:b.data_.live=true):b.data_.beat=(atI b.m 0).done∧(0≤b.data_.left∧b.data_.left≤b.conf.maxWait+2)∧(0≤b.data_.resp∧b.data_.resp≤3)∧(b.data_.resp=3→(atI b.m 0).parted=false)∧(b.data_.resp=2→(atI b.m 0).tries < b.conf.maxRetry)∧(b.data_.second=true→b.data_.left=0∧b.data_.resp≠0∧b.addr.live=false)∧(atI b.m 0).queue≠[]∧atI b.splits 0=0:=by
 have hD:=h.p.data
 unfold X2 at hD
 rw[if_pos hd,h.dwho hd] at hD
 have hq:=Z7p h.p.i hd
 rw[h.dwho hd] at hq
 have hl:=(h.p.dlive hd).2.2
 rw[h.dwho hd] at hl
 exact⟨hD.1.1,hD.1.2.1,hD.1.2.2,fun e=>(hD.2.2.1 e).1,hD.2.1,hD.2.2.2,hq,hl⟩
theorem Alone.right (h:Alone c b):RightP (atI b.m 0):=(h.p.mst 0 h.m0).right
theorem Alone.head (h:Alone c b) (hd:b.data_.live=true):
  Zn (atI b.m 0) b.data_.beat=(Zpn (atI (atI b.m 0).queue 0) (atI b.m 0).done.toNat).addr∧
  doG b b.data_=X7 b.model (Zpn (atI (atI b.m 0).queue 0) (atI b.m 0).done.toNat).write (Zpn (atI (atI b.m 0).queue 0) (atI b.m 0).done.toNat).addr (Zpn (atI (atI b.m 0).queue 0) (atI b.m 0).done.toNat).size (Zpn (atI (atI b.m 0).queue 0) (atI b.m 0).done.toNat).value:=by
 have hb:=h.beat hd
 have hs:=h.right.some hb.2.2.2.2.2.2.1
 have hnn:(((atI b.m 0).done.toNat:Nat):Int)=(atI b.m 0).done:=by omega
 have e1:Zn (atI b.m 0) b.data_.beat=(Zpn (atI (atI b.m 0).queue 0) (atI b.m 0).done.toNat).addr:=by
  show _=atI (Qi _ _ _) (((atI b.m 0).done.toNat:Nat):Int)
  rw[hb.1,hnn]
  unfold Zn
  rw[if_pos (by omega)]
 refine⟨e1,?_⟩
 unfold doG Zbf
 rw[h.dwho hd,e1,hb.1]
 show _=X7 b.model (atI (atI b.m 0).queue 0).write _ (atI (atI b.m 0).queue 0).size (if (atI (atI b.m 0).queue 0).write=true then atI (atI (atI b.m 0).queue 0).data_ (((atI b.m 0).done.toNat:Nat):Int) else 0)
 rw[hnn]
def InvL (R:Int→Int→Prop) (ps:List (GDone×Bool)) (b:GBus):Prop:=
 ∃pre,ps=pre++Zuj (atI b.m 0).queue (atI b.m 0).done∧exP Zws pre b.log b.model∧tmP R 0 false pre b.log
def Qq (b:GBus):Int:=Z5x 0 b.log+gapF (Z4m false b.log) (decide ((atI b.m 0).done=0))
theorem InvL.step {R:Int→Int→Prop} {ps:List (GDone×Bool)} (h:Alone c b) (hp:Z8 s b.now=[]) (hI:InvL R ps b)
  (hend:Yy b.data_=true→R b.now (Qq b+devC (Zn (atI b.m 0) b.data_.beat)+b.data_.resp)):InvL R ps (Ze b s).1:=by
 obtain⟨pre,h1,h2,h3⟩:=hI
 have hq:=h.qt hp
 have hlog:=Zti h.p s
 have hm:=Zyw h.p s
 have e:=Wo b s
 by_cases he:Yy b.data_=true
 ·obtain⟨hd,hr,n2,n3⟩:=Zgd he
  have hb:=h.beat hd
  have hh:=h.head hd
  have hr1:b.data_.resp≤1:=by omega
  have hdat:=h.dat hd hr1
  have hnx:=Zxd h.right hb.2.2.2.2.2.2.1
  rw[if_pos he] at hlog
  have q1:(atI (Ze b s).1.m 0).queue=(Zca (atI b.m 0)).1:=by
   have:=congrArg (·.1) hq
   unfold finT at this
   rw[if_pos he] at this
   exact this
  have q2:(atI (Ze b s).1.m 0).done=(Zca (atI b.m 0)).2:=by
   have:=congrArg (·.2.1) hq
   unfold finT at this
   rw[if_pos he] at this
   exact this
  have hresp:b.data_.resp=Z4l b.model (Zpn (atI (atI b.m 0).queue 0) (atI b.m 0).done.toNat):=by
   rw[←hdat,hh.2];rfl
  have hmod:(Ze b s).1.model=Yac b.model (Zpn (atI (atI b.m 0).queue 0) (atI b.m 0).done.toNat):=by
   rw[hm]
   unfold Yac
   rw[←hresp]
   by_cases h0:b.data_.resp=0
   ·rw[if_pos ⟨he,h0⟩,if_pos h0,Yga hp,hh.2]
   ·rw[if_neg (fun hx=>h0 hx.2),if_neg h0]
  have d1:(Zhe {Zi b s with data_:=GBeat.z0} b.data_).addr=Zn (atI b.m 0) b.data_.beat:=by
   show Zn (atI (Zi b s).m b.data_.who) b.data_.beat=_
   rw[Zz1 hp,h.dz]
  have d3:(Zhe {Zi b s with data_:=GBeat.z0} b.data_).value=valM b.model (Zpn (atI (atI b.m 0).queue 0) (atI b.m 0).done.toNat):=by
   show (if b.data_.resp=0 then (doG {Zi b s with data_:=GBeat.z0} b.data_).2.1 else 0)=_
   have e5:doG {Zi b s with data_:=GBeat.z0} b.data_=doG (Zi b s) b.data_:=rfl
   rw[e5,Yga hp,hh.2]
   unfold valM
   rw[←hresp]
  have dc:(Zhe {Zi b s with data_:=GBeat.z0} b.data_).cycle=b.now:=e.1
  refine⟨pre++[Z1n (atI (atI b.m 0).queue 0) (atI b.m 0).done.toNat],?_,?_,?_⟩
  ·rw[h1,hnx,q1,q2];simp
  ·rw[hlog,hmod]
   exact Ymf h2 (by rw[d1];exact hh.1) hresp d3
  ·rw[hlog]
   refine Ynw (Yol h2) h3 ?_
   rw[dc,d1]
   have:=hend he
   unfold Qq at this
   have hs:=h.right.some hb.2.2.2.2.2.2.1
   have ef:(Z1n (atI (atI b.m 0).queue 0) (atI b.m 0).done.toNat).2=decide ((atI b.m 0).done=0):=by
    show decide ((atI b.m 0).done.toNat=0)=_
    congr 1
    exact propext ⟨fun h=>by omega,fun h=>by omega⟩
   rw[ef]
   exact this
 ·rw[if_neg he] at hlog
  rw[if_neg (fun hx=>he hx.1)] at hm
  have q1:(atI (Ze b s).1.m 0).queue=(atI b.m 0).queue:=by
   have:=congrArg (·.1) hq
   unfold finT at this
   rw[if_neg he] at this
   rw[show (atI (Ze b s).1.m 0).queue=(qt (atI (Ze b s).1.m 0)).1 from rfl,hq]
   unfold finT
   rw[if_neg he]
   repeat' split
   all_goals rfl
  have q2:(atI (Ze b s).1.m 0).done=(atI b.m 0).done:=by
   rw[show (atI (Ze b s).1.m 0).done=(qt (atI (Ze b s).1.m 0)).2.1 from rfl,hq]
   unfold finT
   rw[if_neg he]
   repeat' split
   all_goals rfl
  refine⟨pre,by rw[q1,q2];exact h1,by rw[hlog,hm];exact h2,by rw[hlog];exact h3⟩
end
section
variable {c:GConf} {b:GBus} {s:GScript}
structure Waits (b c:GBus):Prop where
 live:b.data_.live=true∧c.data_.live=true
 same:c.data_.beat=b.data_.beat∧c.data_.resp=b.data_.resp
 q:qt (atI c.m 0)=qt (atI b.m 0)
 log:c.log=b.log
 how:(b.data_.left > 0∧c.addr=b.addr∧c.data_.left=b.data_.left - 1∧c.data_.second=b.data_.second)∨(b.data_.left≤0∧b.data_.resp≠0∧b.data_.second=false∧c.addr.live=false∧c.data_.left=b.data_.left∧c.data_.second=true)
theorem Alone.waits (h:Alone c b) (hp:Z8 s b.now=[]) (hr:rdyG b.data_=false):Waits b (Ze b s).1:=by
 obtain⟨q1,q2,q3,q4,q5,q6⟩:=Z4j h.p s hr
 have hq:=h.qt hp
 rw[Zsv (by simp[hr])] at hq
 have hlog:=Zti h.p s
 rw[if_neg (by simp[Yy,hr])] at hlog
 exact⟨⟨q1,q2⟩,⟨q4,q5⟩,hq,hlog,q6⟩
structure Begins (b c:GBus) (s:GScript):Prop where
 live:c.data_.live=b.addr.live
 second:c.data_.live=true→c.data_.second=false
 left:c.data_.live=true→devC (Zn (atI c.m 0) c.data_.beat)≤c.data_.left
 swift:s.waits=[]→s.says=[]→c.data_.live=true→c.data_.left=devC (Zn (atI c.m 0) c.data_.beat)∧c.data_.resp≤1
 grant:c.addr.live=(decide ((atI c.m 0).done+(if c.data_.live=true then 1 else 0) < Zf (atI c.m 0))&&decide (atI c.splits 0=0))
theorem wait_0 {k:Int} (hc:Zz c=true) (hw:s.waits=[]):Zae c s k=0:=by
 have:=(Ym hc).2.1
 unfold Zae Zb9
 rw[if_pos (.inl hw)]
 omega
theorem said_0 {k:Int} (hw:s.says=[]):Kq s k=0:=by
 have:Zb9 s.says k=0:=by
  unfold Zb9
  rw[if_pos (.inl hw)]
 unfold Kq
 rw[this]
 rfl
theorem do_le (m:GModel) (w:Bool) (a z v:Int):(X7 m w a z v).2.2≤1:=by
 unfold X7
 repeat' split
 all_goals simp
theorem Alone.begins (h:Alone c b) (hp:Z8 s b.now=[]) (hs:∀p∈s.posts,p.req.lock=false) (hr:rdyG b.data_=true):Begins b (Ze b s).1 s:=by
 obtain⟨p1,p2,-⟩:=Zvn h.p s hr
 have hg:=h.grant hs (fun i hi hne=>by rw[Zz1 hp];exact h.oth i hi hne) hr
 have hlive:(Ze b s).1.data_.live=b.addr.live:=by
  cases ha:b.addr.live with
  | true=>exact (p1 ha).1
  | false=>exact p2 ha
 refine⟨hlive,fun hl=>?_,fun hl=>?_,fun hw hsy hl=>?_,hg⟩
 ·rw[hlive] at hl
  exact (p1 hl).2.2.2
 ·rw[hlive] at hl
  have q:=p1 hl
  have hb:=Z0t h.p h.nol hs hr hl
  have hwt:=Z1q h.p.conf s b.picks
  rw[h.awho hl] at hb
  rw[q.2.2.1]
  unfold devC
  by_cases h0:Zp (Zn (atI (Ze b s).1.m 0) b.addr.beat)=0
  ·rw[if_pos h0] at hb
   rw[if_neg (by omega),hb.2]
   exact Int.le_refl 0
  ·rw[if_neg h0] at hb
   rw[hb.1]
   split<;>omega
 ·rw[hlive] at hl
  have q:=p1 hl
  have hb:=Z0t h.p h.nol hs hr hl
  rw[h.awho hl] at hb
  rw[q.2.2.1]
  unfold devC
  by_cases h0:Zp (Zn (atI (Ze b s).1.m 0) b.addr.beat)=0
  ·rw[if_pos h0] at hb
   rw[if_neg (by omega),hb.1,hb.2]
   exact⟨rfl,Int.le_refl 1⟩
  ·rw[if_neg h0,wait_0 h.p.conf hw,said_0 hsy] at hb
   refine⟨by rw[hb.1];split<;>rfl,?_⟩
   rcases hb.2 with h2|h2|h2
   ·omega
   ·omega
   ·rw[h2]
    exact do_le _ _ _ _ _
theorem Alone.ends (h:Alone c b) (hp:Z8 s b.now=[]) (he:Yy b.data_=true):b.data_.left=0∧(b.data_.resp=0∨(b.data_.resp=1∧b.data_.second=true∧b.addr.live=false))∧
  Z5x 0 (Ze b s).1.log=b.now∧Z4m false (Ze b s).1.log=decide (b.data_.resp=1)∧Ev.qt (atI (Ze b s).1.m 0)=((Zca (atI b.m 0)).1,(Zca (atI b.m 0)).2,0,false):=by
 obtain⟨hd,hr,n2,n3⟩:=Zgd he
 have hb:=h.beat hd
 have hrp:=Z07 hr hd
 have hlog:=Zti h.p s
 rw[if_pos he] at hlog
 have hq:=h.qt hp
 unfold finT at hq
 rw[if_pos he] at hq
 have e:=Wo b s
 have dc:(Zhe {Zi b s with data_:=GBeat.z0} b.data_).cycle=b.now:=e.1
 refine⟨by omega,?_,by rw[hlog,Yhs,dc],by rw[hlog,Yhh];rfl,hq⟩
 by_cases h0:b.data_.resp=0
 ·exact .inl h0
 ·have hsec:b.data_.second=true:=by simpa using fun hx=>hrp.2 ⟨h0,hx⟩
  exact .inr ⟨by omega,hsec,(hb.2.2.2.2.2.1 hsec).2.2⟩
theorem Alone.again (h:Alone c b) (hp:Z8 s b.now=[]) (he:¬Yy b.data_=true):(atI (Ze b s).1.m 0).queue=(atI b.m 0).queue∧(atI (Ze b s).1.m 0).done=(atI b.m 0).done∧(Ze b s).1.log=b.log:=by
 have hq:=h.qt hp
 have hlog:=Zti h.p s
 rw[if_neg he] at hlog
 refine⟨?_,?_,hlog⟩
 ·rw[show (atI (Ze b s).1.m 0).queue=(Ev.qt (atI (Ze b s).1.m 0)).1 from rfl,hq]
  unfold finT
  rw[if_neg he]
  repeat' split
  all_goals rfl
 ·rw[show (atI (Ze b s).1.m 0).done=(Ev.qt (atI (Ze b s).1.m 0)).2.1 from rfl,hq]
  unfold finT
  rw[if_neg he]
  repeat' split
  all_goals rfl
theorem Zrp {b':GBus} (h1:b'.log=b.log) (h2:(atI b'.m 0).done=(atI b.m 0).done):Qq b'=Qq b:=by
 unfold Qq;rw[h1,h2]
theorem Yjn (x y:Bool):1≤gapF x y∧gapF x y≤2:=by cases x<;>cases y<;>decide
def Z4s (b:GBus):Prop:=(atI b.m 0).queue≠[]→
 if b.data_.live=true∧b.data_.resp≤1 then Qq b+devC (Zn (atI b.m 0) b.data_.beat)≤b.now+b.data_.left - (if b.data_.resp=1∧b.data_.second=true then 1 else 0) else Qq b≤b.now+1
theorem Yne (h:Alone c b) (hp:Z8 s b.now=[]) (hI:Z4s b) (he:Yy b.data_=true):b.now≥Qq b+devC (Zn (atI b.m 0) b.data_.beat)+b.data_.resp:=by
 obtain⟨hd,hr,n2,n3⟩:=Zgd he
 have hb:=h.beat hd
 have he2:=h.ends hp he
 have:=hI hb.2.2.2.2.2.2.1
 rw[if_pos ⟨hd,by omega⟩] at this
 rcases he2.2.1 with h0|h0
 ·rw[if_neg (by omega)] at this;omega
 ·rw[if_pos ⟨h0.1,h0.2.1⟩] at this;omega
theorem Yj7 (h:Alone c b) (hp:Z8 s b.now=[]) (hs:∀p∈s.posts,p.req.lock=false) (hn:b.now < 4000) (hI:Z4s b):Z4s (Ze b s).1:=by
 have hst:=Zg2 h.p s hn
 have h':=h.step hp hs hn
 intro hq'
 rw[hst.2.1]
 by_cases hr:rdyG b.data_=true
 ·have hB:=h.begins hp hs hr
  by_cases he:Yy b.data_=true
  ·obtain⟨hd,-,n2,n3⟩:=Zgd he
   have hb:=h.beat hd
   have hE:=h.ends hp he
   have hK:Qq (Ze b s).1=b.now+gapF (decide (b.data_.resp=1)) (decide ((atI (Ze b s).1.m 0).done=0)):=by
    unfold Qq
    rw[hE.2.2.1,hE.2.2.2.1]
   have hg:=Yjn (decide (b.data_.resp=1)) (decide ((atI (Ze b s).1.m 0).done=0))
   rw[hK]
   by_cases hl:(Ze b s).1.data_.live=true∧(Ze b s).1.data_.resp≤1
   ·rw[if_pos hl,if_neg (by rw[hB.second hl.1];simp)]
    have hle:=hB.left hl.1
    have ha:b.addr.live=true:=by rw[←hB.live];exact hl.1
    have h0:b.data_.resp=0:=by
     rcases hE.2.1 with h0|h0
     ·exact h0
     ·rw[h0.2.2] at ha;cases ha
    have hdone:(atI (Ze b s).1.m 0).done≠0:=by
     have hq2:(atI (Ze b s).1.m 0).done=(Zca (atI b.m 0)).2:=congrArg (·.2.1) hE.2.2.2.2
     have hA:=h.p.addr
     unfold Wc at hA
     rw[if_pos ha,h.awho ha] at hA
     have hab:=Zp2 h.p.i ha
     rw[h.awho ha] at hab
     have hf:=h.p.fly 0 h.m0
     unfold flyG at hf
     rw[if_pos ⟨ha,h.awho ha⟩,if_pos ⟨hd,h.dwho hd⟩] at hf
     have hs2:=h.right.some hb.2.2.2.2.2.2.1
     rw[hq2]
     unfold Zca
     rw[if_neg (by omega)]
     show (atI b.m 0).done+1≠0
     omega
    have:gapF (decide (b.data_.resp=1)) (decide ((atI (Ze b s).1.m 0).done=0))=1:=by
     unfold gapF
     simp[h0,hdone]
    omega
   ·rw[if_neg hl];omega
  ·have hA:=h.again hp he
   rw[Zrp hA.2.2 hA.2.1]
   have hq:(atI b.m 0).queue≠[]:=by rw[←hA.1];exact hq'
   have hold:=hI hq
   have hK:Qq b≤b.now+1:=by
    by_cases hl:b.data_.live=true∧b.data_.resp≤1
    ·exfalso
     apply he
     unfold Yy
     have hb:=h.beat hl.1
     simp[hl.1,hr];omega
    ·rw[if_neg hl] at hold;exact hold
   by_cases hl:(Ze b s).1.data_.live=true∧(Ze b s).1.data_.resp≤1
   ·rw[if_pos hl,if_neg (by rw[hB.second hl.1];simp)]
    have hle:=hB.left hl.1
    omega
   ·rw[if_neg hl];omega
 ·have hr:rdyG b.data_=false:=by simpa using hr
  have hW:=h.waits hp hr
  have e1:(atI (Ze b s).1.m 0).queue=(atI b.m 0).queue:=congrArg (·.1) hW.q
  have e2:(atI (Ze b s).1.m 0).done=(atI b.m 0).done:=congrArg (·.2.1) hW.q
  rw[e1] at hq'
  have hold:=hI hq'
  have hb:=h.beat hW.live.1
  rw[Zrp hW.log e2,hW.same.1,hW.same.2,Z1i e1]
  by_cases hl:b.data_.resp≤1
  ·rw[if_pos ⟨hW.live.1,hl⟩] at hold
   rw[if_pos ⟨hW.live.2,hl⟩]
   rcases hW.how with hh|hh
   ·rw[hh.2.2.1,hh.2.2.2];omega
   ·rw[if_neg (by simp[hh.2.2.1])] at hold
    rw[hh.2.2.2.2.1,if_pos ⟨by omega,hh.2.2.2.2.2⟩];omega
  ·rw[if_neg (fun hx=>hl hx.2)] at hold ⊢
   omega
structure FastI (b:GBus):Prop where
 split:atI b.splits 0=0
 some:(atI b.m 0).queue≠[]→b.addr.live=true∨b.data_.live=true
 data:b.data_.live=true→b.data_.resp≤1∧b.now+b.data_.left - (if b.data_.resp=1∧b.data_.second=true then 1 else 0)≤Qq b+devC (Zn (atI b.m 0) b.data_.beat)
 addr:(atI b.m 0).queue≠[]→b.data_.live=false→b.now+1≤Qq b
 next:b.data_.live=true→b.data_.resp=0→(atI b.m 0).done+1 < Zf (atI b.m 0)→b.addr.live=true
theorem Yml (h:Alone c b) (hp:Z8 s b.now=[]) (hI:FastI b) (he:Yy b.data_=true):b.now≤Qq b+devC (Zn (atI b.m 0) b.data_.beat)+b.data_.resp:=by
 obtain⟨hd,hr,n2,n3⟩:=Zgd he
 have he2:=h.ends hp he
 have:=(hI.data hd).2
 rcases he2.2.1 with h0|h0
 ·rw[if_neg (by omega)] at this;omega
 ·rw[if_pos ⟨h0.1,h0.2.1⟩] at this;omega
theorem Ykv (h:Alone c b) (hp:Z8 s b.now=[]) (hs:∀p∈s.posts,p.req.lock=false) (hw:s.waits=[]) (hy:s.says=[]) (hn:b.now < 4000) (hI:FastI b):FastI (Ze b s).1:=by
 have hst:=Zg2 h.p s hn
 have h':=h.step hp hs hn
 have hsp:atI (Ze b s).1.splits 0=0:=by
  rw[Zpt h.p s h.m0,if_neg (fun hx=>?_),hI.split]
  ·rfl
  ·have hd:b.data_.live=true:=by
    have:=hx.1.1
    rw[Bool.and_eq_true] at this
    exact this.1
   have:=(hI.data hd).1
   omega
 by_cases hr:rdyG b.data_=true
 ·have hB:=h.begins hp hs hr
  have hgr:=hB.grant
  rw[hsp] at hgr
  have hnext:(Ze b s).1.data_.live=true→(atI (Ze b s).1.m 0).done+1 < Zf (atI (Ze b s).1.m 0)→(Ze b s).1.addr.live=true:=by
   intro hl hlt
   rw[hgr,if_pos hl]
   simpa using hlt
  have hsome:(atI (Ze b s).1.m 0).queue≠[]→(Ze b s).1.addr.live=true∨(Ze b s).1.data_.live=true:=by
   intro hq
   by_cases hl:(Ze b s).1.data_.live=true
   ·exact .inr hl
   ·refine .inl ?_
    have:=h'.right.some hq
    rw[hgr,if_neg hl]
    simp;omega
  have hK:(atI (Ze b s).1.m 0).queue≠[]→b.now+1≤Qq (Ze b s).1∧((Ze b s).1.data_.live=false→b.now+2≤Qq (Ze b s).1):=by
   intro hq
   by_cases he:Yy b.data_=true
   ·obtain⟨hd,-,n2,n3⟩:=Zgd he
    have hb:=h.beat hd
    have hE:=h.ends hp he
    have hKe:Qq (Ze b s).1=b.now+gapF (decide (b.data_.resp=1)) (decide ((atI (Ze b s).1.m 0).done=0)):=by
     unfold Qq
     rw[hE.2.2.1,hE.2.2.2.1]
    have hg:=Yjn (decide (b.data_.resp=1)) (decide ((atI (Ze b s).1.m 0).done=0))
    rw[hKe]
    refine⟨by omega,fun hdl=>?_⟩
    rcases hE.2.1 with h0|h0
    ·have hal:b.addr.live=false:=by rw[←hB.live];exact hdl
     have hlast:¬(atI b.m 0).done+1 < Zf (atI b.m 0):=fun hlt=>by
      rw[hI.next hd h0 hlt] at hal;cases hal
     have hs2:=h.right.some hb.2.2.2.2.2.2.1
     have hq2:(atI (Ze b s).1.m 0).done=(Zca (atI b.m 0)).2:=congrArg (·.2.1) hE.2.2.2.2
     have hz:(atI (Ze b s).1.m 0).done=0:=by
      rw[hq2]
      unfold Zca
      rw[if_pos (by omega)]
     have:gapF (decide (b.data_.resp=1)) (decide ((atI (Ze b s).1.m 0).done=0))=2:=by
      unfold gapF
      simp[hz]
     omega
    ·have:gapF (decide (b.data_.resp=1)) (decide ((atI (Ze b s).1.m 0).done=0))=2:=by
      unfold gapF
      simp[h0.1]
     omega
   ·have hA:=h.again hp he
    rw[Zrp hA.2.2 hA.2.1]
    have hq2:(atI b.m 0).queue≠[]:=by rw[←hA.1];exact hq
    have hdd:b.data_.live=false:=by
     cases hd:b.data_.live with
     | false=>rfl
     | true=>
      exfalso
      apply he
      have:=(hI.data hd).1
      unfold Yy
      simp[hd,hr];omega
    have:=hI.addr hq2 hdd
    refine⟨this,fun hdl=>?_⟩
    exfalso
    rcases hI.some hq2 with h1|h1
    ·rw[hB.live,h1] at hdl;cases hdl
    ·rw[hdd] at h1;cases h1
  refine⟨hsp,hsome,fun hl=>?_,fun hq hdl=>?_,fun hl _ hlt=>hnext hl hlt⟩
  ·have hsw:=hB.swift hw hy hl
   have hq:=(h'.beat hl).2.2.2.2.2.2.1
   refine⟨hsw.2,?_⟩
   rw[if_neg (by rw[hB.second hl];simp),hsw.1,hst.2.1]
   have:=(hK hq).1
   omega
  ·rw[hst.2.1]
   have:=(hK hq).2 hdl
   omega
 ·have hr:rdyG b.data_=false:=by simpa using hr
  have hW:=h.waits hp hr
  have e1:(atI (Ze b s).1.m 0).queue=(atI b.m 0).queue:=congrArg (·.1) hW.q
  have e2:(atI (Ze b s).1.m 0).done=(atI b.m 0).done:=congrArg (·.2.1) hW.q
  have hb:=h.beat hW.live.1
  have hold:=hI.data hW.live.1
  refine⟨hsp,fun _=>.inr hW.live.2,fun _=>?_,fun _ hdl=>(by rw[hW.live.2] at hdl;cases hdl),fun _ h0 hlt=>?_⟩
  ·rw[hW.same.2,Zrp hW.log e2,hW.same.1,Z1i e1,hst.2.1]
   refine⟨hold.1,?_⟩
   rcases hW.how with hh|hh
   ·rw[hh.2.2.1,hh.2.2.2];omega
   ·have:=hold.2
    rw[if_neg (by simp[hh.2.2.1])] at this
    rw[hh.2.2.2.2.1,if_pos ⟨by omega,hh.2.2.2.2.2⟩];omega
  ·rw[hW.same.2] at h0
   have hlt2:(atI b.m 0).done+1 < Zf (atI b.m 0):=by
    rw[e2] at hlt
    have:Zf (atI (Ze b s).1.m 0)=Zf (atI b.m 0):=by unfold Zf;rw[e1]
    rw[this] at hlt
    exact hlt
   rcases hW.how with hh|hh
   ·rw[hh.2.1];exact hI.next hW.live.1 h0 hlt2
   ·exact absurd h0 hh.2.1
end
section
variable {c:GConf} {b:GBus} {s:GScript}
def Wn (b:GBus):Int:=(b.conf.maxRetry - (atI b.m 0).tries)*8+(if (atI b.m 0).parted=true then 0 else 21)
def Zb2 (b:GBus):Int:=if b.data_.live=true then b.data_.left+2 - (if b.data_.second=true then 1 else 0)+Wn b else if b.addr.live=true then 8+Wn b else atI b.splits 0+9+Wn b
def spent (b:GBus):Prop:=(atI b.m 0).queue≠[]→b.now+(((Zuj (atI b.m 0).queue (atI b.m 0).done).length:Int) - 1)*54+Zb2 b≤1729
theorem Zsc (h:Alone c b):0≤Wn b∧Wn b≤45:=by
 have h1:=(h.p.mst 0 h.m0).tries
 have h2:=h.right.tries
 have h3:=Ym h.p.conf
 unfold Wn
 split<;>omega
theorem Z8x (h:Alone c b) (hn:b.data_.live=true→0≤b.data_.left):1≤Zb2 b:=by
 have h1:=Zsc h
 have h2:=(h.p.mst 0 h.m0).split
 unfold Zb2
 split
 ·rename_i hd
  have:=hn hd
  split<;>omega
 ·split<;>omega
theorem Z4v {b':GBus} (h1:b'.conf=b.conf) (h2:(atI b'.m 0).tries=(atI b.m 0).tries) (h3:(atI b'.m 0).parted=(atI b.m 0).parted):Wn b'=Wn b:=by
 unfold Wn;rw[h1,h2,h3]
theorem Ymz (hc:Zz c=true) (s:GScript) (k:Int):1≤K4 c s k∧K4 c s k≤12:=by
 have:=Ym hc
 unfold K4
 omega
theorem Ynq (h:Alone c b) (hq:(atI b.m 0).queue≠[]):1≤(Zuj (atI b.m 0).queue (atI b.m 0).done).length:=by
 rw[Zxd h.right hq];simp
theorem Yi7 (h:Alone c b) (hp:Z8 s b.now=[]) (hs:∀p∈s.posts,p.req.lock=false) (hn:b.now < 4000) (he:¬Yy b.data_=true) (hq:(atI b.m 0).queue≠[]):Zb2 (Ze b s).1+1≤Zb2 b:=by
 have hst:=Zg2 h.p s hn
 have h':=h.step hp hs hn
 have hqt:=h.qt hp
 have hA:=h.again hp he
 have hsp:=Zpt h.p s h.m0
 have hcl:=Ym h.p.conf
 have hms:=h.p.mst 0 h.m0
 have ht:=Zsc h
 have ht':=Zsc h'
 by_cases hr:rdyG b.data_=true
 ·have hB:=h.begins hp hs hr
  have hwd:(Ze b s).1.data_.live=true→(Ze b s).1.data_.left≤5:=fun hl=>by
   have:=(h'.beat hl).2.1
   rw[hst.2.2] at this
   omega
  have hwant:(Ze b s).1.data_.live=false→atI (Ze b s).1.splits 0=0→(Ze b s).1.addr.live=true:=fun hdl h0=>by
   have hq':(atI (Ze b s).1.m 0).queue≠[]:=by rw[hA.1];exact hq
   have:=h'.right.some hq'
   rw[hB.grant,h0,if_neg (by rw[hdl];simp)]
   simp;omega
  by_cases hd:b.data_.live=true
  ·have hb:=h.beat hd
   have hrp:=Z07 hr hd
   have hr23:b.data_.resp=2∨b.data_.resp=3:=by
    by_cases e2:b.data_.resp=2
    ·exact .inl e2
    ·by_cases e3:b.data_.resp=3
     ·exact .inr e3
     ·exfalso
      apply he
      simp only[Yy,hd,hr,decide_eq_true (show b.data_.resp≠2∧b.data_.resp≠3 from⟨e2,e3⟩)]
      rfl
   have hsec:b.data_.second=true:=by simpa using fun hx=>hrp.2 ⟨by omega,hx⟩
   have hx:=hb.2.2.2.2.2.1 hsec
   have hdl:(Ze b s).1.data_.live=false:=by rw[hB.live];exact hx.2.2
   have hph:Zb2 b=1+Wn b:=by
    unfold Zb2
    rw[if_pos hd,if_pos hsec,hx.1];omega
   rw[hph]
   rcases hr23 with e|e
   ·
    have q3:(atI (Ze b s).1.m 0).tries=(atI b.m 0).tries+1:=by
     have:=congrArg (·.2.2.1) hqt
     unfold finT at this
     rw[if_neg he,if_pos ⟨by simp[hd,hr],e⟩] at this
     exact this
    have q4:(atI (Ze b s).1.m 0).parted=(atI b.m 0).parted:=by
     have:=congrArg (·.2.2.2) hqt
     unfold finT at this
     rw[if_neg he,if_pos ⟨by simp[hd,hr],e⟩] at this
     exact this
    have hs0:atI (Ze b s).1.splits 0=0:=by
     rw[hsp,if_neg (fun hx=>by have:=hx.1.2;omega),hb.2.2.2.2.2.2.2];rfl
    have hal:=hwant hdl hs0
    have htl:Wn (Ze b s).1=Wn b - 8:=by
     unfold Wn
     rw[hst.2.2,q3,q4];omega
    unfold Zb2
    rw[if_neg (by rw[hdl];simp),if_pos hal,htl];omega
   ·
    have q3:(atI (Ze b s).1.m 0).tries=(atI b.m 0).tries:=by
     have:=congrArg (·.2.2.1) hqt
     unfold finT at this
     rw[if_neg he,if_neg (fun hx=>by have:=hx.2;omega),if_pos ⟨by simp[hd,hr],e⟩] at this
     exact this
    have q4:(atI (Ze b s).1.m 0).parted=true:=by
     have:=congrArg (·.2.2.2) hqt
     unfold finT at this
     rw[if_neg he,if_neg (fun hx=>by have:=hx.2;omega),if_pos ⟨by simp[hd,hr],e⟩] at this
     exact this
    have hs0:atI (Ze b s).1.splits 0=K4 b.conf s b.picks:=by
     rw[hsp,if_pos ⟨⟨by simp[hd,hr],e⟩,h.dz⟩]
    have hsl:=Ymz h.p.conf s b.picks
    have hpa:=hb.2.2.2.1 e
    have htl:Wn (Ze b s).1=Wn b - 21:=by
     unfold Wn
     rw[hst.2.2,q3,q4,hpa];simp
    unfold Zb2
    rw[if_neg (by rw[hdl];simp),htl,hs0]
    split<;>omega
  ·have hqt2:qt (atI (Ze b s).1.m 0)=qt (atI b.m 0):=by rw[hqt,Zsv (by simp[hd])]
   have q3:(atI (Ze b s).1.m 0).tries=(atI b.m 0).tries:=congrArg (·.2.2.1) hqt2
   have q4:(atI (Ze b s).1.m 0).parted=(atI b.m 0).parted:=congrArg (·.2.2.2) hqt2
   have htl:=Z4v hst.2.2 q3 q4
   have hs0:atI (Ze b s).1.splits 0=max (atI b.splits 0 - 1) 0:=by
    rw[hsp,if_neg (fun hx=>hd (by have:=hx.1.1;rw[Bool.and_eq_true] at this;exact this.1))]
   unfold Zb2
   rw[if_neg hd,htl]
   by_cases ha:b.addr.live=true
   ·have hl:(Ze b s).1.data_.live=true:=by rw[hB.live];exact ha
    have:=hwd hl
    rw[if_pos hl,if_pos ha]
    split<;>omega
   ·have hdl:(Ze b s).1.data_.live=false:=by rw[hB.live];simpa using ha
    rw[if_neg ha,if_neg (by rw[hdl];simp)]
    by_cases hz:atI (Ze b s).1.splits 0=0
    ·rw[if_pos (hwant hdl hz)]
     have:=hms.split.1
     omega
    ·have:¬(Ze b s).1.addr.live=true:=by
      rw[hB.grant]
      simp[hz]
     rw[if_neg this,hs0]
     omega
 ·have hr:rdyG b.data_=false:=by simpa using hr
  have hW:=h.waits hp hr
  have q3:(atI (Ze b s).1.m 0).tries=(atI b.m 0).tries:=congrArg (·.2.2.1) hW.q
  have q4:(atI (Ze b s).1.m 0).parted=(atI b.m 0).parted:=congrArg (·.2.2.2) hW.q
  unfold Zb2
  rw[if_pos hW.live.1,if_pos hW.live.2,Z4v hst.2.2 q3 q4]
  rcases hW.how with hh|hh
  ·rw[hh.2.2.1,hh.2.2.2];omega
  ·rw[hh.2.2.2.2.1,hh.2.2.2.2.2,hh.2.2.1];simp;omega
theorem Yhc (h:Alone c b) (hp:Z8 s b.now=[]) (hs:∀p∈s.posts,p.req.lock=false) (hn:b.now < 4000) (hI:spent b):spent (Ze b s).1:=by
 have hst:=Zg2 h.p s hn
 have h':=h.step hp hs hn
 intro hq'
 rw[hst.2.1]
 by_cases he:Yy b.data_=true
 ·obtain⟨hd,hr,n2,n3⟩:=Zgd he
  have hb:=h.beat hd
  have hE:=h.ends hp he
  have hold:=hI hb.2.2.2.2.2.2.1
  have hB:=h.begins hp hs hr
  have hcl:=Ym h.p.conf
  have hpp:=Z8x h (fun _=>hb.2.1.1)
  have e1:(atI (Ze b s).1.m 0).queue=(Zca (atI b.m 0)).1:=congrArg (·.1) hE.2.2.2.2
  have e2:(atI (Ze b s).1.m 0).done=(Zca (atI b.m 0)).2:=congrArg (·.2.1) hE.2.2.2.2
  rw[Zxd h.right hb.2.2.2.2.2.2.1,List.length_cons] at hold
  have ht':=Zsc h'
  have hs0:atI (Ze b s).1.splits 0=0:=by
   rw[Zpt h.p s h.m0,if_neg (fun hx=>n3 hx.1.2),hb.2.2.2.2.2.2.2];rfl
  have hph:Zb2 (Ze b s).1≤54:=by
   unfold Zb2
   split
   ·rename_i hl
    have:=(h'.beat hl).2.1
    rw[hst.2.2] at this
    split<;>omega
   ·split<;>omega
  rw[e1,e2]
  omega
 ·have hA:=h.again hp he
  rw[hA.1] at hq'
  have hold:=hI hq'
  have:=Yi7 h hp hs hn he hq'
  rw[hA.1,hA.2.1]
  omega
end
def Xc (rs:List GReq):List GPost:=rs.map fun r=>GPost.mk 0 0 r
theorem Yci {n:Int} (rs:List GReq):∀{b:GBus},BusI n b→Za b.conf 0=true→(∀r∈rs,reqG r=true)→(atI b.m 0).queue.length+rs.length≤4→∀i,Za b.conf i=true→atI (Z7 b (Xc rs)).m i=if i=0 then {atI b.m 0 with queue:=(atI b.m 0).queue++rs} else atI b.m i:=by
 induction rs with
 | nil=>
  intro b _ _ _ _ i _
  show atI b.m i=_
  split
  ·rename_i e;rw[e];simp
  ·rfl
 | cons r rs ih=>
  intro b hI hm hr hl i hi
  have hc:=Zzk b (GPost.mk 0 0 r)
  have e1:∀j,Za b.conf j=true→atI (Xr b (GPost.mk 0 0 r)).m j=if j=0 then {atI b.m 0 with queue:=(atI b.m 0).queue++[r]} else atI b.m j:=by
   intro j hj
   unfold Xr
   rw[if_pos hm]
   show atI (b.m.set (0:Int).toNat (X8 (atI b.m 0) r)) j=_
   rw[hI.at_m hm _ hj]
   split
   ·unfold X8
    rw[if_pos ⟨hr r (List.mem_cons_self ..),by simp at hl;omega⟩]
   ·rfl
  have:=ih (Zyb hI (p:=GPost.mk 0 0 r)) (by rw[hc.1];exact hm) (fun q hq=>hr q (List.mem_cons_of_mem _ hq)) (by rw[e1 0 hm,if_pos rfl];simp at hl ⊢;omega) i (by rw[hc.1];exact hi)
  show atI (Z7 (Xr b (GPost.mk 0 0 r)) (Xc rs)).m i=_
  rw[this,e1 0 hm,e1 i hi]
  by_cases e:i=0
  ·simp[e]
  ·simp[e]
structure OneS (rs:List GReq) (s:GScript):Prop where
 posts:s.posts=Xc rs
 reqs:∀r∈rs,reqG r=true∧r.lock=false
 len:rs.length≤4
section
variable {c:GConf} {s:GScript} {rs:List GReq}
theorem OneS.locks (h:OneS rs s):∀p∈s.posts,p.req.lock=false:=by
 intro p hp
 rw[h.posts] at hp
 obtain⟨r,hr,rfl⟩:=List.mem_map.1 hp
 exact (h.reqs r hr).2
theorem OneS.none (h:OneS rs s) {t:Int} (ht:1≤t):Z8 s t=[]:=by
 unfold Z8
 rw[h.posts,List.filter_eq_nil_iff]
 intro p hp
 obtain⟨r,hr,rfl⟩:=List.mem_map.1 hp
 simp;omega
theorem OneS.zero (h:OneS rs s):Z8 s 0=Xc rs:=by
 unfold Z8
 rw[h.posts,List.filter_eq_self]
 intro p hp
 obtain⟨r,hr,rfl⟩:=List.mem_map.1 hp
 rfl
theorem Yjr (hc:Zz c=true):Alone c (newG c):=
 ⟨Zqu hc,rfl,Ypi hc,fun i hi _=>(by rw[Zr2 c hi];try rfl),fun hx=>absurd hx (by simp[newG,GBus.z0,GBeat.z0])⟩
structure First (c:GConf) (rs:List GReq) (b:GBus):Prop where
 a:Alone c b
 now:b.now=1
 q:qt (atI b.m 0)=(rs,0,0,false)
 log:b.log=[]
 model:b.model=Zws
 split:atI b.splits 0=0
 data:b.data_.live=false
 addr:rs≠[]→b.addr.live=true
theorem Yfq (hc:Zz c=true) (h:OneS rs s):First c rs (Ze (newG c) s).1:=by
 have hP:=Zqu hc
 have hst:=Zg2 hP s (show (newG c).now < 4000 by show (0:Int) < 4000;omega)
 have hr:rdyG (newG c).data_=true:=rfl
 have hA:=Yjr hc
 have hm0:Za c 0=true:=hA.m0
 have hopen:∀i,Za c i=true→atI (Zi (newG c) s).m i=if i=0 then {GMst.z0 with queue:=rs} else GMst.z0:=by
  intro i hi
  have e:=Zun (Z4 (Z7 (newG c) (Z8 s (newG c).now)))
  have e2:=Zvl (Z7 (newG c) (Z8 s (newG c).now))
  have e3:(Zi (newG c) s).m=(Z7 (newG c) (Xc rs)).m:=by
   unfold Zi
   rw[e.2.2.2.2.2.1,e2.2.2.2.2.2.1,show (newG c).now=0 from rfl,h.zero]
  rw[e3,Yci rs hP.i hm0 (fun r hr=>(h.reqs r hr).1) (by rw[Zr2 c hm0];have:=h.len;simpa [GMst.z0] using this) i hi,Zr2 c hm0,Zr2 c hi]
  rfl
 have hdz:(newG c).data_.who=0:=rfl
 have hq:=Z1s hP s (i:=0) hm0
 rw[if_pos hdz,Zsv rfl,hopen 0 hm0,if_pos rfl] at hq
 have hoth:∀i,Za c i=true→i≠0→(atI (Ze (newG c) s).1.m i).queue=[]:=by
  intro i hi hne
  have h2:=Z1s hP s (i:=i) hi
  rw[if_neg (by rw[hdz];exact fun h=>hne h.symm),hopen i hi,if_neg hne] at h2
  exact congrArg (·.1) h2
 obtain⟨-,p2,-⟩:=Zvn hP s hr
 have hdl:=p2 rfl
 have hlog:=Zti hP s
 have hE0:Yy (newG c).data_=false:=rfl
 rw[if_neg (by rw[hE0];simp)] at hlog
 have hmod:=Zyw hP s
 rw[if_neg (by rw[hE0];simp)] at hmod
 have hsp:=Zpt hP s (i:=0) hm0
 have hsp0:atI (newG c).splits 0=0:=by
  have hb:=Ye hm0
  have hlen:0 < (newG c).splits.length:=by simp[newG];omega
  rw[show (0:Int)=((0:Nat):Int) from rfl,Xb hlen]
  simp[newG]
 have hL0:(newG c).data_.live=false:=rfl
 rw[if_neg (by rintro⟨⟨hx,-⟩,-⟩;rw[hL0] at hx;exact absurd hx (by simp)),hsp0] at hsp
 have hA1:Alone c (Ze (newG c) s).1:=⟨hst.1,hst.2.2,Ybo hP hA.nol h.locks,hoth,fun hx=>by rw[hdl] at hx;cases hx⟩
 refine⟨hA1,by rw[hst.2.1];rfl,hq,hlog,hmod,hsp,hdl,fun hne=>?_⟩
 have hg:=hA.grant h.locks (fun i hi hne=>(by rw[hopen i hi,if_neg hne];try rfl)) hr
 have q1:(atI (Ze (newG c) s).1.m 0).queue=rs:=congrArg (·.1) hq
 have q2:(atI (Ze (newG c) s).1.m 0).done=0:=congrArg (·.2.1) hq
 have hs:=hA1.right.some (by rw[q1];exact hne)
 rw[hg,hsp,if_neg (by rw[hdl];simp)]
 rw[q2] at hs ⊢
 simp;omega
theorem First.inv {b:GBus} (h:First c rs b) (R:Int→Int→Prop):InvL R (allP rs) b:=by
 have q1:(atI b.m 0).queue=rs:=congrArg (·.1) h.q
 have q2:(atI b.m 0).done=0:=congrArg (·.2.1) h.q
 refine⟨[],by rw[q1,q2];rfl,?_,trivial⟩
 rw[h.log,h.model]
 rfl
theorem First.early {b:GBus} (h:First c rs b):Qq b=2:=by
 have q2:(atI b.m 0).done=0:=congrArg (·.2.1) h.q
 unfold Qq
 rw[h.log,q2]
 rfl
theorem First.slow {b:GBus} (h:First c rs b):Z4s b:=by
 intro _
 rw[if_neg (by rw[h.data];simp),h.early,h.now]
 omega
theorem First.fast {b:GBus} (h:First c rs b):FastI b:=by
 have q1:(atI b.m 0).queue=rs:=congrArg (·.1) h.q
 refine⟨h.split,fun hq=>.inl (h.addr (by rw[←q1];exact hq)),fun hx=>(by rw[h.data] at hx;cases hx),fun _ _=>by rw[h.early,h.now];omega,fun hx=>(by rw[h.data] at hx;cases hx)⟩
theorem First.spent {b:GBus} (h:First c rs b) (hl:rs.length≤4):spent b:=by
 intro hq
 have q1:(atI b.m 0).queue=rs:=congrArg (·.1) h.q
 have q2:(atI b.m 0).done=0:=congrArg (·.2.1) h.q
 have ht:=Zsc h.a
 have ha:=h.addr (by rw[←q1];exact hq)
 have hlen:(Zuj rs 0).length≤32:=by
  have:=Ymx rs
  unfold Zuj
  rw[List.length_drop];omega
 have hph:Zb2 b=8+Wn b:=by
  unfold Zb2
  rw[if_neg (by rw[h.data];simp),if_pos ha]
 rw[q1,q2,h.now,hph]
 omega
theorem Ylr (R:Int→Int→Prop) (X:GBus→Prop) (hs:OneS rs s) (hstep:∀b,Alone c b→Z8 s b.now=[]→b.now < 4000→X b→X (Ze b s).1)
  (hend:∀b,Alone c b→Z8 s b.now=[]→X b→Yy b.data_=true→R b.now (Qq b+devC (Zn (atI b.m 0) b.data_.beat)+b.data_.resp)):
  ∀(f:Nat) {b:GBus},Alone c b→1≤b.now→InvL R (allP rs) b→X b→spent b→Alone c (outN s f b)∧InvL R (allP rs) (outN s f b)∧spent (outN s f b):=by
 intro f
 induction f with
 | zero=>intro b h1 _ h3 _ h5;exact⟨h1,h3,h5⟩
 | succ f ih=>
  intro b h1 h2 h3 h4 h5
  unfold outN
  split
  ·rename_i hg
   have hp:=hs.none h2
   have hst:=Zg2 h1.p s hg.1
   exact ih (h1.step hp hs.locks hg.1) (by rw[hst.2.1];omega) (InvL.step h1 hp h3 (hend b h1 hp h4)) (hstep b h1 hp hg.1 h4) (Yhc h1 hp hs.locks hg.1 h5)
  ·exact⟨h1,h3,h5⟩
theorem Ynd (hs:OneS rs s) (hne:rs≠[]):Zj9 s=0:=by
 unfold Zj9
 rw[hs.posts]
 have key:∀(l:List GReq),(Xc l).foldl (fun m p=>maxI m p.at_) 0=0:=by
  intro l
  induction l with
  | nil=>rfl
  | cons r l ih=>exact ih
 cases rs with
 | nil=>exact absurd rfl hne
 | cons r l=>exact key l
theorem Ygy (R:Int→Int→Prop) (X:GBus→Prop) (hc:Zz c=true) (hs:OneS rs s) (hX:∀b,First c rs b→X b) (hstep:∀b,Alone c b→Z8 s b.now=[]→b.now < 4000→X b→X (Ze b s).1)
  (hend:∀b,Alone c b→Z8 s b.now=[]→X b→Yy b.data_=true→R b.now (Qq b+devC (Zn (atI b.m 0) b.data_.beat)+b.data_.resp)):
  ∃m,exP Zws (allP rs) (outG (newG c) s).1.log m∧tmP R 0 false (allP rs) (outG (newG c) s).1.log:=by
 have hP:=Zqu hc
 have e:(outG (newG c) s).1=outN s 4000 (newG c):=by
  unfold outG
  rw[if_pos hP.ok]
  rfl
 have hO:=Ygt s 4000 hP rfl
 rw[e]
 by_cases hne:rs=[]
 ·have hq:Zdr (newG c)=true:=by
   unfold Zdr
   rw[List.all_eq_true]
   intro m hm
   have:m=GMst.z0:=by
    have:m∈List.replicate c.masters.length GMst.z0:=hm
    exact (List.mem_replicate.1 this).2
   rw[this];rfl
  have hl:Zj9 s=-1:=by unfold Zj9;rw[hs.posts,hne];rfl
  have hng:¬Zhq s (newG c):=fun hx=>by
   rcases hx.2 with h1|h1
   ·rw[hq] at h1;cases h1
   ·rw[hl] at h1
    exact absurd h1 (by show ¬(0:Int)≤-1;omega)
  have e2:outN s 4000 (newG c)=newG c:=by
   show (if Zhq s (newG c) then _ else newG c)=_
   rw[if_neg hng]
  rw[e2,hne]
  exact⟨Zws,rfl,trivial⟩
 ·have hg:Zhq s (newG c):=⟨by show (0:Int) < 4000;omega,.inr (by rw[Ynd hs hne];exact Int.le_refl 0)⟩
  have e2:outN s 4000 (newG c)=outN s 3999 (Ze (newG c) s).1:=by
   show (if Zhq s (newG c) then _ else newG c)=_
   rw[if_pos hg]
  have hF:=Yfq hc hs
  obtain⟨g1,g2,g3⟩:=Ylr R X hs hstep hend 3999 hF.a (by rw[hF.now];omega) (hF.inv R) (hX _ hF) (hF.spent hs.len)
  rw[←e2] at g1 g2 g3
  have hqe:(atI (outN s 4000 (newG c)).m 0).queue=[]:=by
   by_cases hq:(atI (outN s 4000 (newG c)).m 0).queue=[]
   ·exact hq
   ·exfalso
    have hsp:=g3 hq
    have h1:=Ynq g1 hq
    have h2:=Z8x g1 (fun hd=>(g1.beat hd).2.1.1)
    refine hO.2.1 ⟨by omega,.inl ?_⟩
    cases hqq:Zdr (outN s 4000 (newG c)) with
    | false=>rfl
    | true=>
     exfalso
     have hb:=Ye g1.m0
     have:=List.all_eq_true.1 hqq (atI (outN s 4000 (newG c)).m 0) (Zb3 hb.1 (by have:=g1.p.ml;omega))
     exact hq (by simpa using this)
  obtain⟨pre,k1,k2,k3⟩:=g2
  have hd:=(g1.right.none hqe).2.1
  rw[hqe,hd,show Zuj [] 0=[] from rfl,List.append_nil] at k1
  rw[k1]
  exact⟨_,k2,k3⟩
theorem Yl0 (hc:Zz c=true) (hs:OneS rs s):∃m,exP Zws (allP rs) (outG (newG c) s).1.log m∧tmP (fun a b=>a≥b) 0 false (allP rs) (outG (newG c) s).1.log:=
 Ygy _ Z4s hc hs (fun b h=>h.slow) (fun b h hp hn hI=>Yj7 h hp hs.locks hn hI) (fun b h hp hI he=>Yne h hp hI he)
theorem Yn1 (hc:Zz c=true) (hs:OneS rs s) (hw:s.waits=[]) (hy:s.says=[]):∃m,exP Zws (allP rs) (outG (newG c) s).1.log m∧tmP (fun a b=>a≤b) 0 false (allP rs) (outG (newG c) s).1.log:=
 Ygy _ FastI hc hs (fun b h=>h.fast) (fun b h hp hn hI=>Ykv h hp hs.locks hw hy hn hI) (fun b h hp hI he=>Yml h hp hI he)
end
def Zi5 (c:GConf) (rs:List GReq):Bool:=Zz c&&(decide (rs.length≤4)&&rs.all reqG)
def Zfh (rs:List GReq):GScript:={GScript.z0 with posts:=Xc rs}
theorem Ygu {rs:List GReq} (hl:rs.length≤5) (hr:∀r∈rs,r.sm):(Zfh rs).sm:=by
 refine⟨by simp[Zfh,Xc];omega,fun p hp=>?_,by simp[Zfh,GScript.z0],by simp[Zfh,GScript.z0],fun w hw=>absurd hw (by simp[Zfh,GScript.z0])⟩
 obtain⟨r,h1,rfl⟩:=List.mem_map.1 hp
 exact hr r h1
theorem Zx3 {rs:List GReq} {k:Nat} (hk:k < rs.length):Xc (rs.take (k+1))=Xc (rs.take k)++[GPost.mk 0 0 rs[k]]:=by
 unfold Xc
 rw[List.take_succ_eq_append_getElem hk,List.map_append]
 rfl
theorem Zz2 (rs:List GReq) (k:Nat):(Xc (rs.take k)).length≤rs.length:=by
 unfold Xc
 rw[List.length_map,List.length_take];omega
theorem Z8i {c:GConf} {rs:List GReq} (hl:c.masters.length < 1048577) (h5:rs.length≤5) (hr:∀r∈rs,r.sm):Zt0 c rs=some (if Zi5 c rs=true then ((outG (newG c) (Zfh rs)).1.log,true) else ([],false)):=by
 unfold Zt0
 rw[Yeu c hl,Option.bind_some]
 unfold Z1f Zi5
 by_cases hc:Zz c=true
 ·rw[if_pos hc,hc]
  dsimp only
  rw[if_neg (by simp)]
  by_cases h4:rs.length≤4
  ·rw[if_neg (by simp;omega),decide_eq_true h4]
   have hf:=Zqp rs (by omega) Zrs reqG (fun a ha=>by unfold Zrs;rw[Zxt _ (hr a ha)];rfl) (Xe rs) (fun m i=>rfl)
   unfold Wz Qc
   rw[hf,Option.bind_some]
   by_cases ha:rs.all reqG=true
   ·rw[ha]
    unfold Zie
    rw[if_neg (by simp),if_pos (by rfl)]
    refine K9 (σ:=GBus×GScript) (n:=rs.length) (by omega) (fun k=>(newG c,{GScript.z0 with posts:=Xc (rs.take k)})) (B:=fun κ st i=>Zlf c rs (fun x y i=>κ (x,y) i) st.1 st.2 i) (L:=fun m st i=>Zn2 c rs m st.1 st.2 i) (fun m s i=>rfl) (fun k hk κ=>?_) fun κ=>?_
    ·unfold Zlf
     have hpl:=Zz2 rs k
     dsimp only
     rw[if_pos (by simpa using hk),Yc hk,Option.bind_some,Ys (by simp only[List.length_cons,List.length_nil];omega) (by simp only[List.length_cons,List.length_nil];omega),Option.bind_some,Zx3 hk]
    ·unfold Zlf
     dsimp only
     rw[if_neg (by simp),List.take_length,show ({GScript.z0 with posts:=Xc rs}:GScript)=Zfh rs from rfl,Z11 (Zqu hc).sm (Ygu h5 hr)]
     rfl
   ·have ha2:rs.all reqG=false:=by simpa using ha
    rw[ha2]
    rfl
  ·rw[if_pos (by simp;omega),decide_eq_false h4]
   rfl
 ·have hc2:Zz c=false:=by simpa using hc
  rw[if_neg hc,hc2]
  rfl
theorem Ykj {c:GConf} {rs:List GReq} (hl:c.masters.length < 1048577) (h5:rs.length≤5) (hr:∀r∈rs,r.sm):So (Zyd c rs) fun r=>r.2=Zi5 c rs:=by
 unfold Zyd Zi5
 rw[Zd3 c hl,Option.bind_some]
 by_cases hc:Zz c=true
 ·rw[hc,if_neg (by simp)]
  by_cases h4:rs.length≤4
  ·rw[decide_eq_true h4]
   unfold Zi7
   rw[show decide ((rs.length:Int) > 4)=false from decide_eq_false (by omega),if_neg (by simp)]
   have key:∀(m k:Nat),k≤rs.length→rs.length - k < m→(rs.take k).all reqG=true→So (Ziv c rs m {GScript.z0 with posts:=Xc (rs.take k)} (k:Int)) fun r=>r.2=(true&&(true&&rs.all reqG)):=by
    intro m
    induction m with
    | zero=>intro k _ h;omega
    | succ m ih=>
     intro k hk hm ht
     show So (Zqz c rs (Ziv c rs m) _ _) _
     unfold Zqz
     by_cases hlt:k < rs.length
     ·rw[if_pos (by simpa using hlt),Yc hlt,Option.bind_some,Zyt _ (hr _ (List.getElem_mem hlt)),Option.bind_some]
      by_cases hq:reqG rs[k]=true
      ·have hpl:=Zz2 rs k
       rw[if_neg (by simp[hq]),Ys (by simp only[List.length_cons,List.length_nil];omega) (by simp only[List.length_cons,List.length_nil];omega),Option.bind_some,Yo (by omega)]
       have:=ih (k+1) (by omega) (by omega) (by rw[List.take_succ_eq_append_getElem hlt,List.all_append,ht];simp[hq])
       rw[Zx3 hlt] at this
       exact this
      ·rw[if_pos (by simpa using hq)]
       refine So.ret ?_
       have:rs.all reqG=false:=by
        rw[List.all_eq_false]
        exact⟨rs[k],List.getElem_mem hlt,hq⟩
       rw[this];rfl
     ·rw[if_neg (by simpa using hlt)]
      have he:k=rs.length:=by omega
      subst he
      rw[List.take_length] at ht ⊢
      rw[Z12 c hl,Option.bind_some,Ygm hc,show ({GScript.z0 with posts:=Xc rs}:GScript)=Zfh rs from rfl,Yff (Zqu hc).sm (Ygu h5 hr),Option.bind_some]
      exact So.ret (by rw[ht];rfl)
   exact key FU 0 (Nat.zero_le _) (by have:=Y5;omega) rfl
  ·rw[decide_eq_false h4]
   unfold Zi7
   rw[show decide ((rs.length:Int) > 4)=true from decide_eq_true (by omega),if_pos rfl]
   exact So.ret rfl
 ·have hc2:Zz c=false:=by simpa using hc
  rw[hc2]
  exact So.ret rfl
theorem Zyz (l:List GDone) (hl:l.length < 1048577):Zir l=some (l.map (·.value)):=by
 unfold Zir
 refine K9 (σ:=List Int) (n:=l.length) (by omega) (fun k=>(l.take k).map (·.value)) (B:=fun κ st j=>Zd7 l κ st j) (L:=fun m st j=>Zft l m st j) (fun m s i=>rfl) (fun k hk κ=>?_) fun κ=>?_
 ·unfold Zd7
  rw[if_pos (by simpa using hk),Yc hk,Option.bind_some,Ys (by simp;omega) (by simp;omega),Option.bind_some,List.take_succ_eq_append_getElem hk,List.map_append]
  rfl
 ·unfold Zd7
  rw[if_neg (by simp),List.take_length]
theorem Z9n (xs:List Int) (hl:xs.length < 1048577):Znk xs xs=some true:=by
 unfold Znk
 rw[if_neg (by simp)]
 refine Ybb (n:=xs.length) (by omega) (B:=Zeb xs xs) (L:=Zf9 xs xs) (fun m i=>rfl) (fun k hk κ=>?_) fun κ=>?_
 ·unfold Zeb
  rw[if_pos (by simpa using hk),Yc hk]
  simp
 ·unfold Zeb
  rw[if_neg (by simp)]
theorem Z1x (x0:List Int) (h0:x0.length≤maxLen∧∀y∈x0,(Lit.int .u8 y).wf=true):Zn0 x0=some true:=by
 unfold Zn0
 rw[big_eq,Option.bind_some]
 by_cases hx:(x0.length:Int) > 1048576
 ·rw[if_pos (by simpa using hx)]
 ·rw[if_neg (by simpa using hx)]
  obtain⟨⟨c,rs⟩,e,hm,h5,hd⟩:=Ydw x0 (by omega)
  obtain⟨⟨c2,s,n⟩,e2,hm2,hs,hn⟩:=Yel x0 (by omega)
  dsimp only at hm h5 hd hm2 hs hn
  have hl:c.masters.length < 1048577:=by omega
  have hsm:∀r∈rs,r.sm:=fun r hr=>by have:=hd r hr;unfold GReq.sm;omega
  rw[e,Option.bind_some]
  dsimp only
  obtain⟨q,e3,hq⟩:=Ykj hl h5 hsm
  rw[Z8i hl h5 hsm,Option.bind_some,e3,Option.bind_some,hq]
  by_cases hok:Zi5 c rs=true
  ·rw[if_pos hok,hok]
   dsimp only
   rw[if_neg (by simp)]
   unfold Zcc
   rw[if_neg (by simp),e2,Option.bind_some]
   dsimp only
   have hc:Zz c=true:=by
    unfold Zi5 at hok
    rw[Bool.and_eq_true] at hok
    exact hok.1
   have h4:rs.length≤4:=by
    unfold Zi5 at hok
    simp only[Bool.and_eq_true,decide_eq_true_eq] at hok
    exact hok.2.1
   have hrq:∀r∈rs,reqG r=true:=by
    unfold Zi5 at hok
    simp only[Bool.and_eq_true,List.all_eq_true] at hok
    exact hok.2.2
   let us:List GReq:=rs.map fun r=>{r with lock:=false}
   have hul:us.length=rs.length:=List.length_map ..
   have hus:∀r∈us,reqG r=true∧r.lock=false:=by
    intro r hr
    obtain⟨a,ha,rfl⟩:=List.mem_map.1 hr
    exact⟨hrq a ha,rfl⟩
   have husm:∀r∈us,r.sm:=fun r hr=>Ykh (hus r hr).1
   have hok2:Zi5 c us=true:=by
    unfold Zi5
    simp only[Bool.and_eq_true,decide_eq_true_eq,List.all_eq_true]
    exact⟨hc,by omega,fun r hr=>(hus r hr).1⟩
   have o1:OneS us (Zfh us):=⟨rfl,hus,by omega⟩
   have o2:OneS us {s with posts:=Xc us}:=⟨rfl,hus,by omega⟩
   have p2sm:GScript.sm {s with posts:=Xc us}:=by
    have hS:=hs.sm
    refine⟨by simp[Xc,us];omega,fun p hp=>?_,hS.waits,hS.says,hS.wmin⟩
    obtain⟨r,h1,rfl⟩:=List.mem_map.1 hp
    exact husm r h1
   obtain⟨m1,f1,f2⟩:=Yn1 hc o1 rfl rfl
   obtain⟨m2,g1,g2⟩:=Yl0 hc o2
   obtain⟨t1,t2⟩:=Yme g1 f1 g2 f2 (Int.le_refl 0)
   refine K9 (σ:=GConf×GScript×List GReq) (n:=rs.length) (by omega) (fun k=>(c,{s with posts:=Xc (us.take k)},us.take k++rs.drop k)) (B:=fun κ st i=>Zax x0 (fun x y z i=>κ (x,y,z) i) st.1 st.2.1 st.2.2 i) (L:=fun m st i=>Zcd x0 m st.1 st.2.1 st.2.2 i) (fun m s i=>rfl) (fun k hk κ=>?_) fun κ=>?_
   ·have hlt:k < (us.take k++rs.drop k).length:=by simp[hul];omega
    have htk:(us.take k).length=k:=by rw[List.length_take];omega
    have hg:(us.take k++rs.drop k)[k]=rs[k]:=by
     rw[List.getElem_append_right (by omega)]
     simp[htk]
    have hset:(us.take k++rs.drop k).set k {rs[k] with lock:=false}=us.take (k+1)++rs.drop (k+1):=by
     have hku:k < us.length:=by omega
     rw[List.set_append_right _ _ (by omega),htk,Nat.sub_self,List.drop_eq_getElem_cons hk,List.set_cons_zero,List.take_succ_eq_append_getElem hku,List.append_assoc]
     congr 1
     show _=us[k]::rs.drop (k+1)
     rw[show us[k]={rs[k] with lock:=false} from by simp[us]]
    have hlt2:k < (us.take (k+1)++rs.drop (k+1)).length:=by rw[←hset];simpa using hlt
    have hg2:(us.take (k+1)++rs.drop (k+1))[k]=us[k]'(by omega):=by
     rw[List.getElem_append_left (by rw[List.length_take];omega),List.getElem_take]
    have hpl:(Xc (us.take k)).length≤5:=by have:=Zz2 us k;omega
    unfold Zax
    dsimp only
    rw[if_pos (by simp[hul];omega),Yc hlt,hg,Option.bind_some,Y1,Int.toNat_natCast,hset,Option.bind_some,Yc hlt2,hg2,Option.bind_some,Ys (by simp only[List.length_cons,List.length_nil];omega) (by simp only[List.length_cons,List.length_nil];omega),Option.bind_some,Zx3 (by omega:k < us.length)]
   ·unfold Zax
    dsimp only
    have htl:us.take rs.length=us:=List.take_of_length_le (by omega)
    rw[if_neg (by simp[hul]),htl,List.drop_length,List.append_nil,Z8i hl (by omega) husm,if_pos hok2,Option.bind_some,Z12 c hl,Ygm hc,Option.bind_some]
    dsimp only
    rw[Z11 (Zqu hc).sm p2sm,Option.bind_some]
    have l1:=(Ylq (Zqu hc).sm (Zfh us)).log
    have l2:=(Ylq (Zqu hc).sm {s with posts:=Xc us}).log
    have hlen:((outG (newG c) {s with posts:=Xc us}).1.log.length:Int)=((outG (newG c) (Zfh us)).1.log.length:Int):=by omega
    rw[if_neg (by simpa using hlen),Zyz _ l2,Option.bind_some,Zyz _ l1,Option.bind_some]
    have hv:(outG (newG c) {s with posts:=Xc us}).1.log.map (·.value)=(outG (newG c) (Zfh us)).1.log.map (·.value):=by
     apply List.ext_getElem
     ·simp;exact t1
     ·intro k h1 h2
      simp only[List.getElem_map]
      exact (t2 k (by simpa using h1) (by simpa using h2)).2.2.1
    rw[hv,Z9n _ (by simpa using l1),Option.bind_some]
    unfold Zcb
    rw[if_neg (by simp)]
    refine Ybb (n:=(outG (newG c) (Zfh us)).1.log.length) (by omega) (B:=fun κ i=>Zat x0 (fun _ _ i=>κ i) (outG (newG c) {s with posts:=Xc us}).1 (outG (newG c) (Zfh us)).1.log i) (L:=fun m i=>Zce x0 m (outG (newG c) {s with posts:=Xc us}).1 (outG (newG c) (Zfh us)).1.log i) (fun m i=>rfl) (fun k hk κ=>?_) fun κ=>?_
    ·have hk2:k < (outG (newG c) {s with posts:=Xc us}).1.log.length:=by omega
     have:=t2 k hk2 hk
     unfold Zat
     rw[if_pos (by simpa using hk),Yc hk2,Option.bind_some,Yc hk,Option.bind_some,if_neg (by simp[this.1]),if_neg (by simp[this.2.1]),if_neg (by simp;exact this.2.2.2)]
    ·unfold Zat
     rw[if_neg (by simp)]
  ·have hok2:Zi5 c rs=false:=by simpa using hok
   rw[if_neg hok,hok2]
   rfl
end Go.Proofs.YtciimjnpdmmfnaaGreat.Ev
