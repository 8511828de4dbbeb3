/- A part of the proof of FnIdle: see the text YtciimjnpdmmfnaaGreatLawFnIdle for what is proved and its conditions. Conditions here: those in each line. -/
import Derived.Test.YtciimjnpdmmfnaaGreatA9
namespace Go.Proofs.YtciimjnpdmmfnaaGreat.Ev
open Go Go.Proofs
set_option linter.unusedVariables false
set_option linter.unusedSimpArgs false
section
variable {n:Int} {b:GBus} {s:GScript}
theorem i_grant_eq (h:BusI n b):p_i_Bus_grant b=some ((grantG b).1,(grantG b).2):=by
 have hp:=picked_ok h
 unfold p_i_Bus_grant grantG
 rw[i_pick_eq h,Option.bind_some]
 by_cases e:(pickG b).1 < 0
 ·rw[if_pos (decide_eq_true e),if_pos e]
 ·rw[if_neg (by simpa using e),if_neg e]
  rcases hp.who with h1|h1
  ·exact absurd (show (pickG b).1 < 0 by rw[h1];decide) e
  ·exact i_give_eq b hp.ok (by rw[hp.conf];exact h1.1)
theorem take_iff {c:GBucket} {m:GMConf} (h:bucketG c m=true):(takeG c m).2=decide (c.tokens > 0):=by
 unfold takeG
 by_cases hp:m.prio=true
 ·have h2:=h
  unfold bucketG at h2
  rw[if_pos hp] at h2
  simp only[Bool.and_eq_true,decide_eq_true_eq] at h2
  by_cases e:c.tokens=0
  ·simp[hp,h,e]
  ·have:c.tokens > 0:=by omega
   simp[hp,h,e,this]
 ·have h2:=h
  unfold bucketG at h2
  rw[if_neg hp] at h2
  simp only[Bool.and_eq_true,decide_eq_true_eq] at h2
  simp[hp,h2.1]
theorem s_give_eq (x0:GBus) (h:BusI n b) {who by_:Int} (hw:masterG b.conf who=true) (hwant:wantG b who=true):p_s_l14Grant__J8 x0 b (GBeat.mk false who 0 false by_ 0 0 false)=some (giveG b who by_):=by
 obtain⟨ok,hi⟩:=s_MstIssue_eq (h.mst _ hw).right
 have hq:=want_ne (h.mst _ hw).right hwant
 have hmb:=mas_bnd hw
 unfold p_s_l14Grant__J8
 simp only
 rw[if_neg (by simp;omega),idx_m h.ml hw,Option.bind_some]
 have hh:=holder_or h
 have hlt:b.holder < 0↔b.holder=-1:=by
  rcases hh with hh|hh
  ·omega
  ·have:=mas_bnd hh;omega
 have hJ:∀f:Bool,p_s_l14Grant__J9 x0 b (GBeat.mk true who (atI b.m who).beat f by_ 0 0 false) (atI b.m who)=some {b with addr:=GBeat.mk true who (atI b.m who).beat f by_ 0 0 false,holder:=if locksG (atI b.m who)=true∧b.holder=-1 then who else b.holder,held:=if locksG (atI b.m who)=true∧b.holder=-1 then 0 else b.held,m:=b.m.set who.toNat (issueG (atI b.m who)),last:=who}:=by
  intro f
  unfold p_s_l14Grant__J9 p_s_l14Grant__J10 p_s_l14Grant__J11
  simp only[idx_first hq,Option.bind_some,hi,idx_m h.ml hw,setO_of]
  unfold locksG
  by_cases e1:(atI (atI b.m who).queue 0).lock=true
  ·by_cases e2:(atI b.m who).broken=true
   ·simp[e1,e2]
   ·by_cases e3:b.holder=-1
    ·have e4:=hlt.2 e3
     simp[e1,e2,e3,hq]
    ·have e4:=mt hlt.1 e3
     simp[e1,e2,e3,e4]
  ·simp[e1]
 unfold giveG
 by_cases e:(atI b.m who).beat=0
 ·rw[if_pos (decide_eq_true e),hJ,decide_eq_true e];rfl
 ·rw[if_neg (by simpa using e),hJ,decide_eq_false e,Bool.false_or]
theorem s_give_none (x0:GBus) (c:GBus) (by_:Int):p_s_l14Grant__J8 x0 c (GBeat.mk false (-1) 0 false by_ 0 0 false)=some c:=by
 unfold p_s_l14Grant__J8
 rw[if_pos (by simp)]
theorem s_grant_eq (h:BusI n b):p_s_l14Grant b=some (grantG b).2:=by
 have hlen:=conf_len h.conf
 have hml:=h.ml
 have hh:=holder_or h
 have hlt:b.holder < 0↔b.holder=-1:=by
  rcases hh with hh|hh
  ·omega
  ·have:=mas_bnd hh;omega
 have hp:=picked_ok h
 have hgo:∀(m:Nat) (c:GBus) (who by_:Int) (k:Nat),0≤who→p_s_l14Grant__L2 b (m+1) c (GBeat.mk false who 0 false by_ 0 0 false) (wantsL b) (k:Int)=p_s_l14Grant__J8 b c (GBeat.mk false who 0 false by_ 0 0 false):=by
  intro m c who by_ k hwho
  have hn:¬who < 0:=by omega
  show p_s_l14Grant__L2b b _ c _ _ _=_
  unfold p_s_l14Grant__L2b p_s_l14Grant__J4 p_s_l14Grant__J7
  simp only[decide_eq_false hn,Bool.false_eq_true,if_false,ite_same]
 have hL2:(¬(b.holder≠-1∧wantG b b.holder=true))→p_s_l14Grant__L2 b FU b (GBeat.mk false (-1) 0 false 0 0 0 false) (wantsL b) 0=some (grantG b).2:=by
  intro hnl
  have key:∀(r m k:Nat),r+1 < m→k+r=b.m.length→(List.range b.m.length).find? (tokenG b)=(List.range' k r).find? (tokenG b)→p_s_l14Grant__L2 b m b (GBeat.mk false (-1) 0 false 0 0 0 false) (wantsL b) (k:Int)=some (grantG b).2:=by
   intro r
   induction r with
   | zero=>
    intro m k hm hk hfind
    obtain⟨m,rfl⟩:∃m',m=m'+1:=⟨m - 1,by omega⟩
    show p_s_l14Grant__L2b b _ b _ (wantsL b) (k:Int)=_
    unfold p_s_l14Grant__L2b p_s_l14Grant__J4 p_s_l14Grant__J7
    have hf:(List.range b.m.length).find? (tokenG b)=none:=by rw[hfind];rfl
    rw[if_neg (by simp;omega),if_neg (by simp),if_pos (by simp)]
    have hpk:pickG b=if b.holder≠-1 then (-1,0,b) else ((wpickG b.arb b.conf (wantsL b)).2,2,{b with arb:=(wpickG b.arb b.conf (wantsL b)).1}):=by
     unfold pickG
     rw[if_neg hnl,hf]
    by_cases e:b.holder=-1
    ·rw[decide_eq_true (hlt.2 e),if_pos rfl,s_WrrPick_eq _ _ _ h.arb (by rw[wantsL_len,hml]),Option.bind_some]
     rw[if_neg (by simpa using e)] at hpk
     have hw:=hp.who
     have hok:=hp.ok
     unfold grantG
     rw[hpk] at hw hok ⊢
     simp only at hw hok ⊢
     rcases hw with hw|hw
     ·rw[hw,s_give_none,if_pos (by decide)]
     ·have hmb:=mas_bnd hw.1
      rw[if_neg (by omega)]
      exact s_give_eq b hok hw.1 hw.2.1
    ·rw[decide_eq_false (mt hlt.1 e),if_neg (by simp),s_give_none]
     rw[if_pos e] at hpk
     unfold grantG
     rw[hpk,if_pos (show (-1:Int) < 0 by decide)]
   | succ r ih=>
    intro m k hm hk hfind
    obtain⟨m,rfl⟩:∃m',m=m'+1:=⟨m - 1,by omega⟩
    show p_s_l14Grant__L2b b _ b _ (wantsL b) (k:Int)=_
    have hmk:=mas (c:=b.conf) (k:=k) (by omega)
    have hix:idx (wantsL b) (k:Int)=some (wantG b (k:Int)):=by
     rw[idx_at (by omega) (by rw[wantsL_len];omega),wantsL_at h hmk]
    rw[List.range'_succ,List.find?_cons] at hfind
    unfold p_s_l14Grant__L2b p_s_l14Grant__J4 p_s_l14Grant__J6
    rw[if_pos (by simp;omega),if_pos (by simp),hix,Option.bind_some,idx_b h.bl hmk,Option.bind_some,Option.bind_some,idx_c hmk,Option.bind_some,s_BucketTake_eq _ (conf_at h.conf hmk),Option.bind_some,setO_of,Option.bind_some,addW_nat (by omega),←take_iff (h.mst _ hmk).bucket]
    by_cases e1:wantG b (k:Int)=true
    ·by_cases e2:(takeG (atI b.buckets (k:Int)) (atI b.conf.masters (k:Int))).2=true
     ·have e3:tokenG b k=true:=by simp[tokenG,e1,e2]
      rw[e3] at hfind
      have hpk:pickG b=((k:Int),1,{b with buckets:=b.buckets.set k (takeG (atI b.buckets (k:Int)) (atI b.conf.masters (k:Int))).1}):=by
       unfold pickG
       rw[if_neg hnl,hfind]
      rw[if_pos e1,if_pos e2]
      obtain⟨m,rfl⟩:∃m',m=m'+1:=⟨m - 1,by omega⟩
      rw[hgo m _ _ _ _ (by omega)]
      have hw:=hp.who
      have hok:=hp.ok
      unfold grantG
      rw[hpk] at hw hok ⊢
      simp only at hw hok ⊢
      rcases hw with hw|hw
      ·omega
      ·rw[if_neg (by omega)]
       exact s_give_eq b hok hw.1 hw.2.1
     ·have e3:tokenG b k=false:=by simp[tokenG,e1,e2]
      rw[e3] at hfind
      rw[if_pos e1,if_neg e2]
      exact ih m (k+1) (by omega) (by omega) hfind
    ·have e3:tokenG b k=false:=by simp[tokenG,e1]
     rw[e3] at hfind
     rw[if_neg e1,if_neg (by simp)]
     exact ih m (k+1) (by omega) (by omega) hfind
  have:=key b.m.length FU 0 (by have:=FU_big;omega) (by omega) (by rw[List.range_eq_range'])
  simpa using this
 unfold p_s_l14Grant
 refine loop_go (σ:=List Bool) (n:=b.m.length) (by omega) (fun k=>(List.range k).map fun j:Nat=>wantG b (j:Int)) (B:=p_s_l14Grant__L1b b) (L:=p_s_l14Grant__L1 b) (fun m s i=>rfl) (fun k hk κ=>?_) fun κ=>?_
 ·have hmk:=mas (c:=b.conf) (k:=k) (by omega)
  unfold p_s_l14Grant__L1b
  have happ:∀x:Bool,appI 1 ((List.range k).map fun j:Nat=>wantG b (j:Int)) [x]=some (((List.range k).map fun j:Nat=>wantG b (j:Int))++[x]):=fun x=>appI_of (by simp;omega) (by simp;omega)
  rw[if_pos (by simpa using hk),idx_m hml hmk,Option.bind_some,s_MstWants_eq (h.mst _ hmk).right,Option.bind_some,idx_s h.sl hmk,Option.bind_some,wants_take]
  simp only[happ,Option.bind_some]
  unfold wantG
  by_cases e1:wantsG (atI b.m (k:Int))=true
  ·by_cases e2:atI b.splits (k:Int)=0
   ·by_cases e3:b.holder=-1
    ·simp[e1,e2,e3]
    ·have e4:=mt hlt.1 e3
     simp only[e1,e2,e3,e4,decide_true,decide_false,if_true,Bool.false_eq_true,if_false,Bool.true_and,Bool.false_or]
   ·simp[e1,e2]
  ·simp[e1]
 ·unfold p_s_l14Grant__L1b p_s_l14Grant__J3 p_s_l14Grant__J5
  rw[if_neg (by simp)]
  show (if decide (b.holder≥0)=true then (idx (wantsL b) b.holder).bind _ else _)=_
  by_cases e:b.holder=-1
  ·rw[if_neg (by simp;omega),if_neg (by simp)]
   exact hL2 fun hx=>hx.1 e
  ·have hw:=(held_who h e).1
   have hmb:=mas_bnd hw
   rw[if_pos (by simpa using hmb.1),idx_at hmb.1 (by rw[wantsL_len];omega),Option.bind_some,wantsL_at h hw]
   by_cases e2:wantG b b.holder=true
   ·have hpk:pickG b=(b.holder,3,b):=by
     unfold pickG
     rw[if_pos ⟨e,e2⟩]
    rw[if_pos e2]
    have hfu:FU=(FU - 1)+1:=by decide
    show p_s_l14Grant__L2 b FU b (GBeat.mk false b.holder 0 false 3 0 0 false) (wantsL b) ((0:Nat):Int)=_
    rw[hfu,hgo _ _ _ _ _ hmb.1]
    unfold grantG
    rw[hpk,if_neg (by simp;omega)]
    exact s_give_eq b h hw e2
   ·rw[if_neg e2]
    exact hL2 fun hx=>e2 hx.2
theorem mix_idx {α:Type} {X Y:List α} (hl:X.length=Y.length) {k:Nat} (hk:k < Y.length):idx (X.take k++Y.drop k) (k:Int)=some Y[k]∧(X.take k++Y.drop k).set k (X[k]'(by omega))=X.take (k+1)++Y.drop (k+1):=by
 have h1:(X.take k).length=k:=by rw[List.length_take];omega
 constructor
 ·rw[idx_get (by simp;omega)]
  simp[List.getElem_append_right,h1]
 ·rw[List.set_append_right _ _ (by omega),h1,Nat.sub_self,List.drop_eq_getElem_cons hk,List.set_cons_zero,List.take_succ_eq_append_getElem (show k < X.length by omega),List.append_assoc]
  rfl
def tickN (c:GBus) (k:Nat):GBus:={c with splits:=(tickAll c).splits.take k++c.splits.drop k,buckets:=(tickAll c).buckets.take k++c.buckets.drop k}
theorem tickN_0 (c:GBus):tickN c 0=c:=by simp[tickN]
theorem tickN_all (h:BusI n b):tickN b b.conf.masters.length=tickAll b:=by
 have h1:=h.sl
 have h2:=h.bl
 unfold tickN tickAll
 simp only
 rw[List.take_of_length_le (by simp;omega),List.drop_of_length_le (by omega),List.take_of_length_le (by simp;omega),List.drop_of_length_le (by omega),List.append_nil,List.append_nil]
theorem tick_parts (h:BusI n b) {k:Nat} (hk:k < b.conf.masters.length):idx (tickN b k).splits (k:Int)=some (atI b.splits (k:Int))∧(tickN b k).splits.set k (max (atI b.splits (k:Int) - 1) 0)=(tickN b (k+1)).splits∧
  idx (tickN b k).buckets (k:Int)=some (atI b.buckets (k:Int))∧(tickN b k).buckets.set k (tickG (atI b.buckets (k:Int)) (atI b.conf.masters (k:Int)))=(tickN b (k+1)).buckets:=by
 have h1:=h.sl
 have h2:=h.bl
 have m1:=mix_idx (X:=(tickAll b).splits) (Y:=b.splits) (by simp[tickAll]) (k:=k) (by omega)
 have m2:=mix_idx (X:=(tickAll b).buckets) (Y:=b.buckets) (by simp[tickAll];omega) (k:=k) (by omega)
 rw[at_nat (by omega),at_nat (by omega),at_nat hk]
 refine⟨m1.1,?_,m2.1,?_⟩
 ·have:=m1.2
  simp only[tickAll,List.getElem_map] at this
  exact this
 ·have:=m2.2
  simp only[tickAll,List.getElem_zipWith] at this
  exact this
end
end Go.Proofs.YtciimjnpdmmfnaaGreat.Ev
namespace Go.Proofs.YtciimjnpdmmfnaaGreat.Ev
open Go Go.Proofs
set_option linter.unusedVariables false
set_option linter.unusedSimpArgs false
section
variable {n:Int} {b:GBus} {s:GScript}
theorem ready_begin (h:BusI n b) (s:GScript) (hd:b.data_=GBeat.z0):BusI n (breakG b)∧BusI n (beginG (breakG b) s):=⟨break_ok h,(begin_ok (break_ok h) s (by rw[(break_data b).1];exact hd)).1⟩
theorem i_break_step (x0:GBus) (w:GWave) (h:BusI n b) (hs:s.sm) (hd:b.data_=GBeat.z0) (hp:0≤b.picks∧b.picks≤4000) (hn:0≤b.now∧b.now≤4000):(if decide (b.holder≠(-1))=true then p_i_Bus_step__J6 x0 s b w (decide (b.held=b.conf.lockMost)) else p_i_Bus_step__J6 x0 s b w false)=some ({w with got:=(readyG b s).1},{(readyG b s).2 with now:=b.now+1}):=by
 obtain⟨h1,h2⟩:=ready_begin h s hd
 have e1:=break_data b
 have hJ9:∀(c:GBus) (w:GWave),BusI n c→c.now=b.now→p_i_Bus_step__J9 x0 s c w=some ({w with got:=(grantG c).1},{(grantG c).2 with now:=b.now+1}):=by
  intro c w hc hcn
  unfold p_i_Bus_step__J9 p_i_Bus_step__J7
  rw[i_grant_eq hc,Option.bind_some]
  simp only
  rw[(grant_data hc).1,hcn,addW_of (by omega) (by omega)]
 have hJ8:∀w:GWave,p_i_Bus_step__J8 x0 s (breakG b) w=some ({w with got:=(readyG b s).1},{(readyG b s).2 with now:=b.now+1}):=by
  intro w
  unfold p_i_Bus_step__J8 readyG
  have e2:=begin_data (breakG b) s
  by_cases hl:(breakG b).addr.live=true
  ·rw[if_pos hl,i_answer_eq h1 hs hl,Option.bind_some,addW_of (by rw[e1.2.2.1];omega) (by rw[e1.2.2.1];omega)]
   have hb:beginG (breakG b) s={breakG b with addr:=GBeat.z0,data_:={(breakG b).addr with left:=(answerG (breakG b) s (breakG b).addr).2,resp:=(answerG (breakG b) s (breakG b).addr).1},picks:=(breakG b).picks+1}:=by
    unfold beginG;rw[if_pos hl]
   rw[←hb]
   exact hJ9 _ _ h2 (by rw[e2.1,e1.2.2.2.1])
  ·rw[if_neg hl]
   have hb:beginG (breakG b) s=breakG b:=by
    unfold beginG;rw[if_neg hl]
   rw[hb]
   exact hJ9 _ _ h1 e1.2.2.2.1
 have hJ6:p_i_Bus_step__J6 x0 s b w false=p_i_Bus_step__J8 x0 s b w:=by unfold p_i_Bus_step__J6;rw[if_neg (by simp)]
 by_cases e:b.holder=-1
 ·have hb:breakG b=b:=by unfold breakG;rw[if_neg (fun hx:b.holder≠-1∧b.held=b.conf.lockMost=>hx.1 e)]
  rw[if_neg (by simpa using e),hJ6]
  have:=hJ8 w
  rwa [hb] at this
 ·rw[if_pos (by simpa using e)]
  by_cases e2:b.held=b.conf.lockMost
  ·have hb:breakG b=freeG {b with m:=b.m.set b.holder.toNat {atI b.m b.holder with broken:=true}}:=by unfold breakG;rw[if_pos ⟨e,e2⟩]
   unfold p_i_Bus_step__J6 p_i_Bus_free
   rw[decide_eq_true e2,if_pos rfl,idx_m h.ml (held_who h e).1,Option.bind_some,setO_of,Option.bind_some,Option.bind_some]
   have:=hJ8 w
   rw[hb] at this
   exact this
  ·have hb:breakG b=b:=by unfold breakG;rw[if_neg (fun hx:b.holder≠-1∧b.held=b.conf.lockMost=>e2 hx.2)]
   rw[decide_eq_false e2,hJ6]
   have:=hJ8 w
   rwa [hb] at this
theorem s_break_step (x0:GBus) (w:GWave) (h:BusI n b) (hs:s.sm) (hd:b.data_=GBeat.z0) (hp:0≤b.picks∧b.picks≤4000) (hn:0≤b.now∧b.now≤4000) (hg:w.got=-1):(if decide (b.holder≥0)=true then p_s_l14Step__J7 x0 s b w (decide (b.held≥b.conf.lockMost)) else p_s_l14Step__J7 x0 s b w false)=some ({(readyG b s).2 with now:=b.now+1},{w with got:=(readyG b s).1}):=by
 obtain⟨h1,h2⟩:=ready_begin h s hd
 have e1:=break_data b
 have e2:=begin_data (breakG b) s
 have hz:=(begin_ok h1 s (by rw[e1.1];exact hd)).2
 have hJ9:p_s_l14Step__J9 x0 s (breakG b) w=some ({(readyG b s).2 with now:=b.now+1},{w with got:=(readyG b s).1}):=by
  unfold p_s_l14Step__J9 p_s_l14Step__J8 readyG
  have hgr:=s_grant_eq h2
  have hgd:=(grant_data h2).1
  rw[s_begin_eq h1 hs (by rw[e1.2.2.1];exact hp),Option.bind_some,hgr,Option.bind_some]
  have hpk:=picked_ok h2
  rw[hgd,e2.1,e1.2.2.2.1,addW_of (by omega) (by omega)]
  unfold grantG
  rcases hpk.who with hw|hw
  ·rw[if_pos (show (pickG (beginG (breakG b) s)).1 < 0 by rw[hw];decide)]
   have:(pickG (beginG (breakG b) s)).2.2.addr.live=false:=by rw[hpk.addr,hz]
   rw[if_neg (by simp[this])]
   rw[show (-1,(pickG (beginG (breakG b) s)).2.2).1=w.got from hg.symm]
  ·have hmb:=mas_bnd hw.1
   rw[if_neg (show ¬(pickG (beginG (breakG b) s)).1 < 0 by omega),if_pos (by rfl)]
   rfl
 have hh:=holder_or h
 have hlt:b.holder≥0↔b.holder≠-1:=by
  rcases hh with hh|hh
  ·omega
  ·have:=mas_bnd hh;omega
 have hJ7:p_s_l14Step__J7 x0 s b w false=p_s_l14Step__J9 x0 s b w:=by unfold p_s_l14Step__J7;rw[if_neg (by simp)]
 by_cases e:b.holder=-1
 ·have hb:breakG b=b:=by unfold breakG;rw[if_neg (fun hx:b.holder≠-1∧b.held=b.conf.lockMost=>hx.1 e)]
  rw[if_neg (by simp;omega),hJ7]
  rwa [hb] at hJ9
 ·rw[if_pos (by simpa using hlt.2 e)]
  have hhe:=(held_who h e).2.2.2
  by_cases e2:b.held=b.conf.lockMost
  ·have hb:breakG b=freeG {b with m:=b.m.set b.holder.toNat {atI b.m b.holder with broken:=true}}:=by unfold breakG;rw[if_pos ⟨e,e2⟩]
   unfold p_s_l14Step__J7
   rw[decide_eq_true (show b.held≥b.conf.lockMost by omega),if_pos rfl,idx_m h.ml (held_who h e).1,Option.bind_some,setO_of,Option.bind_some]
   rw[hb] at hJ9
   exact hJ9
  ·have hb:breakG b=b:=by unfold breakG;rw[if_neg (fun hx:b.holder≠-1∧b.held=b.conf.lockMost=>e2 hx.2)]
   rw[decide_eq_false (show ¬b.held≥b.conf.lockMost by omega),hJ7]
   rwa [hb] at hJ9
theorem i_J4_eq (x0:GBus) (w:GWave) (h:BusI b.now b) (hs:s.sm) (hw:w.ready=true) (hg:w.resp=0) (hp:0≤b.picks∧b.picks≤4000) (hn:0≤b.now∧b.now < 4000):
  p_i_Bus_step__J4 x0 s b w=some (if (finishG b s).2.1=true then ({w with resp:=(finishG b s).2.2,got:=(readyG (finishG b s).1 s).1},{(readyG (finishG b s).1 s).2 with now:=b.now+1}) else ({w with ready:=false,resp:=(finishG b s).2.2},{(finishG b s).1 with now:=b.now+1})):=by
 have hf:=finish_ok s hn.1 h
 have hfn:=finish_now b s
 obtain⟨w1,w2,w3,w4,w5,w6,rdy,rsp,w9⟩:=w
 simp only at hw hg
 subst hw
 subst hg
 unfold p_i_Bus_step__J4
 rw[i_finish_eq (GWave.mk w1 w2 w3 w4 w5 w6 true 0 w9) h hs (by omega),Option.bind_some]
 simp only
 have hresp:(if b.data_.live=true∧¬b.data_.left > 0 then GWave.mk w1 w2 w3 w4 w5 w6 true b.data_.resp w9 else GWave.mk w1 w2 w3 w4 w5 w6 true 0 w9)=GWave.mk w1 w2 w3 w4 w5 w6 true (finishG b s).2.2 w9:=by
  unfold finishG
  by_cases hd:b.data_.live=true
  ·by_cases hl:b.data_.left > 0
   ·rw[if_neg (fun hx:b.data_.live=true∧¬b.data_.left > 0=>hx.2 hl),if_neg (by simp[hd]),if_pos hl]
   ·rw[if_pos ⟨hd,hl⟩,if_neg (by simp[hd]),if_neg hl]
    congr 1
    split
    ·rfl
    ·split
     ·rfl
     ·split<;>rfl
  ·rw[if_neg (fun hx:b.data_.live=true∧¬b.data_.left > 0=>hd hx.1),if_pos (by simpa using hd)]
 rw[hresp]
 by_cases hr:(finishG b s).2.1=true
 ·rw[if_pos hr,if_pos hr]
  simp only[hr]
  have:=i_break_step x0 (GWave.mk w1 w2 w3 w4 w5 w6 true (finishG b s).2.2 w9) hf.1 hs (hf.2 hr) (by rw[hfn.2.1];exact hp) (by rw[hfn.1];omega)
  rw[hfn.1] at this
  exact this
 ·rw[if_neg hr,if_neg hr]
  unfold p_i_Bus_step__J7
  have hr2:(finishG b s).2.1=false:=by simpa using hr
  rw[hr2,hfn.1,addW_of (by omega) (by omega)]
theorem s_J3_eq (x0:GBus) (w:GWave) (h:BusI b.now b) (hs:s.sm) (hw:w.ready=true) (hg:w.resp=0) (hgot:w.got=-1) (hp:0≤b.picks∧b.picks≤4000) (hn:0≤b.now∧b.now < 4000):
  p_s_l14Step__J3 x0 s b w=some (if (finishG b s).2.1=true then ({(readyG (finishG b s).1 s).2 with now:=b.now+1},{w with resp:=(finishG b s).2.2,got:=(readyG (finishG b s).1 s).1}) else ({(finishG b s).1 with now:=b.now+1},{w with ready:=false,resp:=(finishG b s).2.2})):=by
 have hf:=finish_ok s hn.1 h
 have hfn:=finish_now b s
 have hlim:=(conf_lims h.conf).2.1
 obtain⟨w1,w2,w3,w4,w5,w6,rdy,rsp,w9⟩:=w
 simp only at hw hg hgot
 subst hw
 subst hg
 subst hgot
 have hT:∀w2:GWave,w2.ready=true→w2.got=-1→(finishG b s).2.1=true→p_s_l14Step__J5 x0 s (finishG b s).1 w2=some ({(readyG (finishG b s).1 s).2 with now:=b.now+1},{w2 with got:=(readyG (finishG b s).1 s).1}):=by
  intro w2 h1 h2 hr
  unfold p_s_l14Step__J5
  rw[if_pos h1]
  have:=s_break_step x0 w2 hf.1 hs (hf.2 hr) (by rw[hfn.2.1];exact hp) (by rw[hfn.1];omega) h2
  rw[hfn.1] at this
  exact this
 have hF:∀(c:GBus) (w2:GWave),w2.ready=false→c.now=b.now→p_s_l14Step__J5 x0 s c w2=some ({c with now:=b.now+1},w2):=by
  intro c w2 h1 h2
  unfold p_s_l14Step__J5 p_s_l14Step__J8
  rw[if_neg (by simp[h1]),h2,addW_of (by omega) (by omega)]
 unfold p_s_l14Step__J3 p_s_l14Step__J4
 by_cases hd:b.data_.live=true
 ·have hdat:=h.data
  unfold dataP at hdat
  rw[if_pos hd] at hdat
  rw[if_pos hd]
  by_cases hl:b.data_.left > 0
  ·have e:finishG b s=({b with data_:={b.data_ with left:=b.data_.left - 1}},false,0):=by
    unfold finishG;rw[if_neg (by simp[hd]),if_pos hl]
   rw[decide_eq_true hl,if_pos rfl,subW_of (by omega) (by omega),hF {b with data_:={b.data_ with left:=b.data_.left - 1}} (GWave.mk w1 w2 w3 w4 w5 w6 false 0 (-1)) rfl rfl,e,if_neg (by simp)]
  ·rw[decide_eq_false hl,if_neg (by simp),if_pos hd]
   have hdone:¬(b.data_.resp≠0∧b.data_.second=false)→p_s_l14Step__J6 x0 s b (GWave.mk w1 w2 w3 w4 w5 w6 true 0 (-1)) false=some (if (finishG b s).2.1=true then ({(readyG (finishG b s).1 s).2 with now:=b.now+1},GWave.mk w1 w2 w3 w4 w5 w6 true (finishG b s).2.2 (readyG (finishG b s).1 s).1) else ({(finishG b s).1 with now:=b.now+1},GWave.mk w1 w2 w3 w4 w5 w6 false (finishG b s).2.2 (-1))):=by
    intro hns
    unfold p_s_l14Step__J6
    rw[if_neg (by simp),if_pos hd,s_finish_eq h hs (by omega) hd hl hns,Option.bind_some]
    have hr:(finishG b s).2.1=true∧(finishG b s).2.2=b.data_.resp:=by
     unfold finishG
     rw[if_neg (by simp[hd]),if_neg hl,if_neg hns]
     split
     ·exact⟨rfl,rfl⟩
     ·split<;>exact⟨rfl,rfl⟩
    rw[if_pos hr.1,hr.2]
    exact hT _ rfl rfl hr.1
   by_cases h2:b.data_.resp≠0
   ·rw[if_pos (decide_eq_true h2)]
    by_cases h3:b.data_.second=false
    ·rw[h3]
     have e:finishG b s=(if b.addr.live then {revokeG {b with data_:={b.data_ with second:=true}} b.addr with addr:=GBeat.z0} else {b with data_:={b.data_ with second:=true}},false,b.data_.resp):=by
      unfold finishG;rw[if_neg (by simp[hd]),if_neg hl,if_pos ⟨h2,h3⟩]
     have hq:∀(x y:Option (GBus×GWave)),(if (finishG b s).2.1=true then x else y)=y:=by
      intro x y
      rw[e]
      exact if_neg (by simp)
     have hq2:(some (if (finishG b s).2.1=true then ({(readyG (finishG b s).1 s).2 with now:=b.now+1},GWave.mk w1 w2 w3 w4 w5 w6 true (finishG b s).2.2 (readyG (finishG b s).1 s).1) else ({(finishG b s).1 with now:=b.now+1},GWave.mk w1 w2 w3 w4 w5 w6 false (finishG b s).2.2 (-1))))=some ({(finishG b s).1 with now:=b.now+1},GWave.mk w1 w2 w3 w4 w5 w6 false b.data_.resp (-1)):=by
      rw[show (finishG b s).2.2=b.data_.resp by rw[e]]
      exact congrArg some (if_neg (by rw[e];simp))
     refine Eq.trans ?_ hq2.symm
     unfold p_s_l14Step__J6
     rw[if_pos (by rfl),show (finishG b s).1=(if b.addr.live then {revokeG {b with data_:={b.data_ with second:=true}} b.addr with addr:=GBeat.z0} else {b with data_:={b.data_ with second:=true}}) by rw[e]]
     by_cases ha:b.addr.live=true
     ·rw[if_pos ha,if_pos ha]
      have hwa:=live_who h ha
      rw[s_revoke_eq (b:={b with addr:=GBeat.z0,data_:={b.data_ with second:=true}}) b.addr h.conf hwa h.ml h.bl (h.mst _ hwa).right h.arb,Option.bind_some]
      have er:revokeG {b with addr:=GBeat.z0,data_:={b.data_ with second:=true}} b.addr={revokeG {b with data_:={b.data_ with second:=true}} b.addr with addr:=GBeat.z0}:=by
       unfold revokeG
       split
       ·rfl
       ·split<;>rfl
      rw[er]
      exact hF _ _ rfl (revoke_now _ _).1
     ·rw[if_neg ha,if_neg ha]
      exact hF _ _ rfl rfl
    ·have h4:b.data_.second=true:=by simpa using h3
     rw[h4,Bool.not_true]
     exact hdone fun hx=>h3 hx.2
   ·rw[if_neg (by simpa using h2)]
    exact hdone fun hx=>h2 hx.1
 ·have hd2:b.data_.live=false:=by simpa using hd
  have e:finishG b s=(b,true,0):=by unfold finishG;rw[if_pos hd2]
  rw[if_neg hd,if_neg (by simp),if_neg hd]
  unfold p_s_l14Step__J6
  have:=hT (GWave.mk w1 w2 w3 w4 w5 w6 true 0 (-1)) rfl rfl (by rw[e])
  rw[e] at this ⊢
  rw[if_neg (by simp),if_neg hd,if_pos rfl]
  simp only at this ⊢
  rw[this]
theorem i_L2_eq (x0:GBus) (w:GWave) (h:BusI b.now b) (hs:s.sm) (hw:w.ready=true) (hg:w.resp=0) (hp:0≤b.picks∧b.picks≤4000) (hn:0≤b.now∧b.now < 4000):
  p_i_Bus_step__L2 x0 s FU b w (b.splits.length:Int) 0=p_i_Bus_step__J4 x0 s (heldOne (tickAll b)) w:=by
 have hlen:=conf_len h.conf
 have hsl:=h.sl
 rw[hsl]
 have:=loop_go (σ:=GBus×GWave×Int) (n:=b.conf.masters.length) (by omega) (fun k=>(tickN b k,w,(b.conf.masters.length:Int))) (B:=fun κ st i=>p_i_Bus_step__L2b x0 s (fun a b c i=>κ (a,b,c) i) st.1 st.2.1 st.2.2 i) (L:=fun m st i=>p_i_Bus_step__L2 x0 s m st.1 st.2.1 st.2.2 i) (fun m s i=>rfl) (r:=p_i_Bus_step__J4 x0 s (heldOne (tickAll b)) w) (fun k hk κ=>?_) fun κ=>?_
 ·simp only[tickN_0] at this
  exact this
 ·have hmk:=mas (c:=b.conf) hk
  obtain⟨t1,t2,t3,t4⟩:=tick_parts h hk
  have hsp:=(h.mst _ hmk).split
  have hlm:=(conf_lims h.conf).2.2.2
  unfold p_i_Bus_step__L2b
  simp only
  rw[if_pos (by simpa using hk),t1,Option.bind_some,setO_of,Option.bind_some,t3,Option.bind_some,show (tickN b k).conf=b.conf from rfl,idx_c hmk,Option.bind_some,i_BucketTick_eq _ (conf_at h.conf hmk),Option.bind_some,setO_of,Option.bind_some,subW_of (by omega) (by omega),maxI_eq,Int.toNat_natCast,t2,t4]
  rfl
 ·have hto:=tickAll_ok h
  unfold p_i_Bus_step__L2b
  simp only[tickN_all h]
  rw[if_neg (by simp)]
  unfold heldOne
  by_cases e:b.holder=-1
  ·rw[if_neg (by simp[tickAll,e]),if_pos (show (tickAll b).holder=-1 from e)]
  ·have hh:=(held_who hto (show (tickAll b).holder≠-1 from e)).2.2.2
   have hl:=(conf_lims h.conf).2.2.1
   have h3:(tickAll b).conf.lockMost=b.conf.lockMost:=rfl
   rw[if_pos (by simp[tickAll,e]),if_neg (show ¬(tickAll b).holder=-1 from e),addW_of (by omega) (by omega),minI_eq]
theorem s_L2_eq (x0:GBus) (w:GWave) (h:BusI b.now b) (hs:s.sm):p_s_l14Step__L2 x0 s FU b w 0=p_s_l14Step__J3 x0 s (heldOne (tickAll b)) w:=by
 have hlen:=conf_len h.conf
 have hml:=h.ml
 have:=loop_go (σ:=GBus×GWave) (n:=b.conf.masters.length) (by omega) (fun k=>(tickN b k,w)) (B:=fun κ st i=>p_s_l14Step__L2b x0 s (fun a b i=>κ (a,b) i) st.1 st.2 i) (L:=fun m st i=>p_s_l14Step__L2 x0 s m st.1 st.2 i) (fun m s i=>rfl) (r:=p_s_l14Step__J3 x0 s (heldOne (tickAll b)) w) (fun k hk κ=>?_) fun κ=>?_
 ·simp only[tickN_0] at this
  exact this
 ·have hmk:=mas (c:=b.conf) hk
  obtain⟨t1,t2,t3,t4⟩:=tick_parts h hk
  have hsp:=(h.mst _ hmk).split
  have hlm:=(conf_lims h.conf).2.2.2
  unfold p_s_l14Step__L2b
  simp only
  rw[if_pos (by show decide ((k:Int) < (b.m.length:Int))=true;rw[hml];simpa using hk),t1,Option.bind_some,setO_of,Option.bind_some,t3,Option.bind_some,show (tickN b k).conf=b.conf from rfl,idx_c hmk,Option.bind_some,s_BucketTick_eq _ (conf_at h.conf hmk),Option.bind_some,setO_of,Option.bind_some,subW_of (by omega) (by omega),maxI_eq,Int.max_comm,Int.toNat_natCast,t2,t4]
  rfl
 ·have hto:=tickAll_ok h
  have hh:=holder_or h
  unfold p_s_l14Step__L2b
  simp only[tickN_all h]
  rw[if_neg (by show ¬decide ((b.conf.masters.length:Int) < (b.m.length:Int))=true;rw[hml];simp)]
  unfold heldOne
  by_cases e:b.holder=-1
  ·rw[if_neg (by show ¬decide (b.holder≥0)=true;rw[e];simp),if_pos (show (tickAll b).holder=-1 from e)]
  ·have hh2:=(held_who hto (show (tickAll b).holder≠-1 from e)).2.2.2
   have hl:=(conf_lims h.conf).2.2.1
   have h3:(tickAll b).conf.lockMost=b.conf.lockMost:=rfl
   have hmb:=mas_bnd (held_who h e).1
   rw[if_pos (by show decide (b.holder≥0)=true;simpa using hmb.1),if_neg (show ¬(tickAll b).holder=-1 from e),addW_of (by omega) (by omega),minI_eq,Int.min_comm]
theorem i_step_wave (h:BusI n b):p_i_Bus_step b s=p_i_Bus_step__J5 b s (waveG b):=by
 unfold p_i_Bus_step p_i_Bus_step__J3 waveG
 by_cases ha:b.addr.live=true
 ·have hwa:=live_who h ha
  by_cases hd:b.data_.live=true
  ·have hwd:=live_whoD h hd
   simp only[ha,hd,if_true,idx_m h.ml hwa,idx_m h.ml hwd,Option.bind_some,i_MstAddr_eq _ (h.mst _ hwa).right,i_MstAddr_eq _ (h.mst _ hwd).right]
   by_cases hf:b.addr.first=true<;>simp[hf]
  ·have hd2:b.data_.live=false:=by simpa using hd
   simp only[ha,hd2,if_true,Bool.false_eq_true,if_false,idx_m h.ml hwa,Option.bind_some,i_MstAddr_eq _ (h.mst _ hwa).right]
   by_cases hf:b.addr.first=true<;>simp[hf]
 ·have ha2:b.addr.live=false:=by simpa using ha
  by_cases hd:b.data_.live=true
  ·have hwd:=live_whoD h hd
   simp only[ha2,hd,if_true,Bool.false_eq_true,if_false,idx_m h.ml hwd,Option.bind_some,i_MstAddr_eq _ (h.mst _ hwd).right]
  ·have hd2:b.data_.live=false:=by simpa using hd
   simp only[ha2,hd2,if_true,Bool.false_eq_true,if_false]
theorem s_wave_eq (h:BusI n b):p_s_l14Wave b=some (waveG b):=by
 unfold p_s_l14Wave p_s_l14Wave__J1 waveG
 by_cases ha:b.addr.live=true
 ·have hwa:=live_who h ha
  by_cases hd:b.data_.live=true
  ·have hwd:=live_whoD h hd
   simp only[ha,hd,if_true,idx_m h.ml hwa,idx_m h.ml hwd,Option.bind_some,s_MstAddr_eq _ (h.mst _ hwa).right,s_MstAddr_eq _ (h.mst _ hwd).right]
   by_cases hf:b.addr.first=true<;>simp[hf]
  ·have hd2:b.data_.live=false:=by simpa using hd
   simp only[ha,hd2,if_true,Bool.false_eq_true,if_false,idx_m h.ml hwa,Option.bind_some,s_MstAddr_eq _ (h.mst _ hwa).right]
   by_cases hf:b.addr.first=true<;>simp[hf]
 ·have ha2:b.addr.live=false:=by simpa using ha
  by_cases hd:b.data_.live=true
  ·have hwd:=live_whoD h hd
   simp only[ha2,hd,if_true,Bool.false_eq_true,if_false,idx_m h.ml hwd,Option.bind_some,s_MstAddr_eq _ (h.mst _ hwd).right]
  ·have hd2:b.data_.live=false:=by simpa using hd
   simp only[ha2,hd2,if_true,Bool.false_eq_true,if_false]
theorem i_L1_eq (x0:GBus) (w:GWave) (h:BusI n b) (ps:List GPost) (hps:ps.length < 1048577∧∀p∈ps,p.req.sm):p_i_Bus_step__L1 x0 s FU b w ps (ps.length:Int) 0=p_i_Bus_step__L2 x0 s FU (postAll b ps) w ((postAll b ps).splits.length:Int) 0:=by
 have hlt:=conf_lt h.conf
 have:=loop_go (σ:=GBus×GWave×List GPost×Int) (n:=ps.length) (by omega) (fun k=>(postAll b (ps.take k),w,ps,(ps.length:Int))) (B:=fun κ st i=>p_i_Bus_step__L1b x0 s (fun a b c d i=>κ (a,b,c,d) i) st.1 st.2.1 st.2.2.1 st.2.2.2 i) (L:=fun m st i=>p_i_Bus_step__L1 x0 s m st.1 st.2.1 st.2.2.1 st.2.2.2 i) (fun m s i=>rfl) (r:=p_i_Bus_step__L2 x0 s FU (postAll b ps) w ((postAll b ps).splits.length:Int) 0) (fun k hk κ=>?_) fun κ=>?_
 ·exact this
 ·have hI:=postAll_ok h (ps.take k)
  have hc:=(postAll_conf b (ps.take k)).1
  rw[postAll_take b ps k hk]
  generalize postAll b (ps.take k)=c at hI hc ⊢
  unfold p_i_Bus_step__L1b postOne
  simp only
  rw[if_pos (by simpa using hk),idx_get hk,Option.bind_some,i_isMaster_eq _ _ (by rw[hc];exact hlt),Option.bind_some]
  by_cases e:masterG c.conf ps[k].who=true
  ·obtain⟨ok,hp⟩:=i_MstPost_eq (r:=ps[k].req) (hI.mst _ e).right (hps.2 _ (List.getElem_mem hk))
   rw[if_pos e,if_pos e,idx_m hI.ml e,Option.bind_some,hp,Option.bind_some,setO_of,Option.bind_some]
  ·rw[if_neg e,if_neg e]
 ·unfold p_i_Bus_step__L1b
  simp only
  rw[if_neg (by simp),List.take_length]
theorem s_L1_eq (x0:GBus) (w:GWave) (h:BusI n b) (ps:List GPost) (hps:ps.length < 1048577∧∀p∈ps,p.req.sm):p_s_l14Step__L1 x0 s FU b w ps 0=p_s_l14Step__L2 x0 s FU (postAll b ps) w 0:=by
 have hlt:=conf_lt h.conf
 have:=loop_go (σ:=GBus×GWave×List GPost) (n:=ps.length) (by omega) (fun k=>(postAll b (ps.take k),w,ps)) (B:=fun κ st i=>p_s_l14Step__L1b x0 s (fun a b c i=>κ (a,b,c) i) st.1 st.2.1 st.2.2 i) (L:=fun m st i=>p_s_l14Step__L1 x0 s m st.1 st.2.1 st.2.2 i) (fun m s i=>rfl) (r:=p_s_l14Step__L2 x0 s FU (postAll b ps) w 0) (fun k hk κ=>?_) fun κ=>?_
 ·exact this
 ·have hI:=postAll_ok h (ps.take k)
  have hc:=(postAll_conf b (ps.take k)).1
  rw[postAll_take b ps k hk]
  generalize postAll b (ps.take k)=c at hI hc ⊢
  unfold p_s_l14Step__L1b postOne
  simp only
  rw[if_pos (by simpa using hk),idx_get hk,Option.bind_some,s_isMaster_eq hI.ml (by rw[hc];exact hlt),Option.bind_some]
  by_cases e:masterG c.conf ps[k].who=true
  ·obtain⟨ok,hp⟩:=s_MstPost_eq (r:=ps[k].req) (hI.mst _ e).right (hps.2 _ (List.getElem_mem hk))
   rw[if_pos e,if_pos e,idx_m hI.ml e,Option.bind_some,hp,Option.bind_some,setO_of,Option.bind_some]
  ·rw[if_neg e,if_neg e]
 ·unfold p_s_l14Step__L1b
  simp only
  rw[if_neg (by simp),List.take_length]
end
theorem i_step_eq {b:GBus} {s:GScript} (h:BusP b) (hs:s.sm) (hn:b.now < 4000):p_i_Bus_step b s=some ((stepG b s).2,(stepG b s).1):=by
 have hP:=postAll_ok h.i (postsG s b.now)
 have hc:=postAll_conf b (postsG s b.now)
 have hp:=h.picks
 have hn2:=h.now
 have hO:=open_ok h s
 have eO:=open_data b s
 rw[i_step_wave h.i]
 unfold p_i_Bus_step__J5
 rw[i_PostsAt_eq _ _ hs,Option.bind_some,i_L1_eq b (waveG b) h.i _ (posts_sm hs _)]
 have hP2:BusI (postAll b (postsG s b.now)).now (postAll b (postsG s b.now)):=by rw[hc.2.1];exact hP
 rw[i_L2_eq b (waveG b) hP2 hs rfl rfl (by rw[hc.2.2.1];omega) (by rw[hc.2.1];omega)]
 have hO2:BusI (openG b s).now (openG b s):=by rw[eO.1];exact hO
 show p_i_Bus_step__J4 b s (openG b s) (waveG b)=_
 rw[i_J4_eq b (waveG b) hO2 hs rfl rfl (by rw[eO.2.2.1];omega) (by rw[eO.1];omega),eO.1]
 unfold stepG
 split<;>rfl
theorem s_step_eq {b:GBus} {s:GScript} (h:BusP b) (hs:s.sm) (hn:b.now < 4000):p_s_l14Step b s=some ((stepG b s).1,(stepG b s).2):=by
 have hP:=postAll_ok h.i (postsG s b.now)
 have hc:=postAll_conf b (postsG s b.now)
 have hp:=h.picks
 have hn2:=h.now
 have hO:=open_ok h s
 have eO:=open_data b s
 unfold p_s_l14Step
 rw[s_l13Copy_eq b h.sm,Option.bind_some,s_wave_eq h.i,Option.bind_some,s_PostsAt_eq _ _ hs,Option.bind_some,s_L1_eq b (waveG b) h.i _ (posts_sm hs _)]
 have hP2:BusI (postAll b (postsG s b.now)).now (postAll b (postsG s b.now)):=by rw[hc.2.1];exact hP
 rw[s_L2_eq b (waveG b) hP2 hs]
 have hO2:BusI (openG b s).now (openG b s):=by rw[eO.1];exact hO
 show p_s_l14Step__J3 b s (openG b s) (waveG b)=_
 rw[s_J3_eq b (waveG b) hO2 hs rfl rfl rfl (by rw[eO.2.2.1];omega) (by rw[eO.1];omega),eO.1]
 unfold stepG
 split<;>rfl
end Go.Proofs.YtciimjnpdmmfnaaGreat.Ev
namespace Go.Proofs.YtciimjnpdmmfnaaGreat.Ev
open Go Go.Proofs
set_option linter.unusedVariables false
set_option linter.unusedSimpArgs false
def okB (b:GBus):Bool:=(p_s_BusOk b).getD false
theorem okB_iff {b:GBus} (hs:b.sm):okB b=true↔BusP b:=by
 obtain⟨r,-,h2,h3⟩:=BusOk_eq b hs
 unfold okB
 rw[h2]
 exact h3
theorem i_okB {b:GBus} (hs:b.sm):p_i_BusOk b=some (okB b):=by
 obtain⟨r,h1,h2,h3⟩:=BusOk_eq b hs
 unfold okB
 rw[h1,h2];rfl
theorem s_okB {b:GBus} (hs:b.sm):p_s_BusOk b=some (okB b):=by
 obtain⟨r,h1,h2,h3⟩:=BusOk_eq b hs
 unfold okB
 rw[h2];rfl
theorem BusP.ok {b:GBus} (h:BusP b):okB b=true:=(okB_iff h.sm).2 h
def bstepG (b:GBus) (s:GScript):GBus×GWave:=if okB b=true∧b.now≠4000 then stepG b s else (b,GWave.z0)
theorem i_BusStep_eq {b:GBus} {s:GScript} (hb:b.sm) (hs:s.sm):p_i_BusStep b s=some (bstepG b s):=by
 unfold p_i_BusStep bstepG
 rw[i_ownBus_eq b hb,Option.bind_some,i_okB hb,Option.bind_some]
 unfold p_i_BusStep__J1
 by_cases h:okB b=true
 ·have hP:=(okB_iff hb).1 h
  rw[h,if_neg (by simp)]
  by_cases hn:b.now=4000
  ·rw[if_pos (by simp[hn]),if_neg (by simp[hn])]
  ·have:=hP.now
   rw[if_neg (by simpa using hn),if_pos ⟨rfl,hn⟩,i_step_eq hP hs (by omega),Option.bind_some,i_ownBus_eq _ (step_ok hP s (by omega)).1.sm]
   rfl
 ·have h2:okB b=false:=by simpa using h
  simp[h2]
def newG (c:GConf):GBus:={GBus.z0 with conf:=c,m:=List.replicate c.masters.length GMst.z0,buckets:=c.masters.map bnewG,splits:=List.replicate c.masters.length 0,holder:=-1,last:=-1,model:=GModel.mk (List.replicate 192 0) (GDev.mk (List.replicate 4 0) 0 [])}
def newbG (c:GConf):GBus×Bool:=if confG c=true then (newG c,true) else (GBus.z0,false)
theorem s_DevNew_eq:p_s_DevNew=some (GDev.mk (List.replicate 4 0) 0 []):=rfl
theorem s_ModelNew_eq:p_s_ModelNew=some (GModel.mk (List.replicate 192 0) (GDev.mk (List.replicate 4 0) 0 [])):=by
 unfold p_s_ModelNew
 rw[show (192:Int)=((192:Nat):Int) from rfl,mkI_of (by decide) (by decide),Option.bind_some,s_DevNew_eq]
 rfl
def newK (c:GConf) (k:Nat):GBus:={newG c with m:=List.replicate k GMst.z0,buckets:=(c.masters.take k).map bnewG,splits:=List.replicate k 0}
theorem newK_succ (c:GConf) {k:Nat} (hk:k < c.masters.length):newK c (k+1)={newK c k with m:=(newK c k).m++[GMst.z0],buckets:=(newK c k).buckets++[bnewG c.masters[k]],splits:=(newK c k).splits++[0]}:=by
 unfold newK
 simp only[List.replicate_succ']
 rw[List.take_succ_eq_append_getElem hk,List.map_append]
 rfl
theorem newK_all (c:GConf):newK c c.masters.length=newG c:=by
 unfold newK
 rw[List.take_length]
 rfl
theorem s_BusNew_eq (c:GConf) (hl:c.masters.length < 1048577):p_s_BusNew c=some (newbG c):=by
 unfold p_s_BusNew newbG
 rw[s_ConfOk_eq c hl,Option.bind_some]
 by_cases h:confG c=true
 ·rw[h,if_neg (by simp),(conf_copy c hl).2,Option.bind_some,s_ModelNew_eq,Option.bind_some,if_pos rfl]
  rw[←newK_all c]
  refine loop_go (σ:=GBus) (n:=c.masters.length) (by omega) (newK c) (B:=p_s_BusNew__L1b c) (L:=p_s_BusNew__L1 c) (fun m s i=>rfl) (fun k hk κ=>?_) fun κ=>?_
  ·unfold p_s_BusNew__L1b
   have e1:(newK c k).m.length=k:=by simp[newK]
   have e2:(newK c k).buckets.length=k:=by simp[newK];omega
   have e3:(newK c k).splits.length=k:=by simp[newK]
   rw[if_pos (by simpa using hk),appI_of (by simp only[List.length_cons,List.length_nil];omega) (by simp only[List.length_cons,List.length_nil];omega),Option.bind_some,idx_get hk,Option.bind_some,s_BucketNew_eq,Option.bind_some,appI_of (by simp only[List.length_cons,List.length_nil];omega) (by simp only[List.length_cons,List.length_nil];omega),Option.bind_some,appI_of (by simp only[List.length_cons,List.length_nil];omega) (by simp only[List.length_cons,List.length_nil];omega),Option.bind_some,newK_succ c hk]
  ·unfold p_s_BusNew__L1b
   rw[if_neg (by simp)]
 ·simp[h]
theorem flyG_new (c:GConf) (i:Int):flyG (newG c) i=0:=rfl
theorem new_m (c:GConf) {i:Int} (h:masterG c i=true):atI (newG c).m i=GMst.z0:=by
 obtain⟨k,rfl,hk⟩:=mas_nat h
 have hk2:k < (newG c).m.length:=by simpa [newG] using hk
 rw[at_nat hk2]
 simp[newG]
theorem right_z0:RightP GMst.z0:=⟨by decide,by decide,fun r hr=>absurd hr (by simp[GMst.z0]),fun _=>⟨rfl,rfl,rfl,rfl,rfl⟩,fun h=>absurd rfl h⟩
theorem new_model:ModelP (GModel.mk (List.replicate 192 0) (GDev.mk (List.replicate 4 0) 0 [])):=⟨List.length_replicate,by show (List.replicate 192 (0:Int)).all byteG=true;rw[List.all_replicate];rfl,⟨rfl,by show ∀v∈List.replicate 4 (0:Int),numG v 2=true;decide,by show numG 0 2=true;decide,by show 0≤4;decide,fun v hv=>absurd hv (by show ¬v∈([]:List Int);simp)⟩⟩
theorem new_ok {c:GConf} (h:confG c=true):BusP (newG c):=by
 have hl:=conf_len h
 have hm0:masterG c 0=true:=by simp only[masterG,decide_eq_true_eq];omega
 have hsl:0 < slotG c:=by
  have:=slotG_le c
  simp only[confG,Bool.and_eq_true,decide_eq_true_eq] at h
  omega
 have hlim:=conf_lims h
 have e0:(0:Int)≤0:=Int.le_refl 0
 refine⟨h,⟨e0,by show (0:Int)≤4000;omega⟩,by simp[newG],by simp[newG],by simp[newG],fun i hi=>⟨by rw[new_m c hi];exact right_z0,?_,?_,?_⟩,?_,.inl rfl,?_,⟨e0,e0⟩,fun hx=>absurd hx (by simp[newG,GBus.z0,GBeat.z0]),fun hx=>absurd hx (by simp[newG,GBus.z0,GBeat.z0]),fun i hi=>?_,?_,?_,⟨fun i hi hb=>?_,?_⟩,fun d hd=>absurd hd (by simp[newG,GBus.z0]),?_⟩
 ·rw[new_m c hi]
  show (0:Int)≤c.maxRetry
  exact hlim.1.1
 ·obtain⟨k,rfl,hk⟩:=mas_nat hi
  have hk2:k < (newG c).buckets.length:=by simpa [newG] using hk
  have hk:k < c.masters.length:=hk
  have hm:=conf_at h hi
  show bucketG (atI (newG c).buckets k) (atI c.masters k)=true
  rw[at_nat hk] at hm ⊢
  rw[at_nat hk2]
  have:(newG c).buckets[k]=bnewG c.masters[k]:=by simp[newG]
  rw[this]
  exact bnew_ok hm ⟨hsl,fun hp=>List.countP_pos_iff.2 ⟨_,List.getElem_mem hk,hp⟩⟩
 ·obtain⟨k,rfl,hk⟩:=mas_nat hi
  have hk2:k < (newG c).splits.length:=by simpa [newG] using hk
  rw[at_nat hk2]
  have:(newG c).splits[k]=0:=by simp[newG]
  rw[this]
  exact⟨e0,by show (0:Int)≤c.maxSplit;omega⟩
 ·show wrrG GWrr.z0 c=true
  unfold wrrG
  have:=turnG_le c 0
  simp[h,hm0,GWrr.z0,this.1]
 ·exact new_model
 ·rw[new_m c hi,flyG_new];rfl
 ·unfold addrP
  rw[if_neg (by simp[newG,GBus.z0,GBeat.z0])]
  rfl
 ·unfold dataP
  rw[if_neg (by simp[newG,GBus.z0,GBeat.z0])]
  rfl
 ·rw[new_m c hi] at hb
  exact absurd hb (by decide)
 ·show if (-1:Int)=-1 then (0:Int)=0 else _
  rw[if_pos rfl]
 ·exact List.Pairwise.nil
theorem newB_ok {c:GConf} (h:confG c=true):newbG c=(newG c,true):=if_pos h
end Go.Proofs.YtciimjnpdmmfnaaGreat.Ev
namespace Go.Proofs.YtciimjnpdmmfnaaGreat.Ev
open Go Go.Proofs
set_option linter.unusedVariables false
set_option linter.unusedSimpArgs false
theorem l5Ints_self (xs:List Int) (hl:xs.length < 1048577):p_s_l5Ints xs xs=some true:=by
 unfold p_s_l5Ints
 rw[if_neg (by simp)]
 refine loop_go1 (n:=xs.length) (by omega) (B:=p_s_l5Ints__L1b xs xs) (L:=p_s_l5Ints__L1 xs xs) (fun m i=>rfl) (fun k hk κ=>?_) fun κ=>?_
 ·unfold p_s_l5Ints__L1b
  simp[hk,idx_get hk]
 ·unfold p_s_l5Ints__L1b
  simp
theorem SameReq_self (r:GReq) (hs:r.sm):p_s_SameReq r r=some true:=by
 unfold p_s_SameReq
 simp[l5Ints_self _ hs]
theorem SameMst_self (m:GMst) (hs:m.sm):p_s_SameMst m m=some true:=by
 unfold p_s_SameMst
 rw[if_neg (by simp)]
 have:=hs.1
 refine loop_go1 (n:=m.queue.length) (by omega) (B:=p_s_SameMst__L1b m m) (L:=p_s_SameMst__L1 m m) (fun m i=>rfl) (fun k hk κ=>?_) fun κ=>?_
 ·unfold p_s_SameMst__L1b
  simp[hk,idx_get hk,SameReq_self _ (hs.2 _ (List.getElem_mem hk))]
 ·unfold p_s_SameMst__L1b
  simp
theorem SameConf_self (c:GConf) (hl:c.masters.length < 1048577):p_s_SameConf c c=some true:=by
 unfold p_s_SameConf
 rw[if_neg (by simp)]
 refine loop_go1 (n:=c.masters.length) (by omega) (B:=p_s_SameConf__L1b c c) (L:=p_s_SameConf__L1 c c) (fun m i=>rfl) (fun k hk κ=>?_) fun κ=>?_
 ·unfold p_s_SameConf__L1b
  simp[hk,idx_get hk]
 ·unfold p_s_SameConf__L1b
  simp
theorem SameModel_self (m:GModel) (hs:m.sm):p_s_SameModel m m=some true:=by
 unfold p_s_SameModel p_s_SameDev
 simp[l5Ints_self _ hs.1,l5Ints_self _ hs.2.1,l5Ints_self _ hs.2.2]
theorem l13Same_self (xs:List GDone) (hl:xs.length < 1048577):p_s_l13Same xs xs=some true:=by
 unfold p_s_l13Same
 rw[if_neg (by simp)]
 refine loop_go1 (n:=xs.length) (by omega) (B:=p_s_l13Same__L1b xs xs) (L:=p_s_l13Same__L1 xs xs) (fun m i=>rfl) (fun k hk κ=>?_) fun κ=>?_
 ·unfold p_s_l13Same__L1b
  simp[hk,idx_get hk]
 ·unfold p_s_l13Same__L1b
  simp
theorem SameLog_self (xs:List GDone) (hl:xs.length < 1048577):p_s_SameLog xs xs=some true:=by
 unfold p_s_SameLog
 rw[l13Same_self xs hl];rfl
theorem SameBus_self (b:GBus) (hs:b.sm):p_s_SameBus b b=some true:=by
 unfold p_s_SameBus
 rw[SameConf_self _ hs.conf,Option.bind_some,if_neg (by simp),if_neg (by simp),if_neg (by simp),if_neg (by simp),l5Ints_self _ hs.sl,Option.bind_some,if_neg (by simp),if_neg (by simp),if_neg (by simp),if_neg (by simp),if_neg (by simp),if_neg (by simp),if_neg (by simp),SameModel_self _ hs.model,Option.bind_some,if_neg (by simp),if_neg (by simp),l13Same_self _ hs.log,Option.bind_some]
 unfold p_s_SameBus__J3
 rw[if_neg (by simp)]
 have:=hs.ml
 have:=hs.bl
 have h2:p_s_SameBus__L2 b b FU 0=some true:=by
  refine loop_go1 (n:=b.buckets.length) (by omega) (B:=p_s_SameBus__L2b b b) (L:=p_s_SameBus__L2 b b) (fun m i=>rfl) (fun k hk κ=>?_) fun κ=>?_
  ·unfold p_s_SameBus__L2b
   simp[hk,idx_get hk]
  ·unfold p_s_SameBus__L2b
   simp
 refine loop_go1 (n:=b.m.length) (by omega) (B:=p_s_SameBus__L1b b b) (L:=p_s_SameBus__L1 b b) (fun m i=>rfl) (fun k hk κ=>?_) fun κ=>?_
 ·unfold p_s_SameBus__L1b
  simp[hk,idx_get hk,SameMst_self _ (hs.mst _ (List.getElem_mem hk))]
 ·unfold p_s_SameBus__L1b
  simp[h2]
def quietG (b:GBus):Bool:=b.m.all fun m=>decide (m.queue=[])
def idleG (b:GBus):Bool:=okB b&&quietG b
theorem i_isIdle_eq {b:GBus} (hl:b.m.length < 1048577):p_i_Bus_isIdle b=some (quietG b):=by
 unfold p_i_Bus_isIdle p_slices_ContainsFunc_Mst_Mst__i_Bus_isIdle_1 p_slices_IndexFunc_Mst_Mst__i_Bus_isIdle_1
 have e:∀a:GMst,p_i_Bus_isIdle_1 a=some (!decide (a.queue=[])):=by
  intro a
  unfold p_i_Bus_isIdle_1
  by_cases h:a.queue=[]
  ·simp[h]
  ·have:=List.length_pos_iff.2 h
   simp only[h,decide_false,Bool.not_false]
   exact congrArg some (decide_eq_true (by omega))
 rcases index_list b.m (by omega) p_i_Bus_isIdle_1 (fun m=>decide (m.queue=[])) (fun a _=>e a) (p_slices_IndexFunc_Mst_Mst__i_Bus_isIdle_1__L1 b.m) (fun m i=>rfl) with⟨h1,h2⟩|⟨k,hk,h2,h3,-⟩
 ·rw[h2]
  unfold quietG
  rw[h1]
  rfl
 ·rw[h2]
  have:quietG b=false:=by
   unfold quietG
   rw[List.all_eq_false]
   exact⟨_,List.getElem_mem hk,by rw[h3];simp⟩
  rw[this]
  simp
theorem i_IdleBus_eq {b:GBus} (hs:b.sm):p_i_IdleBus b=some (idleG b):=by
 unfold p_i_IdleBus idleG
 rw[i_okB hs,Option.bind_some,i_isIdle_eq hs.ml]
 by_cases h:okB b=true
 ·simp[h]
 ·simp[h]
theorem any_list {α ρ:Type} (xs:List α) (hl:xs.length < 4611686018427387904) (c:α→Bool) {no:Option ρ} (fin:Option ρ) (L:Nat→Int→Option ρ)
  (hL:∀m i,L (m+1) i=if decide (i < (xs.length:Int))=true then (idx xs i).bind fun a=>if c a=true then no else L m (addW i 1) else fin):L FU 0=if xs.any c=true then no else fin:=by
 have key:∀(m k:Nat),k≤xs.length→xs.length - k < m→L m (k:Int)=if (xs.drop k).any c=true then no else fin:=by
  intro m
  induction m with
  | zero=>intro k _ h;omega
  | succ m ih=>
   intro k hk hm
   rw[hL]
   by_cases hc:k < xs.length
   ·rw[if_pos (by simpa using hc),idx_get hc,Option.bind_some,addW_nat (by omega),ih (k+1) (by omega) (by omega),List.drop_eq_getElem_cons hc,List.any_cons]
    by_cases h:c xs[k]=true
    ·simp[h]
    ·simp[h]
   ·rw[if_neg (by simpa using hc),List.drop_of_length_le (by omega)]
    simp
 have:=key FU 0 (Nat.zero_le _) (by have:=FU_big;omega)
 simpa using this
theorem quiet_any (b:GBus):(b.m.any fun a=>decide ((a.queue.length:Int) > 0))=!quietG b:=by
 unfold quietG
 rw[List.not_all_eq_any_not]
 congr 1
 funext a
 by_cases h:a.queue=[]
 ·simp[h]
 ·have:=List.length_pos_iff.2 h
  simp only[h,decide_false,Bool.not_false]
  exact decide_eq_true (by omega)
end Go.Proofs.YtciimjnpdmmfnaaGreat.Ev
namespace Go.Proofs.YtciimjnpdmmfnaaGreat.Ev
open Go Go.Proofs
set_option linter.unusedVariables false
set_option linter.unusedSimpArgs false
def So {β:Type} (e:Option β) (R:β→Prop):Prop:=∃b,e=some b∧R b
theorem So.bind {α β:Type} {e:Option α} {Q:α→Prop} {f:α→Option β} {R:β→Prop} (h:So e Q) (k:∀a,Q a→So (f a) R):So (e.bind f) R:=by
 obtain⟨a,rfl,q⟩:=h
 exact k a q
theorem So.ret {β:Type} {b:β} {R:β→Prop} (h:R b):So (some b) R:=⟨b,rfl,h⟩
theorem So.ite {β:Type} {c:Prop} [Decidable c] {x y:Option β} {R:β→Prop} (h1:c→So x R) (h2:¬c→So y R):So (if c then x else y) R:=by
 split
 ·exact h1 ‹_›
 ·exact h2 ‹_›
def CurOk (c:GL1Cur):Prop:=0≤c.i∧c.i≤(c.b.length:Int)∧c.b.length < 4611686018427387904
theorem and255 (a:Int):0≤andW a 255∧andW a 255≤255:=by
 have h:((BitVec.ofInt IntKind.i64.bits a &&& BitVec.ofInt IntKind.i64.bits 255).toNat)≤255:=by
  rw[BitVec.toNat_and]
  have:(BitVec.ofInt IntKind.i64.bits 255).toNat=255:=by decide
  rw[this]
  exact Nat.and_le_right
 unfold andW
 generalize (BitVec.ofInt IntKind.i64.bits a &&& BitVec.ofInt IntKind.i64.bits 255).toNat=n at*
 rw[wrap64 (by omega) (by omega)]
 omega
theorem l1Byte_ok {c:GL1Cur} (h:CurOk c):∃r c',p_s_l1Byte c=some (r,c')∧CurOk c'∧0≤r∧r≤255:=by
 obtain⟨h1,h2,h3⟩:=h
 unfold p_s_l1Byte
 by_cases hc:c.i < (c.b.length:Int)
 ·obtain⟨k,hk⟩:∃k:Nat,c.i=k:=⟨c.i.toNat,by omega⟩
  have hk2:k < c.b.length:=by omega
  rw[if_pos (by simpa using hc),hk,idx_get hk2,Option.bind_some]
  refine⟨_,_,rfl,⟨?_,?_,h3⟩,and255 _⟩
  ·show 0≤addW (k:Int) 1
   rw[addW_nat (by omega)];omega
  ·show addW (k:Int) 1≤_
   rw[addW_nat (by omega)];show ((k+1:Nat):Int)≤(c.b.length:Int);omega
 ·rw[if_neg (by simpa using hc)]
  exact⟨_,_,rfl,⟨h1,h2,h3⟩,and255 _⟩
theorem remW_lt {a n:Int} (h0:0≤a) (hn:0 < n):0≤remW a n∧remW a n < n:=by
 unfold remW
 rw[Int.tmod_eq_emod_of_nonneg h0]
 exact⟨Int.emod_nonneg _ (by omega),Int.emod_lt_of_pos _ hn⟩
theorem l1Below_ok {c:GL1Cur} (n:Int) (h:CurOk c):∃r c',p_s_l1Below c n=some (r,c')∧CurOk c'∧0≤r∧(0 < n→r < n)∧(n≤0→r=0):=by
 unfold p_s_l1Below
 by_cases h0:n≤0
 ·rw[if_pos (by simpa using h0)]
  exact⟨_,_,rfl,h,by omega,fun _=>by omega,fun _=>rfl⟩
 ·rw[if_neg (by simpa using h0)]
  by_cases h1:n≤256
  ·rw[if_pos (by simpa using h1)]
   obtain⟨r,c',hr,hc,h2,h3⟩:=l1Byte_ok h
   rw[hr,Option.bind_some,nzI_of (by omega),Option.bind_some]
   have:=remW_lt h2 (by omega:0 < n)
   exact⟨_,_,rfl,hc,this.1,fun _=>this.2,fun _=>by omega⟩
  ·rw[if_neg (by simpa using h1)]
   obtain⟨r,c',hr,hc,h2,h3⟩:=l1Byte_ok h
   obtain⟨r2,c2,hr2,hc2,h22,h32⟩:=l1Byte_ok hc
   obtain⟨r3,c3,hr3,hc3,h23,h33⟩:=l1Byte_ok hc2
   obtain⟨r4,c4,hr4,hc4,h24,h34⟩:=l1Byte_ok hc3
   rw[hr,Option.bind_some,hr2,Option.bind_some,hr3,Option.bind_some,hr4,Option.bind_some,nzI_of (by omega),Option.bind_some]
   have e:addW (addW (addW (mulW r 16777216) (mulW r2 65536)) (mulW r3 256)) r4=r*16777216+r2*65536+r3*256+r4:=by
    rw[mulW_of (by omega) (by omega),mulW_of (by omega) (by omega),mulW_of (by omega) (by omega),addW_of (a:=r*16777216) (by omega) (by omega),addW_of (a:=r*16777216+r2*65536) (by omega) (by omega),addW_of (by omega) (by omega)]
   have:=remW_lt (by rw[e];omega:0≤addW (addW (addW (mulW r 16777216) (mulW r2 65536)) (mulW r3 256)) r4) (by omega:0 < n)
   exact⟨_,_,rfl,hc4,this.1,fun _=>this.2,fun _=>by omega⟩
theorem l1New_ok (x:List Int) (hl:x.length < 1048577):∃c,p_s_l1New x=some c∧CurOk c:=by
 unfold p_s_l1New
 have key:∀(m k:Nat) (v:Int),k≤x.length→x.length - k < m→∃c,p_s_l1New__L1 x m v k=some c∧CurOk c:=by
  intro m
  induction m with
  | zero=>intro k _ _ h;omega
  | succ m ih=>
   intro k v hk hm
   have e:p_s_l1New__L1 x (m+1) v k=p_s_l1New__L1b x (p_s_l1New__L1 x m) v k:=rfl
   rw[e]
   unfold p_s_l1New__L1b p_s_l1New__J2
   by_cases hc:k < x.length
   ·rw[if_pos (by simpa using hc)]
    by_cases h4:(k:Int) < 4000
    ·rw[if_pos (by simpa using h4),idx_get hc,Option.bind_some,addW_nat (by omega)]
     exact ih (k+1) _ (by omega) (by omega)
    ·rw[if_neg (by simpa using h4)]
     exact⟨_,rfl,by simp[CurOk];omega⟩
   ·rw[if_neg (by simpa using hc)]
    exact⟨_,rfl,by simp[CurOk];omega⟩
 exact key FU 0 _ (Nat.zero_le _) (by have:=FU_big;omega)
theorem l1Once_ok {c:GL1Cur} (n:Int) (h:CurOk c):∃r c',p_s_l1Once c n=some (r,c')∧CurOk c':=by
 unfold p_s_l1Once
 obtain⟨r,c',hr,hc,_⟩:=l1Below_ok n h
 rw[hr]
 exact⟨_,_,rfl,hc⟩
theorem idx_in {α:Type} {xs:List α} {i:Int} (h0:0≤i) (h1:i < (xs.length:Int)):∃a,idx xs i=some a∧a∈xs:=by
 obtain⟨k,rfl⟩:∃k:Nat,i=k:=⟨i.toNat,by omega⟩
 have hk:k < xs.length:=by omega
 exact⟨_,idx_get hk,List.getElem_mem hk⟩
theorem l1PickInt_ok {c:GL1Cur} (xs:List Int) (hx:xs≠[]) (h:CurOk c):∃r c',p_s_l1PickInt c xs=some (r,c')∧CurOk c'∧r∈xs:=by
 unfold p_s_l1PickInt
 obtain⟨r,c',hr,hc,h0,h1,_⟩:=l1Below_ok (xs.length:Int) h
 have hl:0 < xs.length:=List.length_pos_iff.2 hx
 obtain⟨a,ha,hm⟩:=idx_in h0 (h1 (by omega))
 rw[hr,Option.bind_some,ha]
 exact⟨_,_,rfl,hc,hm⟩
theorem below_so {c:GL1Cur} (n:Int) (h:CurOk c):So (p_s_l1Below c n) fun r=>CurOk r.2∧0≤r.1∧(0 < n→r.1 < n)∧(n≤0→r.1=0):=by
 obtain⟨r,c',e,h1,h2,h3,h4⟩:=l1Below_ok n h
 exact⟨_,e,h1,h2,h3,h4⟩
theorem once_so {c:GL1Cur} (n:Int) (h:CurOk c):So (p_s_l1Once c n) fun r=>CurOk r.2:=by
 obtain⟨r,c',e,h1⟩:=l1Once_ok n h
 exact⟨_,e,h1⟩
theorem pick_so {c:GL1Cur} (xs:List Int) (hx:xs≠[]) (h:CurOk c):So (p_s_l1PickInt c xs) fun r=>CurOk r.2∧r.1∈xs:=by
 obtain⟨r,c',e,h1,h2⟩:=l1PickInt_ok xs hx h
 exact⟨_,e,h1,h2⟩
theorem idx_so {α:Type} {xs:List α} {i:Int} (h0:0≤i) (h1:i < (xs.length:Int)):So (idx xs i) fun a=>a∈xs:=idx_in h0 h1
theorem set_so {α:Type} (xs:List α) (i:Int) (a:α):So (setO xs i a) fun r=>r=xs.set i.toNat a:=⟨_,rfl,rfl⟩
theorem app_so {α:Type} (sz:Nat) (hz:sz≤1024) (xs ys:List α) (h:xs.length+ys.length≤1048600):So (appI sz xs ys) fun r=>r=xs++ys:=by
 have hb:(xs.length+ys.length)*sz≤140737488355328:=Nat.le_trans (Nat.mul_le_mul h hz) (by decide)
 exact⟨_,appI_of hb (by omega),rfl⟩
theorem l6Conf_so {x0:GL1Cur} (h:CurOk x0):So (p_s_l6Conf x0) fun r=>CurOk r.2∧confG r.1=true:=by
 unfold p_s_l6Conf
 refine (below_so 3 h).bind fun r1 ⟨h1,a1,b1,_⟩=>?_
 refine (below_so 3 h1).bind fun r2 ⟨h2,a2,b2,_⟩=>?_
 refine (below_so 3 h2).bind fun r3 ⟨h3,a3,b3,_⟩=>?_
 refine (below_so 6 h3).bind fun r4 ⟨h4,a4,b4,_⟩=>?_
 refine (below_so 12 h4).bind fun r5 ⟨h5,a5,b5,_⟩=>?_
 refine (below_so 4 h5).bind fun r6 ⟨h6,a6,b6,_⟩=>?_
 have b1:=b1 (by omega)
 have b2:=b2 (by omega)
 have b3:=b3 (by omega)
 have b4:=b4 (by omega)
 have b5:=b5 (by omega)
 have b6:=b6 (by omega)
 rw[addW_of (by omega) (by omega),addW_of (by omega) (by omega),addW_of (by omega) (by omega),addW_of (by omega) (by omega)]
 generalize r1.1=q at*
 generalize r2.1=w at*
 generalize r3.1=e at*
 generalize r4.1=s at*
 generalize r5.1=l at*
 have hcost:∀ms,costG (GConf.mk ms (1+q) w e (1+s) (1+l))=(e+2)*(w+6):=fun ms=>by
  unfold costG
  rw[if_pos (by simp only;omega)]
 have hcl:12≤(e+2)*(w+6)∧(e+2)*(w+6)≤32:=by
  obtain rfl|rfl|rfl:e=0∨e=1∨e=2:=by omega
  all_goals omega
 have hslot:∀ms,slotG (GConf.mk ms (1+q) w e (1+s) (1+l))=2*((e+2)*(w+6))+(1+l):=fun ms=>by
  unfold slotG
  rw[hcost,if_neg (by omega),if_pos (by simp only;omega)]
 generalize (e+2)*(w+6)=cost at*
 have key:∀(m k:Nat) (c:GL1Cur) (ms:List GMConf),CurOk c→k < m→1≤ms.length+k→ms.length+k≤4→(∀x∈ms,(1≤x.weight∧x.weight≤4)∧x.prio=false∧x.every=0∧x.cap=0)→So (p_s_l6Conf__L1 x0 m c (GConf.mk ms (1+q) w e (1+s) (1+l)) (k:Int)) fun r=>CurOk r.2∧confG r.1=true:=by
  intro m
  induction m with
  | zero=>intro k _ _ _ h;omega
  | succ m ih=>
   intro k c ms hc hm hl1 hl2 hms
   have eL:p_s_l6Conf__L1 x0 (m+1) c (GConf.mk ms (1+q) w e (1+s) (1+l)) (k:Int)=p_s_l6Conf__L1b x0 (p_s_l6Conf__L1 x0 m) c (GConf.mk ms (1+q) w e (1+s) (1+l)) (k:Int):=rfl
   rw[eL]
   unfold p_s_l6Conf__L1b
   cases k with
   | succ k=>
    rw[if_pos (by simp)]
    refine (below_so 3 hc).bind fun r1 ⟨h1,a1,b1,_⟩=>?_
    have b1:=b1 (by omega)
    refine (app_so 32 (by decide) _ _ (by simp only[List.length_cons,List.length_nil];omega)).bind fun z hz=>?_
    rw[subW_of (by omega) (by omega),show ((k+1:Nat):Int) - 1=(k:Int) by omega]
    subst hz
    refine ih k r1.2 _ h1 (by omega) (by simp;omega) (by simp;omega) fun x hx=>?_
    rw[List.mem_append,List.mem_singleton] at hx
    rcases hx with hx|rfl
    ·exact hms x hx
    ·refine⟨?_,rfl,rfl,rfl⟩
     show 1≤addW 1 r1.1∧addW 1 r1.1≤4
     rw[addW_of (by omega) (by omega)]
     omega
   | zero=>
    have hgood:∀ys:List GMConf,ys.length=ms.length→(∀x∈ys,mconfG (GConf.mk ys (1+q) w e (1+s) (1+l)) x=true)→confG (GConf.mk ys (1+q) w e (1+s) (1+l))=true:=by
     intro ys hy h
     unfold confG
     rw[hslot]
     simp only[Bool.and_eq_true,decide_eq_true_eq,List.all_eq_true]
     refine⟨⟨⟨⟨?_,?_⟩,?_⟩,?_⟩,h⟩<;>omega
    rw[if_neg (by simp)]
    refine (once_so 2 hc).bind fun r1 h1=>?_
    refine So.ite (fun _=>?_) fun _=>So.ret ⟨h1,hgood ms rfl fun x hx=>?_⟩
    ·refine (below_so (ms.length:Int) h1).bind fun r2 ⟨h2,a2,b2,_⟩=>?_
     have b2:=b2 (by omega)
     obtain⟨k,hk⟩:∃k:Nat,r2.1=(k:Int):=⟨r2.1.toNat,by omega⟩
     simp only[hk] at a2 b2 ⊢
     have hk2:k < ms.length:=by omega
     rw[idx_get hk2,Option.bind_some,setO_of,Option.bind_some,s_SlotOf_eq,Option.bind_some,hslot]
     refine (below_so 30 h2).bind fun r3 ⟨h3,a3,b3,_⟩=>?_
     have b3:=b3 (by omega)
     rw[Int.toNat_natCast,idx_get (by simpa using hk2),Option.bind_some,setO_of,Option.bind_some]
     refine (below_so 4 h3).bind fun r4 ⟨h4,a4,b4,_⟩=>?_
     have b4:=b4 (by omega)
     rw[Int.toNat_natCast,idx_get (by simpa using hk2),Option.bind_some,setO_of,Option.bind_some,Int.toNat_natCast]
     refine So.ret ⟨h4,?_⟩
     simp only[List.getElem_set_self,List.set_set]
     rw[mulW_of (by omega) (by omega),addW_of (by omega) (by omega),addW_of (by omega) (by omega)]
     have hx:=hms _ (List.getElem_mem hk2)
     have hp:List.countP (fun x:GMConf=>x.prio) (ms.set k (GMConf.mk ms[k].weight true (2*(2*cost+(1+l))+r3.1) (1+r4.1)))=1:=by
      have h0:List.countP (fun x:GMConf=>x.prio) ms=0:=List.countP_eq_zero.2 fun x hx=>by simp[(hms x hx).2.1]
      rw[List.countP_set hk2,h0]
      simp[hx.2.1]
     refine hgood _ (by simp) fun x hx2=>?_
     rcases List.mem_or_eq_of_mem_set hx2 with hx2|rfl
     ·have:=hms x hx2
      unfold mconfG
      rw[this.2.1]
      simp[this.1,this.2.2]
     ·unfold mconfG
      simp only[hslot]
      unfold priosG
      rw[hp]
      simp only[if_true,Bool.and_eq_true,decide_eq_true_eq]
      refine⟨hx.1,⟨?_,?_⟩,?_⟩<;>omega
    ·have:=hms x hx
     unfold mconfG
     rw[this.2.1]
     simp[this.1,this.2.2]
 rw[show (1:Int)+r6.1=((r6.1.toNat+1:Nat):Int) by omega]
 exact key FU (r6.1.toNat+1) r6.2 [] h6 (by have:=FU_big;omega) (by simp) (by simp;omega) (by simp)
end Go.Proofs.YtciimjnpdmmfnaaGreat.Ev
namespace Go.Proofs.YtciimjnpdmmfnaaGreat.Ev
open Go Go.Proofs
set_option linter.unusedVariables false
set_option linter.unusedSimpArgs false
theorem l6Any_so {c:GL1Cur} (h:CurOk c):So (p_s_l6Any c) fun r=>CurOk r.2∧r.1.masters.length≤4:=by
 unfold p_s_l6Any
 refine (l6Conf_so h).bind fun r1 ⟨h1,g1⟩=>?_
 have hl:=conf_len g1
 refine (below_so 14 h1).bind fun r2 ⟨h2,_⟩=>?_
 refine So.ite (fun _=>?_) fun _=>So.ite (fun _=>?_) fun _=>So.ite (fun _=>?_) fun _=>So.ite (fun _=>?_) fun _=>So.ite (fun _=>?_) fun _=>So.ite (fun _=>?_) fun _=>So.ite (fun _=>?_) fun _=>?_
 ·refine (pick_so _ (by simp) h2).bind fun r3 ⟨h3,_⟩=>?_
  refine (idx_so (by omega) (by omega)).bind fun a _=>?_
  refine (set_so _ _ _).bind fun y hy=>So.ret ⟨h3,?_⟩
  subst hy
  simp;omega
 ·refine (idx_so (by omega) (by omega)).bind fun a _=>?_
  refine (set_so _ _ _).bind fun y hy=>So.ret ⟨h2,?_⟩
  subst hy
  simp;omega
 ·exact (pick_so _ (by simp) h2).bind fun r3 ⟨h3,_⟩=>So.ret ⟨h3,by simp;omega⟩
 ·exact (pick_so _ (by simp) h2).bind fun r3 ⟨h3,_⟩=>So.ret ⟨h3,by simp;omega⟩
 ·exact (pick_so _ (by simp) h2).bind fun r3 ⟨h3,_⟩=>So.ret ⟨h3,by simp;omega⟩
 ·exact So.ret ⟨h2,by simp⟩
 ·exact (pick_so _ (by simp) h2).bind fun r3 ⟨h3,_⟩=>So.ret ⟨h3,by simp;omega⟩
 ·exact So.ret ⟨h2,by dsimp only;omega⟩
theorem l5Req_so {x0:GL1Cur} (h:CurOk x0):So (p_s_l5Req x0) fun r=>CurOk r.2∧r.1.data_.length≤8:=by
 unfold p_s_l5Req
 refine (once_so 2 h).bind fun r1 h1=>?_
 refine (pick_so _ (by simp) h1).bind fun r2 ⟨h2,m2⟩=>?_
 refine (pick_so _ (by simp) h2).bind fun r3 ⟨h3,m3⟩=>?_
 refine (once_so 6 h3).bind fun r4 h4=>?_
 rw[s_BytesOf_eq,Option.bind_some]
 refine (below_so 128 h4).bind fun r5 ⟨h5,_⟩=>?_
 refine (below_so 128 h5).bind fun r6 ⟨h6,_⟩=>?_
 refine (below_so 64 h6).bind fun r7 ⟨h7,_⟩=>?_
 refine (below_so 40 h7).bind fun r8 ⟨h8,_⟩=>?_
 refine (below_so 512 h8).bind fun r9 ⟨h9,_⟩=>?_
 refine (pick_so _ (by simp) h9).bind fun r10 ⟨h10,_⟩=>?_
 have hb:0 < bytesG r2.1:=by
  rw[bytes_pos]
  simp only[List.mem_cons,List.not_mem_nil,or_false] at m2
  omega
 rw[nzI_of (by omega),Option.bind_some,s_BurstOk_eq,Option.bind_some]
 have key:∀(g:GReq) (c:GL1Cur),CurOk c→g.data_=[]→So (p_s_l5Req__J2 x0 c g) fun r=>CurOk r.2∧r.1.data_.length≤8:=by
  intro g c hc hg
  unfold p_s_l5Req__J2
  have key2:∀(m k:Nat) (c:GL1Cur) (g:GReq),CurOk c→k≤8→8 - k < m→g.data_.length=k→So (p_s_l5Req__L1 x0 m c g (k:Int)) fun r=>CurOk r.2∧r.1.data_.length≤8:=by
   intro m
   induction m with
   | zero=>intro k _ _ _ _ h;omega
   | succ m ih=>
    intro k c g hc hk hm hg
    have eL:p_s_l5Req__L1 x0 (m+1) c g (k:Int)=p_s_l5Req__L1b x0 (p_s_l5Req__L1 x0 m) c g (k:Int):=rfl
    rw[eL]
    unfold p_s_l5Req__L1b p_s_l5Req__J3
    rw[s_BeatsOf_eq,Option.bind_some]
    have hbl:=beatsG_le g.burst
    by_cases hlt:(k:Int) < beatsG g.burst
    ·rw[if_pos (by simpa using hlt)]
     refine So.ite (fun _=>?_) fun _=>So.ret ⟨hc,by dsimp only;omega⟩
     rw[s_LimitOf_eq,Option.bind_some,Option.bind_some]
     refine (pick_so _ (by simp) hc).bind fun r1 ⟨h1,_⟩=>?_
     refine (below_so _ h1).bind fun r2 ⟨h2,_⟩=>?_
     refine (app_so 8 (by decide) _ _ (by simp only[List.length_cons,List.length_nil];omega)).bind fun z hz=>?_
     rw[addW_nat (by omega)]
     exact ih (k+1) _ _ h2 (by omega) (by omega) (by subst hz;simp[hg])
    ·rw[if_neg (by simpa using hlt),if_neg (by simp)]
     exact So.ret ⟨hc,by dsimp only;omega⟩
  have:=key2 FU 0 c g hc (by omega) (by have:=FU_big;omega) (by simp[hg])
  simpa using this
 exact So.ite (fun _=>key _ _ h10 rfl) fun _=>key _ _ h10 rfl
theorem small_so {c:GL1Cur} (h:CurOk c):So (p_s_l2Small c) fun r=>CurOk r.2:=by
 unfold p_s_l2Small
 exact (below_so 6 h).bind fun r1 ⟨h1,_⟩=>So.ret h1
theorem l5Any_so {c:GL1Cur} (h:CurOk c):So (p_s_l5Any c) fun r=>CurOk r.2∧r.1.data_.length≤9:=by
 unfold p_s_l5Any
 refine (l5Req_so h).bind fun r1 ⟨h1,g1⟩=>?_
 refine (below_so 12 h1).bind fun r2 ⟨h2,_⟩=>?_
 refine So.ite (fun _=>?_) fun _=>So.ite (fun _=>?_) fun _=>So.ite (fun _=>?_) fun _=>So.ite (fun _=>?_) fun _=>So.ite (fun _=>?_) fun _=>?_
 ·exact (pick_so _ (by simp) h2).bind fun r3 ⟨h3,_⟩=>So.ret ⟨h3,by simp;omega⟩
 ·exact So.ret ⟨h2,by simp;omega⟩
 ·exact (small_so h2).bind fun r3 h3=>So.ret ⟨h3,by simp;omega⟩
 ·exact (small_so h2).bind fun r3 h3=>So.ret ⟨h3,by simp;omega⟩
 ·exact (app_so 8 (by decide) _ _ (by simp only[List.length_cons,List.length_nil];omega)).bind fun z hz=>So.ret ⟨h2,by subst hz;simp;omega⟩
 ·exact So.ret ⟨h2,by dsimp only;omega⟩
theorem l7List_so {c:GL1Cur} (n:Int) (hn:0 < n∧n≤1000) (h:CurOk c):So (p_s_l7List c n) fun r=>CurOk r.2∧r.1.length≤6∧∀x∈r.1,0≤x∧x < n:=by
 unfold p_s_l7List
 refine (below_so 6 h).bind fun r1 ⟨h1,a1,b1,_⟩=>?_
 have b1:=b1 (by omega)
 have key:∀(m k:Nat) (c1:GL1Cur) (l:List Int),CurOk c1→k < m→l.length+k≤6→(∀x∈l,0≤x∧x < n)→So (p_s_l7List__L1 c n m c1 l (k:Int)) fun r=>CurOk r.2∧r.1.length≤6∧∀x∈r.1,0≤x∧x < n:=by
  intro m
  induction m with
  | zero=>intro k _ _ _ h;omega
  | succ m ih=>
   intro k c1 l hc hm hl hx
   have eL:p_s_l7List__L1 c n (m+1) c1 l (k:Int)=p_s_l7List__L1b c n (p_s_l7List__L1 c n m) c1 l (k:Int):=rfl
   rw[eL]
   unfold p_s_l7List__L1b
   cases k with
   | zero=>rw[if_neg (by simp)];exact So.ret ⟨hc,by omega,hx⟩
   | succ k=>
    rw[if_pos (by simp)]
    refine (below_so n hc).bind fun r2 ⟨h2,a2,b2,_⟩=>?_
    refine (app_so 8 (by decide) _ _ (by simp only[List.length_cons,List.length_nil];omega)).bind fun z hz=>?_
    rw[subW_of (by omega) (by omega),show ((k+1:Nat):Int) - 1=(k:Int) by omega]
    subst hz
    refine ih k _ _ h2 (by omega) (by simp;omega) fun x hx2=>?_
    rw[List.mem_append,List.mem_singleton] at hx2
    rcases hx2 with hx2|rfl
    ·exact hx x hx2
    ·exact⟨a2,b2 (by omega)⟩
 have:=key FU r1.1.toNat r1.2 [] h1 (by have:=FU_big;omega) (by simp;omega) (by simp)
 rwa [show ((r1.1.toNat:Nat):Int)=r1.1 by omega] at this
structure ScrP (s:GScript):Prop where
 posts:s.posts.length≤6
 reqs:∀p∈s.posts,p.req.data_.length≤9
 waits:s.waits.length≤6
 says:s.says.length≤6
 wmin:∀w∈s.waits,0≤w∧w < 5
theorem ScrP.sm {s:GScript} (h:ScrP s):s.sm:=⟨by have:=h.posts;omega,fun p hp=>by have:=h.reqs p hp;unfold GReq.sm;omega,by have:=h.waits;omega,by have:=h.says;omega,fun w hw=>by have:=h.wmin w hw;omega⟩
theorem post_so {s:GScript} (hs:ScrP s) {x0:GL1Cur} {c:GConf} (k:GL1Cur→GScript→Int→Int→Option (GScript×GL1Cur×GConf)) {R:GScript×GL1Cur×GConf→Prop} {c1:GL1Cur} (v6 v7:Int) (b:Bool) (h1:CurOk c1)
  (hk:b=true→∀c2 p v,CurOk c2→p.req.data_.length≤9→So (k c2 {s with posts:=s.posts++[p]} v (subW v7 1)) R) (hb:b=false→R (s,c1,c)):So (p_s_l7Script__J2 x0 c k c1 s v6 v7 b) R:=by
 unfold p_s_l7Script__J2
 refine So.ite (fun e=>?_) fun e=>So.ret (hb (by simpa using e))
 refine (pick_so _ (by simp) h1).bind fun r2 ⟨h2,_⟩=>?_
 refine (below_so _ h2).bind fun r3 ⟨h3,_⟩=>?_
 refine (l5Req_so h3).bind fun r4 ⟨h4,g4⟩=>?_
 have:=hs.posts
 refine (app_so 80 (by decide) _ _ (by simp only[List.length_cons,List.length_nil];omega)).bind fun z hz=>?_
 subst hz
 exact hk e _ _ _ h4 (by show r4.1.data_.length≤9;omega)
theorem l7Script_so {x0:GL1Cur} (c:GConf) (h:CurOk x0):So (p_s_l7Script x0 c) fun r=>ScrP r.1∧CurOk r.2.1∧r.2.2=c:=by
 unfold p_s_l7Script
 refine (l7List_so 5 (by omega) h).bind fun r1 ⟨h1,l1,m1⟩=>?_
 refine (l7List_so 5 (by omega) h1).bind fun r2 ⟨h2,l2,m2⟩=>?_
 refine (below_so 6 h2).bind fun r3 ⟨h3,a3,b3,_⟩=>?_
 have b3:=b3 (by omega)
 have key:∀(m k:Nat) (c1:GL1Cur) (s:GScript) (v:Int),CurOk c1→k < m→s.posts.length+k≤6→ScrP s→So (p_s_l7Script__L1 x0 c m c1 s v (k:Int)) fun r=>ScrP r.1∧CurOk r.2.1∧r.2.2=c:=by
  intro m
  induction m with
  | zero=>intro k _ _ _ _ h;omega
  | succ m ih=>
   intro k c1 s v hc hm hl hs
   have eL:p_s_l7Script__L1 x0 c (m+1) c1 s v (k:Int)=p_s_l7Script__L1b x0 c (p_s_l7Script__L1 x0 c m) c1 s v (k:Int):=rfl
   rw[eL]
   unfold p_s_l7Script__L1b
   cases k with
   | zero=>rw[if_neg (by simp)];exact post_so hs _ _ _ _ hc (fun e=>absurd e (by simp)) fun _=>⟨hs,hc,rfl⟩
   | succ k=>
    rw[if_pos (by simp)]
    refine post_so hs _ _ _ _ hc (fun e c2 p v h2 hp=>?_) fun _=>⟨hs,hc,rfl⟩
    rw[subW_of (by omega) (by omega),show ((k+1:Nat):Int) - 1=(k:Int) by omega]
    refine ih k c2 _ v h2 (by omega) (by simp;omega) ⟨by simp;omega,fun q hq=>?_,hs.waits,hs.says,hs.wmin⟩
    rw[List.mem_append,List.mem_singleton] at hq
    rcases hq with hq|rfl
    ·exact hs.reqs q hq
    ·exact hp
 have:=key FU r3.1.toNat r3.2 (GScript.mk [] r1.1 r2.1) 0 h3 (by have:=FU_big;omega) (by simp;omega) ⟨by simp,fun p hp=>absurd hp (by simp),l1,l2,m1⟩
 rwa [show ((r3.1.toNat:Nat):Int)=r3.1 by omega] at this
end Go.Proofs.YtciimjnpdmmfnaaGreat.Ev
namespace Go.Proofs.YtciimjnpdmmfnaaGreat.Ev
open Go Go.Proofs
set_option linter.unusedVariables false
set_option linter.unusedSimpArgs false
theorem scriptq_L (x0:GL1Cur) (c:GConf):∀(m:Nat) (c1:GL1Cur) (s:GScript) (v w:Int),p_s_l7Scriptq__L1 x0 c m c1 s v w=p_s_l7Script__L1 x0 c m c1 s v w:=by
 intro m
 induction m with
 | zero=>intros;rfl
 | succ m ih=>
  intro c1 s v w
  have e:p_s_l7Scriptq__L1 x0 c m=p_s_l7Script__L1 x0 c m:=by funext a b d e;exact ih a b d e
  show p_s_l7Scriptq__L1b x0 c (p_s_l7Scriptq__L1 x0 c m) c1 s v w=p_s_l7Script__L1b x0 c (p_s_l7Script__L1 x0 c m) c1 s v w
  rw[e]
  rfl
theorem scriptq_eq (x0:GL1Cur) (c:GConf):p_s_l7Scriptq x0 c=p_s_l7Script x0 c:=by
 unfold p_s_l7Scriptq p_s_l7Script
 simp only[scriptq_L]
theorem lenE_self {α:Type} (xs:List α):lenE xs xs=some ():=by
 unfold lenE
 simp
theorem l4Value_so {c:GL1Cur} (n:Int) (h:CurOk c):So (p_s_l4Value c n) fun r=>CurOk r.2:=by
 unfold p_s_l4Value
 refine (below_so 256 h).bind fun r1 ⟨h1,_⟩=>?_
 rw[s_LimitOf_eq,Option.bind_some]
 refine (below_so _ h1).bind fun r2 ⟨h2,_⟩=>?_
 rw[Option.bind_some,Option.bind_some]
 exact (pick_so _ (by simp) h2).bind fun r3 ⟨h3,_⟩=>So.ret h3
theorem dev_new:DevP (GDev.mk (List.replicate 4 0) 0 []):=⟨rfl,by show ∀v∈List.replicate 4 (0:Int),numG v 2=true;decide,by show numG 0 2=true;decide,by show 0≤4;decide,fun v hv=>absurd hv (by show ¬v∈([]:List Int);simp)⟩
theorem l8Dev_so {x0:GL1Cur} (h:CurOk x0):So (p_s_l8Dev x0) fun r=>CurOk r.2∧DevP r.1:=by
 unfold p_s_l8Dev
 rw[s_DevNew_eq,Option.bind_some]
 refine (below_so 8 h).bind fun r1 ⟨h1,a1,b1,_⟩=>?_
 have b1:=b1 (by omega)
 have key:∀(m k:Nat) (c1:GL1Cur) (d:GDev),CurOk c1→k < m→k < 9→DevP d→So (p_s_l8Dev__L1 x0 m c1 d (k:Int)) fun r=>CurOk r.2∧DevP r.1:=by
  intro m
  induction m with
  | zero=>intro k _ _ _ h;omega
  | succ m ih=>
   intro k c1 d hc hm hk hd
   have eL:p_s_l8Dev__L1 x0 (m+1) c1 d (k:Int)=p_s_l8Dev__L1b x0 (p_s_l8Dev__L1 x0 m) c1 d (k:Int):=rfl
   rw[eL]
   unfold p_s_l8Dev__L1b
   cases k with
   | zero=>rw[if_neg (by simp)];exact So.ret ⟨hc,hd⟩
   | succ k=>
    rw[if_pos (by simp)]
    refine (once_so 4 hc).bind fun r2 h2=>?_
    refine (below_so 6 h2).bind fun r3 ⟨h3,_⟩=>?_
    refine (l4Value_so 2 h3).bind fun r4 h4=>?_
    rw[s_DevDo_eq _ _ _ hd,Option.bind_some,subW_of (by omega) (by omega),show ((k+1:Nat):Int) - 1=(k:Int) by omega]
    exact ih k _ _ h4 (by omega) (by omega) (devdo_ok hd).1
 have:=key FU r1.1.toNat r1.2 _ h1 (by have:=FU_big;omega) (by omega) dev_new
 rwa [show ((r1.1.toNat:Nat):Int)=r1.1 by omega] at this
theorem l9Model_so {x0:GL1Cur} (h:CurOk x0):So (p_s_l9Model x0) fun r=>CurOk r.2∧ModelP r.1:=by
 unfold p_s_l9Model
 rw[s_ModelNew_eq,Option.bind_some]
 refine (below_so 5 h).bind fun r1 ⟨h1,a1,b1,_⟩=>?_
 have b1:=b1 (by omega)
 have key:∀(m k:Nat) (c1:GL1Cur) (d:GModel),CurOk c1→k < m→k < 9→ModelP d→So (p_s_l9Model__L1 x0 m c1 d (k:Int)) fun r=>CurOk r.2∧ModelP r.1:=by
  intro m
  induction m with
  | zero=>intro k _ _ _ h;omega
  | succ m ih=>
   intro k c1 d hc hm hk hd
   have eL:p_s_l9Model__L1 x0 (m+1) c1 d (k:Int)=p_s_l9Model__L1b x0 (p_s_l9Model__L1 x0 m) c1 d (k:Int):=rfl
   rw[eL]
   unfold p_s_l9Model__L1b
   cases k with
   | zero=>
    rw[if_neg (by simp)]
    exact (l8Dev_so hc).bind fun r2 ⟨h2,g2⟩=>So.ret ⟨h2,hd.len,hd.bytes,g2⟩
   | succ k=>
    rw[if_pos (by simp)]
    refine (below_so 192 hc).bind fun r2 ⟨h2,a2,b2,_⟩=>?_
    have b2:=b2 (by omega)
    refine (below_so 256 h2).bind fun r3 ⟨h3,a3,b3,_⟩=>?_
    have b3:=b3 (by omega)
    have hl:=hd.len
    refine (idx_so a2 (by omega)).bind fun a _=>?_
    refine (set_so _ _ _).bind fun y hy=>?_
    rw[subW_of (by omega) (by omega),show ((k+1:Nat):Int) - 1=(k:Int) by omega]
    subst hy
    refine ih k _ _ h3 (by omega) (by omega) ⟨by simpa using hl,?_,hd.dev⟩
    have hb:=hd.bytes
    rw[List.all_eq_true] at hb ⊢
    intro x hx
    rcases List.mem_or_eq_of_mem_set hx with hx|rfl
    ·exact hb x hx
    ·simp only[byteG,decide_eq_true_eq];omega
 have:=key FU r1.1.toNat r1.2 _ h1 (by have:=FU_big;omega) (by omega) (new_model)
 rwa [show ((r1.1.toNat:Nat):Int)=r1.1 by omega] at this
theorem l8Any_so {x0:GL1Cur} (h:CurOk x0):So (p_s_l8Any x0) fun r=>CurOk r.2∧r.1.sm:=by
 unfold p_s_l8Any
 refine (l8Dev_so h).bind fun r1 ⟨h1,g1⟩=>?_
 have hr:=g1.regs
 have hf:=g1.len
 refine (below_so 12 h1).bind fun r2 ⟨h2,_⟩=>?_
 have key:∀(m k:Nat) (c1:GL1Cur) (d:GDev),CurOk c1→k < m→d.fifo.length+k=8→d.regs.length=4→So (p_s_l8Any__L1 x0 m c1 d) fun r=>CurOk r.2∧r.1.sm:=by
  intro m
  induction m with
  | zero=>intro k _ _ _ h;omega
  | succ m ih=>
   intro k c1 d hc hm hk hd
   have eL:p_s_l8Any__L1 x0 (m+1) c1 d=p_s_l8Any__L1b x0 (p_s_l8Any__L1 x0 m) c1 d:=rfl
   rw[eL]
   unfold p_s_l8Any__L1b
   refine (below_so 2 hc).bind fun r3 ⟨h3,a3,b3,_⟩=>?_
   have b3:=b3 (by omega)
   refine So.ite (fun e=>?_) fun e=>So.ret ⟨h3,by show d.regs.length < _;omega,by show d.fifo.length < _;omega⟩
   rw[addW_of (by omega) (by omega)] at e
   have e:(d.fifo.length:Int) < 4+r3.1:=by simpa using e
   refine (app_so 8 (by decide) _ _ (by simp only[List.length_cons,List.length_nil];omega)).bind fun z hz=>?_
   subst hz
   exact ih (k - 1) _ _ h3 (by omega) (by simp;omega) hd
 refine So.ite (fun _=>?_) fun _=>So.ite (fun _=>?_) fun _=>So.ite (fun _=>?_) fun _=>So.ret ⟨h2,g1.sm⟩
 ·exact (pick_so _ (by simp) h2).bind fun r3 ⟨h3,_⟩=>So.ret ⟨h3,g1.sm⟩
 ·rw[slice_tail _ (by intro hx;rw[hx] at hr;exact absurd hr (by decide)) (by omega),Option.bind_some]
  exact So.ret ⟨h2,by show r1.1.regs.tail.length < _;simp;omega,g1.sm.2⟩
 ·exact key FU (8 - r1.1.fifo.length) r2.2 r1.1 h2 (by have:=FU_big;omega) (by omega) hr
theorem l9Any_so {x0:GL1Cur} (h:CurOk x0):So (p_s_l9Any x0) fun r=>CurOk r.2∧r.1.sm:=by
 unfold p_s_l9Any
 refine (l9Model_so h).bind fun r1 ⟨h1,g1⟩=>?_
 have hr:=g1.len
 refine (below_so 12 h1).bind fun r2 ⟨h2,_⟩=>?_
 refine So.ite (fun _=>?_) fun _=>So.ite (fun _=>?_) fun _=>So.ite (fun _=>?_) fun _=>So.ret ⟨h2,g1.sm⟩
 ·refine (idx_so (by omega) (by omega)).bind fun a _=>?_
  refine (set_so _ _ _).bind fun y hy=>?_
  subst hy
  exact So.ret ⟨h2,by show (List.set _ _ _).length < _;simp;omega,g1.dev.sm⟩
 ·rw[slice_tail _ (by intro hx;rw[hx] at hr;exact absurd hr (by decide)) (by omega),Option.bind_some]
  exact So.ret ⟨h2,by show r1.1.mem.tail.length < _;simp;omega,g1.dev.sm⟩
 ·exact (l8Any_so h2).bind fun r3 ⟨h3,g3⟩=>So.ret ⟨h3,by show r1.1.mem.length < _;omega,g3⟩
theorem l12Mst_so {x0:GL1Cur} (h:CurOk x0):So (p_s_l12Mst x0) fun r=>CurOk r.2∧RightP r.1:=by
 unfold p_s_l12Mst
 refine (below_so 4 h).bind fun r1 ⟨h1,a1,b1,_⟩=>?_
 have b1:=b1 (by omega)
 have key2:∀(m k:Nat) (c1:GL1Cur) (d:GMst),CurOk c1→k < m→k < 9→RightP d→So (p_s_l12Mst__L2 x0 m c1 d (k:Int)) fun r=>CurOk r.2∧RightP r.1:=by
  intro m
  induction m with
  | zero=>intro k _ _ _ h;omega
  | succ m ih=>
   intro k c1 d hc hm hk hd
   have eL:p_s_l12Mst__L2 x0 (m+1) c1 d (k:Int)=p_s_l12Mst__L2b x0 (p_s_l12Mst__L2 x0 m) c1 d (k:Int):=rfl
   rw[eL]
   unfold p_s_l12Mst__L2b
   cases k with
   | zero=>rw[if_neg (by simp)];exact So.ret ⟨hc,hd⟩
   | succ k=>
    rw[if_pos (by simp)]
    refine (below_so 4 hc).bind fun r2 ⟨h2,_⟩=>?_
    have hJ:∀b,So (p_s_l12Mst__J3 x0 (p_s_l12Mst__L2 x0 m) r2.2 d ((k+1:Nat):Int) r2.1 b) fun r=>CurOk r.2∧RightP r.1:=by
     intro b
     unfold p_s_l12Mst__J3
     rw[subW_of (by omega) (by omega),show ((k+1:Nat):Int) - 1=(k:Int) by omega]
     refine So.ite (fun _=>?_) fun _=>So.ite (fun _=>?_) fun _=>?_
     ·obtain⟨ok,e⟩:=s_MstIssue_eq hd
      rw[e,Option.bind_some]
      exact ih k _ _ h2 (by omega) (by omega) (issue_right hd)
     ·obtain⟨ok,e⟩:=s_MstEnd_eq hd
      rw[e,Option.bind_some]
      exact ih k _ _ h2 (by omega) (by omega) (end_right hd)
     ·obtain⟨ok,e⟩:=s_MstBack_eq hd
      rw[e,Option.bind_some]
      exact ih k _ _ h2 (by omega) (by omega) (back_right hd)
    exact So.ite (fun _=>hJ _) fun _=>hJ _
 have key:∀(m k:Nat) (c1:GL1Cur) (d:GMst),CurOk c1→k < m→k < 9→RightP d→So (p_s_l12Mst__L1 x0 m c1 d (k:Int)) fun r=>CurOk r.2∧RightP r.1:=by
  intro m
  induction m with
  | zero=>intro k _ _ _ h;omega
  | succ m ih=>
   intro k c1 d hc hm hk hd
   have eL:p_s_l12Mst__L1 x0 (m+1) c1 d (k:Int)=p_s_l12Mst__L1b x0 (p_s_l12Mst__L1 x0 m) c1 d (k:Int):=rfl
   rw[eL]
   unfold p_s_l12Mst__L1b
   cases k with
   | zero=>
    rw[if_neg (by simp)]
    refine (below_so 7 hc).bind fun r2 ⟨h2,a2,b2,_⟩=>?_
    have b2:=b2 (by omega)
    have:=key2 FU r2.1.toNat r2.2 d h2 (by have:=FU_big;omega) (by omega) hd
    rwa [show ((r2.1.toNat:Nat):Int)=r2.1 by omega] at this
   | succ k=>
    rw[if_pos (by simp)]
    refine (l5Req_so hc).bind fun r2 ⟨h2,g2⟩=>?_
    obtain⟨ok,e⟩:=s_MstPost_eq (r:=r2.1) hd (by unfold GReq.sm;omega)
    rw[e,Option.bind_some,subW_of (by omega) (by omega),show ((k+1:Nat):Int) - 1=(k:Int) by omega]
    exact ih k _ _ h2 (by omega) (by omega) (post_right hd)
 have:=key FU r1.1.toNat r1.2 GMst.z0 h1 (by have:=FU_big;omega) (by omega) right_z0
 rwa [show ((r1.1.toNat:Nat):Int)=r1.1 by omega] at this
theorem l12Any_so {c:GL1Cur} (h:CurOk c):So (p_s_l12Any c) fun r=>CurOk r.2∧r.1.sm:=by
 unfold p_s_l12Any
 refine (l12Mst_so h).bind fun r1 ⟨h1,g1⟩=>?_
 have hs:=g1.sm
 have hl:=g1.len
 refine (below_so 12 h1).bind fun r2 ⟨h2,_⟩=>?_
 refine So.ite (fun _=>?_) fun _=>So.ite (fun _=>?_) fun _=>So.ite (fun _=>?_) fun _=>So.ite (fun _=>?_) fun _=>So.ret ⟨h2,hs⟩
 ·exact (below_so 10 h2).bind fun r3 ⟨h3,_⟩=>So.ret ⟨h3,hs⟩
 ·exact (below_so 10 h2).bind fun r3 ⟨h3,_⟩=>So.ret ⟨h3,hs⟩
 ·exact (pick_so _ (by simp) h2).bind fun r3 ⟨h3,_⟩=>So.ret ⟨h3,hs⟩
 ·refine (l5Any_so h2).bind fun r3 ⟨h3,g3⟩=>?_
  refine (app_so 64 (by decide) _ _ (by simp only[List.length_cons,List.length_nil];omega)).bind fun z hz=>?_
  subst hz
  refine So.ret ⟨h3,by show (r1.1.queue++[r3.1]).length < _;simp;omega,fun r hr=>?_⟩
  have hr:r∈r1.1.queue++[r3.1]:=hr
  rw[List.mem_append,List.mem_singleton] at hr
  rcases hr with hr|rfl
  ·exact hs.2 r hr
  ·unfold GReq.sm;omega
theorem l13Bus_so {x0:GL1Cur} (h:CurOk x0):So (p_s_l13Bus x0) fun r=>BusP r.1∧ScrP r.2.1∧CurOk r.2.2∧r.1.now≤40:=by
 unfold p_s_l13Bus
 refine (l6Conf_so h).bind fun r1 ⟨h1,g1⟩=>?_
 have hl:=conf_len g1
 rw[if_neg (by simp;intro hx;rw[hx] at hl;simp at hl),scriptq_eq]
 refine (l7Script_so _ h1).bind fun r2 ⟨g2,h2,e2⟩=>?_
 rw[e2,lenE_self,Option.bind_some]
 unfold p_s_l13Bus__J2
 rw[s_BusNew_eq _ (by show r1.1.masters.length < _;omega),Option.bind_some,newB_ok g1]
 refine (below_so 40 h2).bind fun r3 ⟨h3,a3,b3,_⟩=>?_
 have b3:=b3 (by omega)
 have key:∀(m k:Nat) (c1:GL1Cur) (b:GBus),CurOk c1→k < m→b.now+k≤40→BusP b→So (p_s_l13Bus__L1 x0 m c1 r2.1 b (k:Int)) fun r=>BusP r.1∧ScrP r.2.1∧CurOk r.2.2∧r.1.now≤40:=by
  intro m
  induction m with
  | zero=>intro k _ _ _ h;omega
  | succ m ih=>
   intro k c1 b hc hm hk hb
   have eL:p_s_l13Bus__L1 x0 (m+1) c1 r2.1 b (k:Int)=p_s_l13Bus__L1b x0 (p_s_l13Bus__L1 x0 m) c1 r2.1 b (k:Int):=rfl
   rw[eL]
   unfold p_s_l13Bus__L1b
   cases k with
   | zero=>rw[if_neg (by simp)];exact So.ret ⟨hb,g2,hc,by dsimp only;omega⟩
   | succ k=>
    have hbn:=hb.now
    have:=step_ok hb r2.1 (by omega)
    rw[if_pos (by simp),s_step_eq hb g2.sm (by omega),Option.bind_some,subW_of (by omega) (by omega),show ((k+1:Nat):Int) - 1=(k:Int) by omega]
    exact ih k _ _ hc (by omega) (by rw[this.2.1];omega) this.1
 have:=key FU r3.1.toNat r3.2 (newG r1.1) h3 (by have:=FU_big;omega) (by show (0:Int)+_≤40;omega) (new_ok g1)
 rwa [show ((r3.1.toNat:Nat):Int)=r3.1 by omega] at this
theorem l13Any_so {x0:GL1Cur} (h:CurOk x0):So (p_s_l13Any x0) fun r=>r.1.sm∧ScrP r.2.1∧CurOk r.2.2:=by
 unfold p_s_l13Any
 refine (l13Bus_so h).bind fun r1 ⟨g1,s1,h1,n1⟩=>?_
 have hs:=g1.sm
 have hl:=conf_len g1.conf
 have hml:=g1.ml
 have hsl:=g1.sl
 refine (below_so _ h1).bind fun r2 ⟨h2,a2,b2,_⟩=>?_
 have b2:=b2 (by omega)
 refine (below_so 20 h2).bind fun r3 ⟨h3,_⟩=>?_
 refine So.ite (fun _=>?_) fun _=>So.ite (fun _=>?_) fun _=>So.ite (fun _=>?_) fun _=>So.ite (fun _=>?_) fun _=>So.ite (fun _=>?_) fun _=>So.ite (fun _=>?_) fun _=>So.ite (fun _=>?_) fun _=>So.ite (fun _=>?_) fun _=>So.ite (fun _=>?_) fun _=>So.ite (fun _=>?_) fun _=>So.ite (fun _=>?_) fun _=>?_
 ·exact (pick_so _ (by simp) h3).bind fun r4 ⟨h4,_⟩=>So.ret ⟨⟨hs.conf,hs.ml,hs.mst,hs.bl,hs.sl,hs.model,hs.log⟩,s1,h4⟩
 ·refine (l12Any_so h3).bind fun r4 ⟨h4,g4⟩=>?_
  refine (idx_so a2 b2).bind fun a _=>?_
  refine (set_so _ _ _).bind fun y hy=>?_
  subst hy
  refine So.ret ⟨⟨hs.conf,by show (List.set _ _ _).length < _;rw[List.length_set];exact hs.ml,fun x hx=>?_,hs.bl,hs.sl,hs.model,hs.log⟩,s1,h4⟩
  rcases List.mem_or_eq_of_mem_set hx with hx|rfl
  ·exact hs.mst x hx
  ·exact g4
 ·refine (below_so 15 h3).bind fun r4 ⟨h4,_⟩=>?_
  refine (idx_so a2 (by omega)).bind fun a _=>?_
  refine (set_so _ _ _).bind fun y hy=>?_
  subst hy
  exact So.ret ⟨⟨hs.conf,hs.ml,hs.mst,hs.bl,by show (List.set _ _ _).length < _;rw[List.length_set];exact hs.sl,hs.model,hs.log⟩,s1,h4⟩
 ·exact (below_so 6 h3).bind fun r4 ⟨h4,_⟩=>So.ret ⟨⟨hs.conf,hs.ml,hs.mst,hs.bl,hs.sl,hs.model,hs.log⟩,s1,h4⟩
 ·exact (below_so 7 h3).bind fun r4 ⟨h4,_⟩=>So.ret ⟨⟨hs.conf,hs.ml,hs.mst,hs.bl,hs.sl,hs.model,hs.log⟩,s1,h4⟩
 ·exact (below_so 6 h3).bind fun r4 ⟨h4,_⟩=>So.ret ⟨⟨hs.conf,hs.ml,hs.mst,hs.bl,hs.sl,hs.model,hs.log⟩,s1,h4⟩
 ·exact So.ret ⟨⟨hs.conf,hs.ml,hs.mst,hs.bl,hs.sl,hs.model,hs.log⟩,s1,h3⟩
 ·exact So.ret ⟨⟨hs.conf,hs.ml,hs.mst,hs.bl,hs.sl,hs.model,hs.log⟩,s1,h3⟩
 ·exact (below_so 8 h3).bind fun r4 ⟨h4,_⟩=>So.ret ⟨⟨hs.conf,hs.ml,hs.mst,hs.bl,hs.sl,hs.model,hs.log⟩,s1,h4⟩
 ·exact (l9Any_so h3).bind fun r4 ⟨h4,g4⟩=>So.ret ⟨⟨hs.conf,hs.ml,hs.mst,hs.bl,hs.sl,g4,hs.log⟩,s1,h4⟩
 ·exact (l6Any_so h3).bind fun r4 ⟨h4,g4⟩=>So.ret ⟨⟨by show r4.1.masters.length < _;omega,hs.ml,hs.mst,hs.bl,hs.sl,hs.model,hs.log⟩,s1,h4⟩
 ·exact So.ret ⟨hs,s1,h3⟩
theorem new_so (x:List Int) (hl:x.length < 1048577):So (p_s_l1New x) CurOk:=l1New_ok x hl
theorem DrawRunOut_so (x:List Int) (hl:x.length < 1048577):So (p_s_DrawRunOut x) fun r=>r.1.sm∧ScrP r.2:=by
 unfold p_s_DrawRunOut
 refine (new_so x hl).bind fun c h=>?_
 refine (l13Any_so h).bind fun r ⟨h1,h2,h3⟩=>?_
 refine So.ite (fun e=>?_) fun _=>So.ret ⟨h1,h2⟩
 have e:(r.2.1.posts.length:Int) > 3:=by simpa using e
 have hp:=h2.posts
 rw[show sliceI r.2.1.posts 0 3=some (r.2.1.posts.take 3) by
  unfold sliceI
  rw[if_pos (by omega)]
  simp,Option.bind_some]
 exact So.ret ⟨h1,by simp;omega,fun p hp=>h2.reqs p (List.mem_of_mem_take hp),h2.waits,h2.says,h2.wmin⟩
theorem big_eq (x:List Int):p_w_big x=some (decide ((x.length:Int) > 1048576)):=rfl
end Go.Proofs.YtciimjnpdmmfnaaGreat.Ev
namespace Go.Proofs.YtciimjnpdmmfnaaGreat.Ev
open Go Go.Proofs
set_option linter.unusedVariables false
set_option linter.unusedSimpArgs false
theorem Bool.not_ok {b:Bool} (h:¬b=true):b=false:=by simpa using h
end Go.Proofs.YtciimjnpdmmfnaaGreat.Ev
namespace Go.Proofs.YtciimjnpdmmfnaaGreat.Ev
open Go Go.Proofs
set_option linter.unusedVariables false
set_option linter.unusedSimpArgs false
def rdyG (x:GBeat):Bool:=!x.live||(decide (x.left≤0)&&(decide (x.resp=0)||x.second))
def respG (x:GBeat):Int:=if x.live=true∧x.left≤0 then x.resp else 0
def endsG (x:GBeat):Bool:=x.live&&rdyG x&&decide (x.resp≠2∧x.resp≠3)
theorem finish_rdy (b:GBus) (s:GScript):(finishG b s).2.1=rdyG b.data_∧(finishG b s).2.2=respG b.data_:=by
 unfold finishG rdyG respG
 by_cases hd:b.data_.live=false
 ·rw[if_pos hd];simp[hd]
 ·have hd2:b.data_.live=true:=by simpa using hd
  rw[if_neg hd,hd2]
  by_cases hl:b.data_.left > 0
  ·rw[if_pos hl,if_neg (by omega)]
   simp;omega
  ·rw[if_neg hl,if_pos (show true=true∧b.data_.left≤0 from⟨rfl,by omega⟩)]
   have hl2:b.data_.left≤0:=by omega
   by_cases hs:b.data_.resp≠0∧b.data_.second=false
   ·rw[if_pos hs]
    simp[hs.1,hs.2]
   ·rw[if_neg hs]
    have:(decide (b.data_.resp=0)||b.data_.second)=true:=by
     by_cases h0:b.data_.resp=0
     ·simp[h0]
     ·have:¬b.data_.second=false:=fun h=>hs ⟨h0,h⟩
      simpa [h0] using this
    rw[this]
    simp only[hl2,decide_true,Bool.and_true,Bool.not_true,Bool.false_or]
    repeat' split
    all_goals exact⟨rfl,rfl⟩
theorem step_eq (b:GBus) (s:GScript):stepG b s=if rdyG b.data_=true then
  ({(readyG (finishG (openG b s) s).1 s).2 with now:=b.now+1},{waveG b with resp:=respG b.data_,got:=(readyG (finishG (openG b s) s).1 s).1})
 else ({(finishG (openG b s) s).1 with now:=b.now+1},{waveG b with ready:=false,resp:=respG b.data_}):=by
 unfold stepG
 have h:=finish_rdy (openG b s) s
 have e:=open_data b s
 rw[e.2.2.2.2.2.2.1] at h
 rw[h.1,h.2]
theorem revoke_log (b:GBus) (x:GBeat):(revokeG b x).log=b.log∧(revokeG b x).splits=b.splits∧(revokeG b x).holder=b.holder∧(revokeG b x).held=b.held∧(revokeG b x).data_=b.data_:=by
 unfold revokeG;repeat' split
 all_goals exact⟨rfl,rfl,rfl,rfl,rfl⟩
theorem finish_log (b:GBus) (s:GScript):(finishG b s).1.log=if endsG b.data_=true then b.log++[doneG {b with data_:=GBeat.z0} b.data_] else b.log:=by
 unfold finishG endsG rdyG
 by_cases hd:b.data_.live=false
 ·rw[if_pos hd];simp[hd]
 ·have hd2:b.data_.live=true:=by simpa using hd
  rw[if_neg hd,hd2]
  by_cases hl:b.data_.left > 0
  ·rw[if_pos hl]
   have:decide (b.data_.left≤0)=false:=decide_eq_false (by omega)
   simp[this]
  ·rw[if_neg hl]
   have hl2:decide (b.data_.left≤0)=true:=decide_eq_true (by omega)
   rw[hl2]
   by_cases hs:b.data_.resp≠0∧b.data_.second=false
   ·rw[if_pos hs]
    simp only[hs.1,hs.2,decide_false,Bool.or_self,Bool.and_false,Bool.not_true,Bool.or_false,Bool.false_and,if_false,Bool.false_eq_true]
    split
    ·exact (revoke_log _ _).1
    ·rfl
   ·rw[if_neg hs]
    have:(decide (b.data_.resp=0)||b.data_.second)=true:=by
     by_cases h0:b.data_.resp=0
     ·simp[h0]
     ·have:¬b.data_.second=false:=fun h=>hs ⟨h0,h⟩
      simpa [h0] using this
    rw[this]
    by_cases h2:b.data_.resp=2
    ·rw[if_pos h2,if_neg (by simp[h2])]
     exact (revoke_log _ _).1
    ·rw[if_neg h2]
     by_cases h3:b.data_.resp=3
     ·rw[if_pos h3,if_neg (by simp[h3])]
      exact (revoke_log _ _).1
     ·rw[if_neg h3,if_pos (by simp[h2,h3])]
      rfl
structure Readied (b:GBus) (r:Int×GBus):Prop where
 splits:r.2.splits=b.splits
 got:r.1=-1∨(masterG b.conf r.1=true∧atI b.splits r.1=0∧(r.2.holder=r.1∨r.2.holder=-1))
 some:r.1=-1∨(atI b.m r.1).queue≠[]
 held:r.2.holder=-1∨r.2.held < b.conf.lockMost
theorem break_more (b:GBus):(breakG b).splits=b.splits∧(breakG b).conf=b.conf∧((breakG b).holder=-1∨((breakG b).holder=b.holder∧(breakG b).held=b.held∧b.held≠b.conf.lockMost)):=by
 unfold breakG
 split
 ·exact⟨rfl,rfl,.inl rfl⟩
 ·rename_i h
  refine⟨rfl,rfl,?_⟩
  by_cases h1:b.holder=-1
  ·exact .inl h1
  ·exact .inr ⟨rfl,rfl,fun h2=>h ⟨h1,h2⟩⟩
theorem begin_held (b:GBus) (s:GScript):(beginG b s).held=b.held:=by
 unfold beginG;split<;>rfl
theorem grant_more {n:Int} {b:GBus} (h:BusI n b) (hh:b.holder=-1∨b.held < b.conf.lockMost):Readied b (grantG b):=by
 have hp:=picked_ok h
 have hlm:=conf_lims h.conf
 unfold grantG
 split
 ·rename_i hx
  exact⟨hp.splits,.inl rfl,.inl rfl,by rw[hp.holder,hp.held];exact hh⟩
 ·rename_i hx
  rcases hp.who with h1|⟨h1,h2,h3⟩
  ·exact absurd (show (pickG b).1 < 0 by rw[h1];decide) hx
  ·have hw:=want_parts h2
   have hq:(atI b.m (pickG b).1).queue≠[]:=by
    intro hq
    have:=(h.mst _ h1).right.none hq
    have h5:=hw.1
    unfold mbeatsG at h5
    rw[if_pos hq] at h5
    omega
   refine⟨hp.splits,.inr ⟨h1,hw.2.1,?_⟩,.inr hq,?_⟩
   ·show (if _ then (pickG b).1 else (pickG b).2.2.holder)=_∨(if _ then (pickG b).1 else (pickG b).2.2.holder)=-1
    split
    ·exact .inl rfl
    ·rw[hp.holder];exact hw.2.2.symm
   ·show (if _ then (pickG b).1 else (pickG b).2.2.holder)=_∨(if _ then 0 else (pickG b).2.2.held) < _
    split
    ·exact .inr (by omega)
    ·rw[hp.holder,hp.held];exact hh
theorem ready_more {n:Int} {b:GBus} (h:BusI n b) (s:GScript) (hd:b.data_=GBeat.z0):Readied b (readyG b s):=by
 have h1:=break_ok h
 have e1:=break_data b
 have m1:=break_more b
 have h2:=begin_ok h1 s (by rw[e1.1];exact hd)
 have e2:=begin_data (breakG b) s
 have hlm:=conf_lims h.conf
 have hb:(beginG (breakG b) s).holder=-1∨(beginG (breakG b) s).held < (beginG (breakG b) s).conf.lockMost:=by
  rw[e2.2.2.2.2.2.2.1,begin_held,e2.2.1,m1.2.1]
  rcases m1.2.2 with h3|⟨h3,h4,h5⟩
  ·exact .inl h3
  ·by_cases hz:b.holder=-1
   ·exact .inl (by rw[h3,hz])
   ·have:=(held_who h hz).2.2.2
    exact .inr (by rw[h4];omega)
 have h3:=grant_more h2.1 hb
 unfold readyG
 have hbm:∀i,masterG b.conf i=true→(atI (breakG b).m i).queue=(atI b.m i).queue:=by
  intro i hi
  unfold breakG
  split
  ·rename_i hx
   have hw:=(held_who h hx.1).1
   show (atI (b.m.set b.holder.toNat {atI b.m b.holder with broken:=true}) i).queue=_
   rw[h.at_m hw _ hi]
   split
   ·rename_i e;rw[e]
   ·rfl
  ·rfl
 refine⟨by rw[h3.splits,e2.2.2.2.2.2.1,m1.1],?_,?_,?_⟩
 ·have:=h3.got
  rw[e2.2.1,m1.2.1,e2.2.2.2.2.2.1,m1.1] at this
  exact this
 ·have h4:=h3.got
  have h5:=h3.some
  rw[e2.2.1,m1.2.1] at h4
  rcases h4 with h4|h4
  ·exact .inl h4
  ·rcases h5 with h5|h5
   ·exact .inl h5
   ·refine .inr ?_
    rw[e2.2.2.2.2.1,hbm _ h4.1] at h5
    exact h5
 ·have:=h3.held
  rw[e2.2.1,m1.2.1] at this
  exact this
theorem open_I {b:GBus} (h:BusP b) (s:GScript):BusI (openG b s).now (openG b s):=by
 have:=open_ok h s
 rw[(open_data b s).1];exact this
theorem fin_I {b:GBus} (h:BusP b) (s:GScript):BusI (b.now+1) (finishG (openG b s) s).1∧(rdyG b.data_=true→(finishG (openG b s) s).1.data_=GBeat.z0):=by
 have e:=open_data b s
 have hn:=h.now
 have h1:=finish_ok s (by rw[e.1];omega) (open_I h s)
 rw[e.1] at h1
 have h2:=finish_rdy (openG b s) s
 rw[e.2.2.2.2.2.2.1] at h2
 rw[h2.1] at h1
 exact h1
theorem step_log {b:GBus} (h:BusP b) (s:GScript):(stepG b s).1.log=if endsG b.data_=true then b.log++[doneG {openG b s with data_:=GBeat.z0} b.data_] else b.log:=by
 have hf:=fin_I h s
 have e:=open_data b s
 have hl:(finishG (openG b s) s).1.log=if endsG b.data_=true then b.log++[doneG {openG b s with data_:=GBeat.z0} b.data_] else b.log:=by
  rw[finish_log,e.2.2.2.2.2.2.1]
  split
  ·exact congrArg (·++[doneG {openG b s with data_:=GBeat.z0} b.data_]) e.2.2.2.1
  ·exact e.2.2.2.1
 rw[step_eq,←hl]
 by_cases hr:rdyG b.data_=true
 ·rw[if_pos hr]
  exact (ready_ok hf.1 s (hf.2 hr)).2.2.2.2.2.1
 ·rw[if_neg hr]
theorem data_ne {n:Int} {b:GBus} (h:BusI n b) (hd:b.data_.live=true):(atI b.m b.data_.who).queue≠[]:=by
 have hw:=live_whoD h hd
 have hf:=h.fly _ hw
 have hr:=(h.mst _ hw).right
 intro hq
 have:=hr.none hq
 rw[this.1,this.2.1] at hf
 unfold flyG at hf
 rw[if_pos (show b.data_.live=true∧b.data_.who=b.data_.who from⟨hd,rfl⟩)] at hf
 split at hf<;>omega
theorem step_wave (b:GBus) (s:GScript):(stepG b s).2={waveG b with ready:=rdyG b.data_,resp:=respG b.data_,got:=if rdyG b.data_=true then (readyG (finishG (openG b s) s).1 s).1 else -1}:=by
 rw[step_eq]
 by_cases hr:rdyG b.data_=true
 ·rw[if_pos hr,if_pos hr,hr]
  rfl
 ·rw[if_neg hr,if_neg hr,Bool.not_ok hr]
  rfl
end Go.Proofs.YtciimjnpdmmfnaaGreat.Ev
namespace Go.Proofs.YtciimjnpdmmfnaaGreat.Ev
open Go Go.Proofs
set_option linter.unusedVariables false
set_option linter.unusedSimpArgs false
def lastG (s:GScript):Int:=s.posts.foldl (fun m p=>maxI m p.at_) (-1)
theorem s_LastPost_eq (s:GScript) (hl:s.posts.length < 1048577):p_s_LastPost s=some (lastG s):=by
 unfold p_s_LastPost
 rw[loop_all (ρ:=Int) s.posts (by omega) (fun (p:GPost) m=>some (.inl (maxI m p.at_))) (fun m=>some m) (p_s_LastPost__L1 s) (fun m v i=>rfl) (-1)]
 exact runL_fold _ _ (fun m (p:GPost)=>maxI m p.at_) (fun _ _=>True) (fun a l s _=>⟨rfl,trivial⟩) _ _ trivial
theorem i_LastPost_eq (s:GScript) (hl:s.posts.length < 1048577):p_i_LastPost s=some (lastG s):=by
 unfold p_i_LastPost
 rw[loop_all (ρ:=Int) s.posts (by omega) (fun (p:GPost) m=>some (.inl (maxI m p.at_))) (fun m=>some m) (p_i_LastPost__L1 s) (fun m v i=>rfl) (-1)]
 exact runL_fold _ _ (fun m (p:GPost)=>maxI m p.at_) (fun _ _=>True) (fun a l s _=>⟨rfl,trivial⟩) _ _ trivial
theorem s_l20Idle_eq {b:GBus} (hl:b.m.length < 1048577):p_s_l20Idle b=some (quietG b):=by
 unfold p_s_l20Idle
 rw[any_list b.m (by omega) (fun a=>decide ((a.queue.length:Int) > 0)) (some true) (p_s_l20Idle__L1 b) (fun m i=>rfl),quiet_any]
 cases quietG b<;>simp
def goesG (s:GScript) (b:GBus):Prop:=b.now < 4000∧(quietG b=false∨b.now≤lastG s)
instance (s:GScript) (b:GBus):Decidable (goesG s b):=by unfold goesG;infer_instance
def outN (s:GScript):Nat→GBus→GBus
 | 0,b=>b
 | f+1,b=>if goesG s b then outN s f (stepG b s).1 else b
def outG (b:GBus) (s:GScript):GBus×Int:=if okB b=true then (outN s (4000 - b.now).toNat b,(outN s (4000 - b.now).toNat b).now - b.now) else (b,0)
theorem outN_ok (s:GScript):∀(f:Nat) {b:GBus},BusP b→f=(4000 - b.now).toNat→BusP (outN s f b)∧¬goesG s (outN s f b)∧b.now≤(outN s f b).now∧(outN s f b).conf=b.conf:=by
 intro f
 induction f with
 | zero=>
  intro b h hf
  have hn:=h.now
  exact⟨h,fun hx=>by have:=hx.1;simp only[outN] at this;omega,Int.le_refl _,rfl⟩
 | succ f ih=>
  intro b h hf
  have hn:=h.now
  unfold outN
  split
  ·rename_i hg
   have hs:=step_ok h s hg.1
   have:=ih hs.1 (by rw[hs.2.1];omega)
   rw[hs.2.1,hs.2.2] at this
   exact⟨this.1,this.2.1,by omega,this.2.2.2⟩
  ·rename_i hg
   exact⟨h,hg,Int.le_refl _,rfl⟩
theorem i_RunOut_eq {b:GBus} {s:GScript} (hb:b.sm) (hs:s.sm):p_i_RunOut b s=some (outG b s):=by
 unfold p_i_RunOut outG
 rw[i_ownBus_eq b hb,Option.bind_some,i_okB hb,Option.bind_some]
 by_cases h:okB b=true
 ·have hP:=(okB_iff hb).1 h
  have hN:=hP.now
  rw[h,if_neg (by simp),if_pos rfl,i_LastPost_eq s hs.posts,Option.bind_some]
  have hJ:∀c:GBus,BusP c→b.now≤c.now→p_i_RunOut__J2 b s c=some (c,c.now - b.now):=by
   intro c hc hn
   have:=hc.now
   unfold p_i_RunOut__J2
   rw[i_ownBus_eq _ hc.sm,Option.bind_some,subW_of (by omega) (by omega)]
  have key:∀(f m:Nat) (c:GBus),BusP c→b.now≤c.now→f=(4000 - c.now).toNat→f < m→p_i_RunOut__L1 b s m c (lastG s)=some (outN s f c,(outN s f c).now - b.now):=by
   intro f
   induction f with
   | zero=>
    intro m c hc hn hf hm
    obtain⟨m,rfl⟩:∃k,m=k+1:=⟨m - 1,by omega⟩
    have:=hc.now
    show p_i_RunOut__L1b b s (p_i_RunOut__L1 b s m) c (lastG s)=_
    unfold p_i_RunOut__L1b
    rw[if_neg (by simp;omega),hJ c hc hn]
    rfl
   | succ f ih=>
    intro m c hc hn hf hm
    obtain⟨m,rfl⟩:∃k,m=k+1:=⟨m - 1,by omega⟩
    have hcn:=hc.now
    have hst:=step_ok hc s (by omega)
    have hgo:p_i_RunOut__L1 b s m (stepG c s).1 (lastG s)=some (outN s f (stepG c s).1,(outN s f (stepG c s).1).now - b.now):=ih m _ hst.1 (by rw[hst.2.1];omega) (by rw[hst.2.1];omega) (by omega)
    show p_i_RunOut__L1b b s (p_i_RunOut__L1 b s m) c (lastG s)=_
    unfold p_i_RunOut__L1b outN
    have hlt:c.now < 4000:=by omega
    rw[if_pos (by simpa using hlt),i_isIdle_eq hc.sm.ml,Option.bind_some]
    by_cases hq:quietG c=true
    ·rw[if_neg (by simp[hq])]
     by_cases hl:c.now≤lastG s
     ·rw[if_pos (by simpa using hl),i_step_eq hc hs hlt,Option.bind_some,if_pos (show goesG s c from⟨hlt,.inr hl⟩)]
      exact hgo
     ·rw[if_neg (by simpa using hl),if_neg (show ¬goesG s c from fun hx=>hx.2.elim (fun h1=>by rw[hq] at h1;exact absurd h1 (by decide)) hl),hJ c hc hn]
    ·rw[if_pos (by simpa using hq),i_step_eq hc hs hlt,Option.bind_some,if_pos (show goesG s c from⟨hlt,.inl (by simpa using hq)⟩)]
     exact hgo
  exact key _ FU b hP (Int.le_refl _) rfl (by have:=FU_big;omega)
 ·simp[h]
theorem s_RunOut_eq {b:GBus} {s:GScript} (hb:b.sm) (hs:s.sm):p_s_RunOut b s=some (outG b s):=by
 unfold p_s_RunOut outG
 rw[s_l13Copy_eq b hb,Option.bind_some,s_okB hb,Option.bind_some]
 by_cases h:okB b=true
 ·have hP:=(okB_iff hb).1 h
  have hN:=hP.now
  rw[h,if_neg (by simp),if_pos rfl]
  have key:∀(f m:Nat) (c:GBus),BusP c→b.now≤c.now→f=(4000 - c.now).toNat→f < m→p_s_RunOut__L1 b s m c (c.now - b.now)=some (outN s f c,(outN s f c).now - b.now):=by
   intro f
   induction f with
   | zero=>
    intro m c hc hn hf hm
    obtain⟨m,rfl⟩:∃k,m=k+1:=⟨m - 1,by omega⟩
    have:=hc.now
    show p_s_RunOut__L1b b s (p_s_RunOut__L1 b s m) c _=_
    unfold p_s_RunOut__L1b p_s_RunOut__J2
    rw[if_neg (by simp;omega),if_neg (by simp)]
    rfl
   | succ f ih=>
    intro m c hc hn hf hm
    obtain⟨m,rfl⟩:∃k,m=k+1:=⟨m - 1,by omega⟩
    have hcn:=hc.now
    have hst:=step_ok hc s (by omega)
    have hgo:p_s_RunOut__L1 b s m (stepG c s).1 ((stepG c s).1.now - b.now)=some (outN s f (stepG c s).1,(outN s f (stepG c s).1).now - b.now):=ih m _ hst.1 (by rw[hst.2.1];omega) (by rw[hst.2.1];omega) (by omega)
    have e1:addW (c.now - b.now) 1=(stepG c s).1.now - b.now:=by rw[hst.2.1,addW_of (by omega) (by omega)];omega
    show p_s_RunOut__L1b b s (p_s_RunOut__L1 b s m) c _=_
    unfold p_s_RunOut__L1b p_s_RunOut__J2 outN
    have hlt:c.now < 4000:=by omega
    rw[if_pos (by simpa using hlt),s_l20Idle_eq hc.sm.ml,Option.bind_some]
    by_cases hq:quietG c=true
    ·rw[if_neg (by simp[hq]),s_LastPost_eq s hs.posts,Option.bind_some]
     by_cases hl:c.now≤lastG s
     ·rw[if_pos (by simpa using hl),s_step_eq hc hs hlt,Option.bind_some,if_pos (show goesG s c from⟨hlt,.inr hl⟩),e1]
      exact hgo
     ·rw[if_neg (by simpa using hl),if_neg (show ¬goesG s c from fun hx=>hx.2.elim (fun h1=>by rw[hq] at h1;exact absurd h1 (by decide)) hl)]
    ·rw[if_pos (by simpa using hq),if_pos rfl,s_step_eq hc hs hlt,Option.bind_some,if_pos (show goesG s c from⟨hlt,.inl (by simpa using hq)⟩),e1]
     exact hgo
  have:=key _ FU b hP (Int.le_refl _) rfl (by have:=FU_big;omega)
  rwa [Int.sub_self] at this
 ·simp[h]
theorem out_sm {b:GBus} (hb:b.sm) (s:GScript):(outG b s).1.sm:=by
 unfold outG
 split
 ·rename_i h
  exact (outN_ok s _ ((okB_iff hb).1 h) rfl).1.sm
 ·exact hb
end Go.Proofs.YtciimjnpdmmfnaaGreat.Ev
namespace Go.Proofs.YtciimjnpdmmfnaaGreat.Ev
open Go Go.Proofs
set_option linter.unusedVariables false
set_option linter.unusedSimpArgs false
end Go.Proofs.YtciimjnpdmmfnaaGreat.Ev
namespace Go.Proofs.YtciimjnpdmmfnaaGreat.Ev
open Go Go.Proofs
set_option linter.unusedVariables false
set_option linter.unusedSimpArgs false
end Go.Proofs.YtciimjnpdmmfnaaGreat.Ev
namespace Go.Proofs.YtciimjnpdmmfnaaGreat.Ev
open Go Go.Proofs
set_option linter.unusedVariables false
set_option linter.unusedSimpArgs false
theorem open_none {b:GBus} {s:GScript} (h:s.posts=[]):(openG b s).m=b.m:=by
 have h1:=held_data (tickAll (postAll b (postsG s b.now)))
 unfold openG
 rw[h1.2.2.2.2.2.1]
 unfold postsG
 rw[h]
 rfl
theorem quiet_at {b:GBus} (h:quietG b=true) {i:Int} (h0:0≤i) (h1:i < (b.m.length:Int)):(atI b.m i).queue=[]:=by
 have:=List.all_eq_true.1 h _ (at_mem h0 h1)
 simpa using this
theorem quiet_step {b:GBus} {s:GScript} (h:BusP b) (hq:quietG b=true) (hs:s.posts=[]):(stepG b s).2.got=-1∧(stepG b s).1.log=b.log:=by
 have hd:b.data_.live=false:=by
  cases hl:b.data_.live with
  | false=>rfl
  | true=>
   have hw:=mas_bnd (live_whoD h.i hl)
   have hml:=h.ml
   exact absurd (quiet_at hq hw.1 (by omega)) (data_ne h.i hl)
 have hr:rdyG b.data_=true:=by unfold rdyG;simp[hd]
 have he:endsG b.data_=false:=by unfold endsG;simp[hd]
 refine⟨?_,by rw[step_log h s,if_neg (by simp[he])]⟩
 have hf:=fin_I h s
 have e:=open_data b s
 rw[step_wave,if_pos hr]
 dsimp only
 have hfin:(finishG (openG b s) s).1=openG b s:=by
  unfold finishG
  rw[if_pos (by rw[e.2.2.2.2.2.2.1];exact hd)]
 have hm:=ready_more hf.1 s (hf.2 hr)
 rcases hm.some with h1|h1
 ·exact h1
 ·rcases hm.got with h2|h2
  ·exact h2
  ·exfalso
   have h3:=h2.1
   rw[(finish_now (openG b s) s).2.2,e.2.1] at h3
   have hw:=mas_bnd h3
   have hml:=h.ml
   generalize (readyG (finishG (openG b s) s).1 s).1=i at*
   rw[hfin,open_none hs] at h1
   exact h1 (quiet_at hq hw.1 (by omega))
theorem law_w_FnIdle (x0:List Int) (h0:x0.length≤maxLen∧∀y∈x0,(Lit.int .u8 y).wf=true):p_w_FnIdle x0=some true:=by
 unfold p_w_FnIdle
 rw[big_eq,Option.bind_some]
 by_cases hx:(x0.length:Int) > 1048576
 ·rw[if_pos (by simpa using hx)]
 ·rw[if_neg (by simpa using hx)]
  obtain⟨⟨b,s⟩,e,hb,hs⟩:=DrawRunOut_so x0 (by omega)
  dsimp only at hb hs
  have h2:=out_sm hb s
  rw[e,Option.bind_some]
  dsimp only
  rw[i_RunOut_eq hb hs.sm,Option.bind_some,s_RunOut_eq hb hs.sm,Option.bind_some,if_neg (by simp),SameBus_self _ h2,Option.bind_some]
  unfold p_w_FnIdle__J1
  rw[if_neg (by simp),s_okB hb,Option.bind_some]
  by_cases h:okB b=true
  ·have hP:=(okB_iff hb).1 h
   have hN:=hP.now
   have ho:outG b s=(outN s (4000 - b.now).toNat b,(outN s (4000 - b.now).toNat b).now - b.now):=if_pos h
   obtain⟨hc,hng,hle,hcc⟩:=outN_ok s _ hP rfl
   rw[if_neg (by simp[h]),ho]
   dsimp only
   rw[ho] at h2
   generalize outN s (4000 - b.now).toNat b=c at*
   dsimp only at h2
   have hcn:=hc.now
   have hs2:({s with posts:=[]}:GScript).sm:=⟨by show 0 < 1048577;decide,fun p hp=>absurd hp (by simp),hs.sm.waits,hs.sm.says,hs.sm.wmin⟩
   rw[i_BusStep_eq h2 hs2,Option.bind_some,addW_of (by omega) (by omega),if_pos (decide_eq_true (by omega)),i_IdleBus_eq h2,Option.bind_some,Option.bind_some,i_LastPost_eq s hs.sm.posts,Option.bind_some,s_LastPost_eq s hs.sm.posts,Option.bind_some]
   have hid:idleG c=quietG c:=by unfold idleG;rw[hc.ok];rfl
   have hT:(some (decide (lastG s=lastG s)):Option Bool)=some true:=by simp
   rw[hT,hid]
   by_cases hq:quietG c=true
   ·rw[hq,if_neg (by simp)]
    by_cases hn:c.now=4000
    ·rw[if_pos (by simpa using hn)];rfl
    ·have eb:bstepG c {s with posts:=[]}=stepG c {s with posts:=[]}:=if_pos ⟨hc.ok,hn⟩
     have hst:=quiet_step (s:={s with posts:=[]}) hc hq rfl
     rw[if_neg (by simpa using hn),eb,hst.1,hst.2,if_pos (by simp),SameLog_self _ h2.log]
     rfl
   ·have hn:c.now=4000:=by
     by_cases hn:c.now=4000
     ·exact hn
     ·exact absurd ⟨by omega,.inl (by simpa using hq)⟩ hng
    rw[if_pos (by simpa using hq),if_neg hq,if_pos (by simpa using hn)]
  ·rw[if_pos (by simpa using h),show outG b s=(b,0) from if_neg h]
   rfl
end Go.Proofs.YtciimjnpdmmfnaaGreat.Ev
