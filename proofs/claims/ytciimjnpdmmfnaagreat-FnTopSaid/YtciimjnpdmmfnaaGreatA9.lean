/- A part of the proof of FnTop: see the text YtciimjnpdmmfnaaGreatLawFnTop for what is proved and its conditions. Conditions here: those in each line. -/
import Derived.Test.YtciimjnpdmmfnaaGreatA8
namespace Go.Proofs.YtciimjnpdmmfnaaGreat.Ev
open Go Go.Proofs
set_option linter.unusedVariables false
set_option linter.unusedSimpArgs false
theorem l5Ints_self (xs:List Int) (hl:xs.length < 1048577):p_s_l5Ints xs xs=some true:=by
 unfold p_s_l5Ints
 rw[if_neg (by simp)]
 refine loop_go1 (n:=xs.length) (by omega) (B:=p_s_l5Ints__L1b xs xs) (L:=p_s_l5Ints__L1 xs xs) (fun m i=>rfl) (fun k hk κ=>?_) fun κ=>?_
 ·unfold p_s_l5Ints__L1b
  simp[hk,idx_get hk]
 ·unfold p_s_l5Ints__L1b
  simp
theorem SameReq_self (r:GReq) (hs:r.sm):p_s_SameReq r r=some true:=by
 unfold p_s_SameReq
 simp[l5Ints_self _ hs]
theorem SameMst_self (m:GMst) (hs:m.sm):p_s_SameMst m m=some true:=by
 unfold p_s_SameMst
 rw[if_neg (by simp)]
 have:=hs.1
 refine loop_go1 (n:=m.queue.length) (by omega) (B:=p_s_SameMst__L1b m m) (L:=p_s_SameMst__L1 m m) (fun m i=>rfl) (fun k hk κ=>?_) fun κ=>?_
 ·unfold p_s_SameMst__L1b
  simp[hk,idx_get hk,SameReq_self _ (hs.2 _ (List.getElem_mem hk))]
 ·unfold p_s_SameMst__L1b
  simp
theorem SameConf_self (c:GConf) (hl:c.masters.length < 1048577):p_s_SameConf c c=some true:=by
 unfold p_s_SameConf
 rw[if_neg (by simp)]
 refine loop_go1 (n:=c.masters.length) (by omega) (B:=p_s_SameConf__L1b c c) (L:=p_s_SameConf__L1 c c) (fun m i=>rfl) (fun k hk κ=>?_) fun κ=>?_
 ·unfold p_s_SameConf__L1b
  simp[hk,idx_get hk]
 ·unfold p_s_SameConf__L1b
  simp
theorem SameModel_self (m:GModel) (hs:m.sm):p_s_SameModel m m=some true:=by
 unfold p_s_SameModel p_s_SameDev
 simp[l5Ints_self _ hs.1,l5Ints_self _ hs.2.1,l5Ints_self _ hs.2.2]
theorem l13Same_self (xs:List GDone) (hl:xs.length < 1048577):p_s_l13Same xs xs=some true:=by
 unfold p_s_l13Same
 rw[if_neg (by simp)]
 refine loop_go1 (n:=xs.length) (by omega) (B:=p_s_l13Same__L1b xs xs) (L:=p_s_l13Same__L1 xs xs) (fun m i=>rfl) (fun k hk κ=>?_) fun κ=>?_
 ·unfold p_s_l13Same__L1b
  simp[hk,idx_get hk]
 ·unfold p_s_l13Same__L1b
  simp
theorem SameBus_self (b:GBus) (hs:b.sm):p_s_SameBus b b=some true:=by
 unfold p_s_SameBus
 rw[SameConf_self _ hs.conf,Option.bind_some,if_neg (by simp),if_neg (by simp),if_neg (by simp),if_neg (by simp),l5Ints_self _ hs.sl,Option.bind_some,if_neg (by simp),if_neg (by simp),if_neg (by simp),if_neg (by simp),if_neg (by simp),if_neg (by simp),if_neg (by simp),SameModel_self _ hs.model,Option.bind_some,if_neg (by simp),if_neg (by simp),l13Same_self _ hs.log,Option.bind_some]
 unfold p_s_SameBus__J3
 rw[if_neg (by simp)]
 have:=hs.ml
 have:=hs.bl
 have h2:p_s_SameBus__L2 b b FU 0=some true:=by
  refine loop_go1 (n:=b.buckets.length) (by omega) (B:=p_s_SameBus__L2b b b) (L:=p_s_SameBus__L2 b b) (fun m i=>rfl) (fun k hk κ=>?_) fun κ=>?_
  ·unfold p_s_SameBus__L2b
   simp[hk,idx_get hk]
  ·unfold p_s_SameBus__L2b
   simp
 refine loop_go1 (n:=b.m.length) (by omega) (B:=p_s_SameBus__L1b b b) (L:=p_s_SameBus__L1 b b) (fun m i=>rfl) (fun k hk κ=>?_) fun κ=>?_
 ·unfold p_s_SameBus__L1b
  simp[hk,idx_get hk,SameMst_self _ (hs.mst _ (List.getElem_mem hk))]
 ·unfold p_s_SameBus__L1b
  simp[h2]
def quietG (b:GBus):Bool:=b.m.all fun m=>decide (m.queue=[])
def idleG (b:GBus):Bool:=okB b&&quietG b
theorem i_isIdle_eq {b:GBus} (hl:b.m.length < 1048577):p_i_Bus_isIdle b=some (quietG b):=by
 unfold p_i_Bus_isIdle p_slices_ContainsFunc_Mst_Mst__i_Bus_isIdle_1 p_slices_IndexFunc_Mst_Mst__i_Bus_isIdle_1
 have e:∀a:GMst,p_i_Bus_isIdle_1 a=some (!decide (a.queue=[])):=by
  intro a
  unfold p_i_Bus_isIdle_1
  by_cases h:a.queue=[]
  ·simp[h]
  ·have:=List.length_pos_iff.2 h
   simp only[h,decide_false,Bool.not_false]
   exact congrArg some (decide_eq_true (by omega))
 rcases index_list b.m (by omega) p_i_Bus_isIdle_1 (fun m=>decide (m.queue=[])) (fun a _=>e a) (p_slices_IndexFunc_Mst_Mst__i_Bus_isIdle_1__L1 b.m) (fun m i=>rfl) with⟨h1,h2⟩|⟨k,hk,h2,h3,-⟩
 ·rw[h2]
  unfold quietG
  rw[h1]
  rfl
 ·rw[h2]
  have:quietG b=false:=by
   unfold quietG
   rw[List.all_eq_false]
   exact⟨_,List.getElem_mem hk,by rw[h3];simp⟩
  rw[this]
  simp
theorem i_IdleBus_eq {b:GBus} (hs:b.sm):p_i_IdleBus b=some (idleG b):=by
 unfold p_i_IdleBus idleG
 rw[i_okB hs,Option.bind_some,i_isIdle_eq hs.ml]
 by_cases h:okB b=true
 ·simp[h]
 ·simp[h]
theorem any_list {α ρ:Type} (xs:List α) (hl:xs.length < 4611686018427387904) (c:α→Bool) {no:Option ρ} (fin:Option ρ) (L:Nat→Int→Option ρ)
  (hL:∀m i,L (m+1) i=if decide (i < (xs.length:Int))=true then (idx xs i).bind fun a=>if c a=true then no else L m (addW i 1) else fin):L FU 0=if xs.any c=true then no else fin:=by
 have key:∀(m k:Nat),k≤xs.length→xs.length - k < m→L m (k:Int)=if (xs.drop k).any c=true then no else fin:=by
  intro m
  induction m with
  | zero=>intro k _ h;omega
  | succ m ih=>
   intro k hk hm
   rw[hL]
   by_cases hc:k < xs.length
   ·rw[if_pos (by simpa using hc),idx_get hc,Option.bind_some,addW_nat (by omega),ih (k+1) (by omega) (by omega),List.drop_eq_getElem_cons hc,List.any_cons]
    by_cases h:c xs[k]=true
    ·simp[h]
    ·simp[h]
   ·rw[if_neg (by simpa using hc),List.drop_of_length_le (by omega)]
    simp
 have:=key FU 0 (Nat.zero_le _) (by have:=FU_big;omega)
 simpa using this
theorem quiet_any (b:GBus):(b.m.any fun a=>decide ((a.queue.length:Int) > 0))=!quietG b:=by
 unfold quietG
 rw[List.not_all_eq_any_not]
 congr 1
 funext a
 by_cases h:a.queue=[]
 ·simp[h]
 ·have:=List.length_pos_iff.2 h
  simp only[h,decide_false,Bool.not_false]
  exact decide_eq_true (by omega)
theorem s_IdleBus_eq {b:GBus} (hs:b.sm):p_s_IdleBus b=some (idleG b):=by
 unfold p_s_IdleBus
 have hl:=hs.ml
 rw[any_list b.m (by omega) (fun a=>decide ((a.queue.length:Int) > 0)) ((p_s_BusOk b).bind fun r601=>some r601) (p_s_IdleBus__L1 b) (fun m i=>rfl),quiet_any,s_okB hs]
 unfold idleG
 cases quietG b<;>simp
end Go.Proofs.YtciimjnpdmmfnaaGreat.Ev
namespace Go.Proofs.YtciimjnpdmmfnaaGreat.Ev
open Go Go.Proofs
set_option linter.unusedVariables false
set_option linter.unusedSimpArgs false
def So {β:Type} (e:Option β) (R:β→Prop):Prop:=∃b,e=some b∧R b
theorem So.bind {α β:Type} {e:Option α} {Q:α→Prop} {f:α→Option β} {R:β→Prop} (h:So e Q) (k:∀a,Q a→So (f a) R):So (e.bind f) R:=by
 obtain⟨a,rfl,q⟩:=h
 exact k a q
theorem So.ret {β:Type} {b:β} {R:β→Prop} (h:R b):So (some b) R:=⟨b,rfl,h⟩
theorem So.ite {β:Type} {c:Prop} [Decidable c] {x y:Option β} {R:β→Prop} (h1:c→So x R) (h2:¬c→So y R):So (if c then x else y) R:=by
 split
 ·exact h1 ‹_›
 ·exact h2 ‹_›
def CurOk (c:GL1Cur):Prop:=0≤c.i∧c.i≤(c.b.length:Int)∧c.b.length < 4611686018427387904
theorem and255 (a:Int):0≤andW a 255∧andW a 255≤255:=by
 have h:((BitVec.ofInt IntKind.i64.bits a &&& BitVec.ofInt IntKind.i64.bits 255).toNat)≤255:=by
  rw[BitVec.toNat_and]
  have:(BitVec.ofInt IntKind.i64.bits 255).toNat=255:=by decide
  rw[this]
  exact Nat.and_le_right
 unfold andW
 generalize (BitVec.ofInt IntKind.i64.bits a &&& BitVec.ofInt IntKind.i64.bits 255).toNat=n at*
 rw[wrap64 (by omega) (by omega)]
 omega
theorem l1Byte_ok {c:GL1Cur} (h:CurOk c):∃r c',p_s_l1Byte c=some (r,c')∧CurOk c'∧0≤r∧r≤255:=by
 obtain⟨h1,h2,h3⟩:=h
 unfold p_s_l1Byte
 by_cases hc:c.i < (c.b.length:Int)
 ·obtain⟨k,hk⟩:∃k:Nat,c.i=k:=⟨c.i.toNat,by omega⟩
  have hk2:k < c.b.length:=by omega
  rw[if_pos (by simpa using hc),hk,idx_get hk2,Option.bind_some]
  refine⟨_,_,rfl,⟨?_,?_,h3⟩,and255 _⟩
  ·show 0≤addW (k:Int) 1
   rw[addW_nat (by omega)];omega
  ·show addW (k:Int) 1≤_
   rw[addW_nat (by omega)];show ((k+1:Nat):Int)≤(c.b.length:Int);omega
 ·rw[if_neg (by simpa using hc)]
  exact⟨_,_,rfl,⟨h1,h2,h3⟩,and255 _⟩
theorem remW_lt {a n:Int} (h0:0≤a) (hn:0 < n):0≤remW a n∧remW a n < n:=by
 unfold remW
 rw[Int.tmod_eq_emod_of_nonneg h0]
 exact⟨Int.emod_nonneg _ (by omega),Int.emod_lt_of_pos _ hn⟩
theorem l1Below_ok {c:GL1Cur} (n:Int) (h:CurOk c):∃r c',p_s_l1Below c n=some (r,c')∧CurOk c'∧0≤r∧(0 < n→r < n)∧(n≤0→r=0):=by
 unfold p_s_l1Below
 by_cases h0:n≤0
 ·rw[if_pos (by simpa using h0)]
  exact⟨_,_,rfl,h,by omega,fun _=>by omega,fun _=>rfl⟩
 ·rw[if_neg (by simpa using h0)]
  by_cases h1:n≤256
  ·rw[if_pos (by simpa using h1)]
   obtain⟨r,c',hr,hc,h2,h3⟩:=l1Byte_ok h
   rw[hr,Option.bind_some,nzI_of (by omega),Option.bind_some]
   have:=remW_lt h2 (by omega:0 < n)
   exact⟨_,_,rfl,hc,this.1,fun _=>this.2,fun _=>by omega⟩
  ·rw[if_neg (by simpa using h1)]
   obtain⟨r,c',hr,hc,h2,h3⟩:=l1Byte_ok h
   obtain⟨r2,c2,hr2,hc2,h22,h32⟩:=l1Byte_ok hc
   obtain⟨r3,c3,hr3,hc3,h23,h33⟩:=l1Byte_ok hc2
   obtain⟨r4,c4,hr4,hc4,h24,h34⟩:=l1Byte_ok hc3
   rw[hr,Option.bind_some,hr2,Option.bind_some,hr3,Option.bind_some,hr4,Option.bind_some,nzI_of (by omega),Option.bind_some]
   have e:addW (addW (addW (mulW r 16777216) (mulW r2 65536)) (mulW r3 256)) r4=r*16777216+r2*65536+r3*256+r4:=by
    rw[mulW_of (by omega) (by omega),mulW_of (by omega) (by omega),mulW_of (by omega) (by omega),addW_of (a:=r*16777216) (by omega) (by omega),addW_of (a:=r*16777216+r2*65536) (by omega) (by omega),addW_of (by omega) (by omega)]
   have:=remW_lt (by rw[e];omega:0≤addW (addW (addW (mulW r 16777216) (mulW r2 65536)) (mulW r3 256)) r4) (by omega:0 < n)
   exact⟨_,_,rfl,hc4,this.1,fun _=>this.2,fun _=>by omega⟩
theorem l1New_ok (x:List Int) (hl:x.length < 1048577):∃c,p_s_l1New x=some c∧CurOk c:=by
 unfold p_s_l1New
 have key:∀(m k:Nat) (v:Int),k≤x.length→x.length - k < m→∃c,p_s_l1New__L1 x m v k=some c∧CurOk c:=by
  intro m
  induction m with
  | zero=>intro k _ _ h;omega
  | succ m ih=>
   intro k v hk hm
   have e:p_s_l1New__L1 x (m+1) v k=p_s_l1New__L1b x (p_s_l1New__L1 x m) v k:=rfl
   rw[e]
   unfold p_s_l1New__L1b p_s_l1New__J2
   by_cases hc:k < x.length
   ·rw[if_pos (by simpa using hc)]
    by_cases h4:(k:Int) < 4000
    ·rw[if_pos (by simpa using h4),idx_get hc,Option.bind_some,addW_nat (by omega)]
     exact ih (k+1) _ (by omega) (by omega)
    ·rw[if_neg (by simpa using h4)]
     exact⟨_,rfl,by simp[CurOk];omega⟩
   ·rw[if_neg (by simpa using hc)]
    exact⟨_,rfl,by simp[CurOk];omega⟩
 exact key FU 0 _ (Nat.zero_le _) (by have:=FU_big;omega)
theorem l1Once_ok {c:GL1Cur} (n:Int) (h:CurOk c):∃r c',p_s_l1Once c n=some (r,c')∧CurOk c':=by
 unfold p_s_l1Once
 obtain⟨r,c',hr,hc,_⟩:=l1Below_ok n h
 rw[hr]
 exact⟨_,_,rfl,hc⟩
theorem idx_in {α:Type} {xs:List α} {i:Int} (h0:0≤i) (h1:i < (xs.length:Int)):∃a,idx xs i=some a∧a∈xs:=by
 obtain⟨k,rfl⟩:∃k:Nat,i=k:=⟨i.toNat,by omega⟩
 have hk:k < xs.length:=by omega
 exact⟨_,idx_get hk,List.getElem_mem hk⟩
theorem l1PickInt_ok {c:GL1Cur} (xs:List Int) (hx:xs≠[]) (h:CurOk c):∃r c',p_s_l1PickInt c xs=some (r,c')∧CurOk c'∧r∈xs:=by
 unfold p_s_l1PickInt
 obtain⟨r,c',hr,hc,h0,h1,_⟩:=l1Below_ok (xs.length:Int) h
 have hl:0 < xs.length:=List.length_pos_iff.2 hx
 obtain⟨a,ha,hm⟩:=idx_in h0 (h1 (by omega))
 rw[hr,Option.bind_some,ha]
 exact⟨_,_,rfl,hc,hm⟩
theorem below_so {c:GL1Cur} (n:Int) (h:CurOk c):So (p_s_l1Below c n) fun r=>CurOk r.2∧0≤r.1∧(0 < n→r.1 < n)∧(n≤0→r.1=0):=by
 obtain⟨r,c',e,h1,h2,h3,h4⟩:=l1Below_ok n h
 exact⟨_,e,h1,h2,h3,h4⟩
theorem once_so {c:GL1Cur} (n:Int) (h:CurOk c):So (p_s_l1Once c n) fun r=>CurOk r.2:=by
 obtain⟨r,c',e,h1⟩:=l1Once_ok n h
 exact⟨_,e,h1⟩
theorem pick_so {c:GL1Cur} (xs:List Int) (hx:xs≠[]) (h:CurOk c):So (p_s_l1PickInt c xs) fun r=>CurOk r.2∧r.1∈xs:=by
 obtain⟨r,c',e,h1,h2⟩:=l1PickInt_ok xs hx h
 exact⟨_,e,h1,h2⟩
theorem idx_so {α:Type} {xs:List α} {i:Int} (h0:0≤i) (h1:i < (xs.length:Int)):So (idx xs i) fun a=>a∈xs:=idx_in h0 h1
theorem set_so {α:Type} (xs:List α) (i:Int) (a:α):So (setO xs i a) fun r=>r=xs.set i.toNat a:=⟨_,rfl,rfl⟩
theorem app_so {α:Type} (sz:Nat) (hz:sz≤1024) (xs ys:List α) (h:xs.length+ys.length≤1048600):So (appI sz xs ys) fun r=>r=xs++ys:=by
 have hb:(xs.length+ys.length)*sz≤140737488355328:=Nat.le_trans (Nat.mul_le_mul h hz) (by decide)
 exact⟨_,appI_of hb (by omega),rfl⟩
theorem l6Conf_so {x0:GL1Cur} (h:CurOk x0):So (p_s_l6Conf x0) fun r=>CurOk r.2∧confG r.1=true:=by
 unfold p_s_l6Conf
 refine (below_so 3 h).bind fun r1 ⟨h1,a1,b1,_⟩=>?_
 refine (below_so 3 h1).bind fun r2 ⟨h2,a2,b2,_⟩=>?_
 refine (below_so 3 h2).bind fun r3 ⟨h3,a3,b3,_⟩=>?_
 refine (below_so 6 h3).bind fun r4 ⟨h4,a4,b4,_⟩=>?_
 refine (below_so 12 h4).bind fun r5 ⟨h5,a5,b5,_⟩=>?_
 refine (below_so 4 h5).bind fun r6 ⟨h6,a6,b6,_⟩=>?_
 have b1:=b1 (by omega)
 have b2:=b2 (by omega)
 have b3:=b3 (by omega)
 have b4:=b4 (by omega)
 have b5:=b5 (by omega)
 have b6:=b6 (by omega)
 rw[addW_of (by omega) (by omega),addW_of (by omega) (by omega),addW_of (by omega) (by omega),addW_of (by omega) (by omega)]
 generalize r1.1=q at*
 generalize r2.1=w at*
 generalize r3.1=e at*
 generalize r4.1=s at*
 generalize r5.1=l at*
 have hcost:∀ms,costG (GConf.mk ms (1+q) w e (1+s) (1+l))=(e+2)*(w+6):=fun ms=>by
  unfold costG
  rw[if_pos (by simp only;omega)]
 have hcl:12≤(e+2)*(w+6)∧(e+2)*(w+6)≤32:=by
  obtain rfl|rfl|rfl:e=0∨e=1∨e=2:=by omega
  all_goals omega
 have hslot:∀ms,slotG (GConf.mk ms (1+q) w e (1+s) (1+l))=2*((e+2)*(w+6))+(1+l):=fun ms=>by
  unfold slotG
  rw[hcost,if_neg (by omega),if_pos (by simp only;omega)]
 generalize (e+2)*(w+6)=cost at*
 have key:∀(m k:Nat) (c:GL1Cur) (ms:List GMConf),CurOk c→k < m→1≤ms.length+k→ms.length+k≤4→(∀x∈ms,(1≤x.weight∧x.weight≤4)∧x.prio=false∧x.every=0∧x.cap=0)→So (p_s_l6Conf__L1 x0 m c (GConf.mk ms (1+q) w e (1+s) (1+l)) (k:Int)) fun r=>CurOk r.2∧confG r.1=true:=by
  intro m
  induction m with
  | zero=>intro k _ _ _ h;omega
  | succ m ih=>
   intro k c ms hc hm hl1 hl2 hms
   have eL:p_s_l6Conf__L1 x0 (m+1) c (GConf.mk ms (1+q) w e (1+s) (1+l)) (k:Int)=p_s_l6Conf__L1b x0 (p_s_l6Conf__L1 x0 m) c (GConf.mk ms (1+q) w e (1+s) (1+l)) (k:Int):=rfl
   rw[eL]
   unfold p_s_l6Conf__L1b
   cases k with
   | succ k=>
    rw[if_pos (by simp)]
    refine (below_so 3 hc).bind fun r1 ⟨h1,a1,b1,_⟩=>?_
    have b1:=b1 (by omega)
    refine (app_so 32 (by decide) _ _ (by simp only[List.length_cons,List.length_nil];omega)).bind fun z hz=>?_
    rw[subW_of (by omega) (by omega),show ((k+1:Nat):Int) - 1=(k:Int) by omega]
    subst hz
    refine ih k r1.2 _ h1 (by omega) (by simp;omega) (by simp;omega) fun x hx=>?_
    rw[List.mem_append,List.mem_singleton] at hx
    rcases hx with hx|rfl
    ·exact hms x hx
    ·refine⟨?_,rfl,rfl,rfl⟩
     show 1≤addW 1 r1.1∧addW 1 r1.1≤4
     rw[addW_of (by omega) (by omega)]
     omega
   | zero=>
    have hgood:∀ys:List GMConf,ys.length=ms.length→(∀x∈ys,mconfG (GConf.mk ys (1+q) w e (1+s) (1+l)) x=true)→confG (GConf.mk ys (1+q) w e (1+s) (1+l))=true:=by
     intro ys hy h
     unfold confG
     rw[hslot]
     simp only[Bool.and_eq_true,decide_eq_true_eq,List.all_eq_true]
     refine⟨⟨⟨⟨?_,?_⟩,?_⟩,?_⟩,h⟩<;>omega
    rw[if_neg (by simp)]
    refine (once_so 2 hc).bind fun r1 h1=>?_
    refine So.ite (fun _=>?_) fun _=>So.ret ⟨h1,hgood ms rfl fun x hx=>?_⟩
    ·refine (below_so (ms.length:Int) h1).bind fun r2 ⟨h2,a2,b2,_⟩=>?_
     have b2:=b2 (by omega)
     obtain⟨k,hk⟩:∃k:Nat,r2.1=(k:Int):=⟨r2.1.toNat,by omega⟩
     simp only[hk] at a2 b2 ⊢
     have hk2:k < ms.length:=by omega
     rw[idx_get hk2,Option.bind_some,setO_of,Option.bind_some,s_SlotOf_eq,Option.bind_some,hslot]
     refine (below_so 30 h2).bind fun r3 ⟨h3,a3,b3,_⟩=>?_
     have b3:=b3 (by omega)
     rw[Int.toNat_natCast,idx_get (by simpa using hk2),Option.bind_some,setO_of,Option.bind_some]
     refine (below_so 4 h3).bind fun r4 ⟨h4,a4,b4,_⟩=>?_
     have b4:=b4 (by omega)
     rw[Int.toNat_natCast,idx_get (by simpa using hk2),Option.bind_some,setO_of,Option.bind_some,Int.toNat_natCast]
     refine So.ret ⟨h4,?_⟩
     simp only[List.getElem_set_self,List.set_set]
     rw[mulW_of (by omega) (by omega),addW_of (by omega) (by omega),addW_of (by omega) (by omega)]
     have hx:=hms _ (List.getElem_mem hk2)
     have hp:List.countP (fun x:GMConf=>x.prio) (ms.set k (GMConf.mk ms[k].weight true (2*(2*cost+(1+l))+r3.1) (1+r4.1)))=1:=by
      have h0:List.countP (fun x:GMConf=>x.prio) ms=0:=List.countP_eq_zero.2 fun x hx=>by simp[(hms x hx).2.1]
      rw[List.countP_set hk2,h0]
      simp[hx.2.1]
     refine hgood _ (by simp) fun x hx2=>?_
     rcases List.mem_or_eq_of_mem_set hx2 with hx2|rfl
     ·have:=hms x hx2
      unfold mconfG
      rw[this.2.1]
      simp[this.1,this.2.2]
     ·unfold mconfG
      simp only[hslot]
      unfold priosG
      rw[hp]
      simp only[if_true,Bool.and_eq_true,decide_eq_true_eq]
      refine⟨hx.1,⟨?_,?_⟩,?_⟩<;>omega
    ·have:=hms x hx
     unfold mconfG
     rw[this.2.1]
     simp[this.1,this.2.2]
 rw[show (1:Int)+r6.1=((r6.1.toNat+1:Nat):Int) by omega]
 exact key FU (r6.1.toNat+1) r6.2 [] h6 (by have:=FU_big;omega) (by simp) (by simp;omega) (by simp)
end Go.Proofs.YtciimjnpdmmfnaaGreat.Ev
namespace Go.Proofs.YtciimjnpdmmfnaaGreat.Ev
open Go Go.Proofs
set_option linter.unusedVariables false
set_option linter.unusedSimpArgs false
theorem l6Any_so {c:GL1Cur} (h:CurOk c):So (p_s_l6Any c) fun r=>CurOk r.2∧r.1.masters.length≤4:=by
 unfold p_s_l6Any
 refine (l6Conf_so h).bind fun r1 ⟨h1,g1⟩=>?_
 have hl:=conf_len g1
 refine (below_so 14 h1).bind fun r2 ⟨h2,_⟩=>?_
 refine So.ite (fun _=>?_) fun _=>So.ite (fun _=>?_) fun _=>So.ite (fun _=>?_) fun _=>So.ite (fun _=>?_) fun _=>So.ite (fun _=>?_) fun _=>So.ite (fun _=>?_) fun _=>So.ite (fun _=>?_) fun _=>?_
 ·refine (pick_so _ (by simp) h2).bind fun r3 ⟨h3,_⟩=>?_
  refine (idx_so (by omega) (by omega)).bind fun a _=>?_
  refine (set_so _ _ _).bind fun y hy=>So.ret ⟨h3,?_⟩
  subst hy
  simp;omega
 ·refine (idx_so (by omega) (by omega)).bind fun a _=>?_
  refine (set_so _ _ _).bind fun y hy=>So.ret ⟨h2,?_⟩
  subst hy
  simp;omega
 ·exact (pick_so _ (by simp) h2).bind fun r3 ⟨h3,_⟩=>So.ret ⟨h3,by simp;omega⟩
 ·exact (pick_so _ (by simp) h2).bind fun r3 ⟨h3,_⟩=>So.ret ⟨h3,by simp;omega⟩
 ·exact (pick_so _ (by simp) h2).bind fun r3 ⟨h3,_⟩=>So.ret ⟨h3,by simp;omega⟩
 ·exact So.ret ⟨h2,by simp⟩
 ·exact (pick_so _ (by simp) h2).bind fun r3 ⟨h3,_⟩=>So.ret ⟨h3,by simp;omega⟩
 ·exact So.ret ⟨h2,by dsimp only;omega⟩
theorem l5Req_so {x0:GL1Cur} (h:CurOk x0):So (p_s_l5Req x0) fun r=>CurOk r.2∧r.1.data_.length≤8:=by
 unfold p_s_l5Req
 refine (once_so 2 h).bind fun r1 h1=>?_
 refine (pick_so _ (by simp) h1).bind fun r2 ⟨h2,m2⟩=>?_
 refine (pick_so _ (by simp) h2).bind fun r3 ⟨h3,m3⟩=>?_
 refine (once_so 6 h3).bind fun r4 h4=>?_
 rw[s_BytesOf_eq,Option.bind_some]
 refine (below_so 128 h4).bind fun r5 ⟨h5,_⟩=>?_
 refine (below_so 128 h5).bind fun r6 ⟨h6,_⟩=>?_
 refine (below_so 64 h6).bind fun r7 ⟨h7,_⟩=>?_
 refine (below_so 40 h7).bind fun r8 ⟨h8,_⟩=>?_
 refine (below_so 512 h8).bind fun r9 ⟨h9,_⟩=>?_
 refine (pick_so _ (by simp) h9).bind fun r10 ⟨h10,_⟩=>?_
 have hb:0 < bytesG r2.1:=by
  rw[bytes_pos]
  simp only[List.mem_cons,List.not_mem_nil,or_false] at m2
  omega
 rw[nzI_of (by omega),Option.bind_some,s_BurstOk_eq,Option.bind_some]
 have key:∀(g:GReq) (c:GL1Cur),CurOk c→g.data_=[]→So (p_s_l5Req__J2 x0 c g) fun r=>CurOk r.2∧r.1.data_.length≤8:=by
  intro g c hc hg
  unfold p_s_l5Req__J2
  have key2:∀(m k:Nat) (c:GL1Cur) (g:GReq),CurOk c→k≤8→8 - k < m→g.data_.length=k→So (p_s_l5Req__L1 x0 m c g (k:Int)) fun r=>CurOk r.2∧r.1.data_.length≤8:=by
   intro m
   induction m with
   | zero=>intro k _ _ _ _ h;omega
   | succ m ih=>
    intro k c g hc hk hm hg
    have eL:p_s_l5Req__L1 x0 (m+1) c g (k:Int)=p_s_l5Req__L1b x0 (p_s_l5Req__L1 x0 m) c g (k:Int):=rfl
    rw[eL]
    unfold p_s_l5Req__L1b p_s_l5Req__J3
    rw[s_BeatsOf_eq,Option.bind_some]
    have hbl:=beatsG_le g.burst
    by_cases hlt:(k:Int) < beatsG g.burst
    ·rw[if_pos (by simpa using hlt)]
     refine So.ite (fun _=>?_) fun _=>So.ret ⟨hc,by dsimp only;omega⟩
     rw[s_LimitOf_eq,Option.bind_some,Option.bind_some]
     refine (pick_so _ (by simp) hc).bind fun r1 ⟨h1,_⟩=>?_
     refine (below_so _ h1).bind fun r2 ⟨h2,_⟩=>?_
     refine (app_so 8 (by decide) _ _ (by simp only[List.length_cons,List.length_nil];omega)).bind fun z hz=>?_
     rw[addW_nat (by omega)]
     exact ih (k+1) _ _ h2 (by omega) (by omega) (by subst hz;simp[hg])
    ·rw[if_neg (by simpa using hlt),if_neg (by simp)]
     exact So.ret ⟨hc,by dsimp only;omega⟩
  have:=key2 FU 0 c g hc (by omega) (by have:=FU_big;omega) (by simp[hg])
  simpa using this
 exact So.ite (fun _=>key _ _ h10 rfl) fun _=>key _ _ h10 rfl
theorem small_so {c:GL1Cur} (h:CurOk c):So (p_s_l2Small c) fun r=>CurOk r.2:=by
 unfold p_s_l2Small
 exact (below_so 6 h).bind fun r1 ⟨h1,_⟩=>So.ret h1
theorem l5Any_so {c:GL1Cur} (h:CurOk c):So (p_s_l5Any c) fun r=>CurOk r.2∧r.1.data_.length≤9:=by
 unfold p_s_l5Any
 refine (l5Req_so h).bind fun r1 ⟨h1,g1⟩=>?_
 refine (below_so 12 h1).bind fun r2 ⟨h2,_⟩=>?_
 refine So.ite (fun _=>?_) fun _=>So.ite (fun _=>?_) fun _=>So.ite (fun _=>?_) fun _=>So.ite (fun _=>?_) fun _=>So.ite (fun _=>?_) fun _=>?_
 ·exact (pick_so _ (by simp) h2).bind fun r3 ⟨h3,_⟩=>So.ret ⟨h3,by simp;omega⟩
 ·exact So.ret ⟨h2,by simp;omega⟩
 ·exact (small_so h2).bind fun r3 h3=>So.ret ⟨h3,by simp;omega⟩
 ·exact (small_so h2).bind fun r3 h3=>So.ret ⟨h3,by simp;omega⟩
 ·exact (app_so 8 (by decide) _ _ (by simp only[List.length_cons,List.length_nil];omega)).bind fun z hz=>So.ret ⟨h2,by subst hz;simp;omega⟩
 ·exact So.ret ⟨h2,by dsimp only;omega⟩
theorem l7List_so {c:GL1Cur} (n:Int) (hn:0 < n∧n≤1000) (h:CurOk c):So (p_s_l7List c n) fun r=>CurOk r.2∧r.1.length≤6∧∀x∈r.1,0≤x∧x < n:=by
 unfold p_s_l7List
 refine (below_so 6 h).bind fun r1 ⟨h1,a1,b1,_⟩=>?_
 have b1:=b1 (by omega)
 have key:∀(m k:Nat) (c1:GL1Cur) (l:List Int),CurOk c1→k < m→l.length+k≤6→(∀x∈l,0≤x∧x < n)→So (p_s_l7List__L1 c n m c1 l (k:Int)) fun r=>CurOk r.2∧r.1.length≤6∧∀x∈r.1,0≤x∧x < n:=by
  intro m
  induction m with
  | zero=>intro k _ _ _ h;omega
  | succ m ih=>
   intro k c1 l hc hm hl hx
   have eL:p_s_l7List__L1 c n (m+1) c1 l (k:Int)=p_s_l7List__L1b c n (p_s_l7List__L1 c n m) c1 l (k:Int):=rfl
   rw[eL]
   unfold p_s_l7List__L1b
   cases k with
   | zero=>rw[if_neg (by simp)];exact So.ret ⟨hc,by omega,hx⟩
   | succ k=>
    rw[if_pos (by simp)]
    refine (below_so n hc).bind fun r2 ⟨h2,a2,b2,_⟩=>?_
    refine (app_so 8 (by decide) _ _ (by simp only[List.length_cons,List.length_nil];omega)).bind fun z hz=>?_
    rw[subW_of (by omega) (by omega),show ((k+1:Nat):Int) - 1=(k:Int) by omega]
    subst hz
    refine ih k _ _ h2 (by omega) (by simp;omega) fun x hx2=>?_
    rw[List.mem_append,List.mem_singleton] at hx2
    rcases hx2 with hx2|rfl
    ·exact hx x hx2
    ·exact⟨a2,b2 (by omega)⟩
 have:=key FU r1.1.toNat r1.2 [] h1 (by have:=FU_big;omega) (by simp;omega) (by simp)
 rwa [show ((r1.1.toNat:Nat):Int)=r1.1 by omega] at this
structure ScrP (s:GScript):Prop where
 posts:s.posts.length≤6
 reqs:∀p∈s.posts,p.req.data_.length≤9
 waits:s.waits.length≤6
 says:s.says.length≤6
 wmin:∀w∈s.waits,0≤w∧w < 5
theorem ScrP.sm {s:GScript} (h:ScrP s):s.sm:=⟨by have:=h.posts;omega,fun p hp=>by have:=h.reqs p hp;unfold GReq.sm;omega,by have:=h.waits;omega,by have:=h.says;omega,fun w hw=>by have:=h.wmin w hw;omega⟩
theorem ScrP.set {s:GScript} (h:ScrP s) (i:Nat) (p:GPost) (hp:p.req.data_.length≤9):ScrP {s with posts:=s.posts.set i p}:=
 ⟨by simpa using h.posts,fun q hq=>by
  rcases List.mem_or_eq_of_mem_set hq with hq|rfl
  ·exact h.reqs q hq
  ·exact hp,h.waits,h.says,h.wmin⟩
theorem post_so {s:GScript} (hs:ScrP s) {x0:GL1Cur} {c:GConf} (k:GL1Cur→GScript→Int→Int→Option (GScript×GL1Cur×GConf)) {R:GScript×GL1Cur×GConf→Prop} {c1:GL1Cur} (v6 v7:Int) (b:Bool) (h1:CurOk c1)
  (hk:b=true→∀c2 p v,CurOk c2→p.req.data_.length≤9→So (k c2 {s with posts:=s.posts++[p]} v (subW v7 1)) R) (hb:b=false→R (s,c1,c)):So (p_s_l7Script__J2 x0 c k c1 s v6 v7 b) R:=by
 unfold p_s_l7Script__J2
 refine So.ite (fun e=>?_) fun e=>So.ret (hb (by simpa using e))
 refine (pick_so _ (by simp) h1).bind fun r2 ⟨h2,_⟩=>?_
 refine (below_so _ h2).bind fun r3 ⟨h3,_⟩=>?_
 refine (l5Req_so h3).bind fun r4 ⟨h4,g4⟩=>?_
 have:=hs.posts
 refine (app_so 80 (by decide) _ _ (by simp only[List.length_cons,List.length_nil];omega)).bind fun z hz=>?_
 subst hz
 exact hk e _ _ _ h4 (by show r4.1.data_.length≤9;omega)
theorem l7Script_so {x0:GL1Cur} (c:GConf) (h:CurOk x0):So (p_s_l7Script x0 c) fun r=>ScrP r.1∧CurOk r.2.1∧r.2.2=c:=by
 unfold p_s_l7Script
 refine (l7List_so 5 (by omega) h).bind fun r1 ⟨h1,l1,m1⟩=>?_
 refine (l7List_so 5 (by omega) h1).bind fun r2 ⟨h2,l2,m2⟩=>?_
 refine (below_so 6 h2).bind fun r3 ⟨h3,a3,b3,_⟩=>?_
 have b3:=b3 (by omega)
 have key:∀(m k:Nat) (c1:GL1Cur) (s:GScript) (v:Int),CurOk c1→k < m→s.posts.length+k≤6→ScrP s→So (p_s_l7Script__L1 x0 c m c1 s v (k:Int)) fun r=>ScrP r.1∧CurOk r.2.1∧r.2.2=c:=by
  intro m
  induction m with
  | zero=>intro k _ _ _ _ h;omega
  | succ m ih=>
   intro k c1 s v hc hm hl hs
   have eL:p_s_l7Script__L1 x0 c (m+1) c1 s v (k:Int)=p_s_l7Script__L1b x0 c (p_s_l7Script__L1 x0 c m) c1 s v (k:Int):=rfl
   rw[eL]
   unfold p_s_l7Script__L1b
   cases k with
   | zero=>rw[if_neg (by simp)];exact post_so hs _ _ _ _ hc (fun e=>absurd e (by simp)) fun _=>⟨hs,hc,rfl⟩
   | succ k=>
    rw[if_pos (by simp)]
    refine post_so hs _ _ _ _ hc (fun e c2 p v h2 hp=>?_) fun _=>⟨hs,hc,rfl⟩
    rw[subW_of (by omega) (by omega),show ((k+1:Nat):Int) - 1=(k:Int) by omega]
    refine ih k c2 _ v h2 (by omega) (by simp;omega) ⟨by simp;omega,fun q hq=>?_,hs.waits,hs.says,hs.wmin⟩
    rw[List.mem_append,List.mem_singleton] at hq
    rcases hq with hq|rfl
    ·exact hs.reqs q hq
    ·exact hp
 have:=key FU r3.1.toNat r3.2 (GScript.mk [] r1.1 r2.1) 0 h3 (by have:=FU_big;omega) (by simp;omega) ⟨by simp,fun p hp=>absurd hp (by simp),l1,l2,m1⟩
 rwa [show ((r3.1.toNat:Nat):Int)=r3.1 by omega] at this
end Go.Proofs.YtciimjnpdmmfnaaGreat.Ev
namespace Go.Proofs.YtciimjnpdmmfnaaGreat.Ev
open Go Go.Proofs
set_option linter.unusedVariables false
set_option linter.unusedSimpArgs false
theorem scriptq_L (x0:GL1Cur) (c:GConf):∀(m:Nat) (c1:GL1Cur) (s:GScript) (v w:Int),p_s_l7Scriptq__L1 x0 c m c1 s v w=p_s_l7Script__L1 x0 c m c1 s v w:=by
 intro m
 induction m with
 | zero=>intros;rfl
 | succ m ih=>
  intro c1 s v w
  have e:p_s_l7Scriptq__L1 x0 c m=p_s_l7Script__L1 x0 c m:=by funext a b d e;exact ih a b d e
  show p_s_l7Scriptq__L1b x0 c (p_s_l7Scriptq__L1 x0 c m) c1 s v w=p_s_l7Script__L1b x0 c (p_s_l7Script__L1 x0 c m) c1 s v w
  rw[e]
  rfl
theorem scriptq_eq (x0:GL1Cur) (c:GConf):p_s_l7Scriptq x0 c=p_s_l7Script x0 c:=by
 unfold p_s_l7Scriptq p_s_l7Script
 simp only[scriptq_L]
theorem lenE_self {α:Type} (xs:List α):lenE xs xs=some ():=by
 unfold lenE
 simp
theorem any_rest {c:GConf} {s:GScript} {c1:GL1Cur} (hs:ScrP s) (h1:CurOk c1) {R:GScript×GL1Cur×GConf→Prop} (f:GScript→GL1Cur→Option (GScript×GL1Cur×GConf)) (hf:∀s2 c2,ScrP s2→CurOk c2→So (f s2 c2) R):
  So (if decide ((s.posts.length:Int)=0)=true then f s c1 else
   (p_s_l1Below c1 (s.posts.length:Int)).bind fun r404=>
   (p_s_l1Below r404.2 14).bind fun r501=>
   if decide (r501.1=0)=true then (
    (p_s_l1PickInt r501.2 [(-1),0,99,4001]).bind fun r705=>
    (idx s.posts r404.1).bind fun a706=>
    (setO s.posts r404.1 {a706 with at_:=r705.1}).bind fun y708=>
    f {s with posts:=y708} r705.2)
   else (
    if decide (r501.1=1)=true then (
     (p_s_l1Below r501.2 6).bind fun r904=>
     (idx s.posts r404.1).bind fun a906=>
     (setO s.posts r404.1 {a906 with who:=(subW r904.1 1)}).bind fun y908=>
     f {s with posts:=y908} r904.2)
    else (
     if decide (r501.1=2)=true then (
      (p_s_l5Any r501.2).bind fun r1104=>
      (idx s.posts r404.1).bind fun a1105=>
      (setO s.posts r404.1 {a1105 with req:=r1104.1}).bind fun y1107=>
      f {s with posts:=y1107} r1104.2)
     else (
      f s r501.2)))) R:=by
 refine So.ite (fun _=>hf _ _ hs h1) fun h0=>?_
 have h0:¬((s.posts.length:Int)=0):=by simpa using h0
 refine (below_so _ h1).bind fun r2 ⟨h2,a2,b2,_⟩=>?_
 have b2:=b2 (by omega)
 refine (below_so 14 h2).bind fun r3 ⟨h3,_⟩=>?_
 refine So.ite (fun _=>?_) fun _=>So.ite (fun _=>?_) fun _=>So.ite (fun _=>?_) fun _=>hf _ _ hs h3
 ·refine (pick_so _ (by simp) h3).bind fun r4 ⟨h4,_⟩=>?_
  refine (idx_so a2 b2).bind fun a ha=>?_
  refine (set_so _ _ _).bind fun y hy=>?_
  subst hy
  exact hf _ _ (hs.set _ _ (hs.reqs a ha)) h4
 ·refine (below_so 6 h3).bind fun r4 ⟨h4,_⟩=>?_
  refine (idx_so a2 b2).bind fun a ha=>?_
  refine (set_so _ _ _).bind fun y hy=>?_
  subst hy
  exact hf _ _ (hs.set _ _ (hs.reqs a ha)) h4
 ·refine (l5Any_so h3).bind fun r4 ⟨h4,g4⟩=>?_
  refine (idx_so a2 b2).bind fun a ha=>?_
  refine (set_so _ _ _).bind fun y hy=>?_
  subst hy
  exact hf _ _ (hs.set _ _ g4) h4
theorem l7Any_so {x0:GL1Cur} (c:GConf) (h:CurOk x0):So (p_s_l7Any x0 c) fun r=>ScrP r.1∧CurOk r.2.1∧r.2.2=c:=by
 unfold p_s_l7Any
 refine (l7Script_so c h).bind fun r1 ⟨g1,h1,e1⟩=>?_
 exact any_rest (c:=c) g1 h1 (fun s c2=>some (s,c2,c)) fun s2 c2 p q=>So.ret ⟨p,q,rfl⟩
theorem l7Anyq_so {x0:GL1Cur} (c:GConf) (h:CurOk x0):So (p_s_l7Anyq x0 c) fun r=>ScrP r.1∧CurOk r.2.1∧r.2.2=c:=by
 unfold p_s_l7Anyq
 have key:∀(s:GScript) (c1:GL1Cur),ScrP s→CurOk c1→So (p_s_l7Anyq__J1 x0 c c1 c.masters s) fun r=>ScrP r.1∧CurOk r.2.1∧r.2.2=c:=by
  intro s c1 hs hc
  unfold p_s_l7Anyq__J1
  rw[lenE_self]
  exact any_rest (c:=c) hs hc (fun s c2=>some (s,c2,c)) fun s2 c2 p q=>So.ret ⟨p,q,rfl⟩
 refine So.ite (fun _=>?_) fun _=>?_
 ·refine (l7Script_so _ h).bind fun r1 ⟨g1,h1,e1⟩=>?_
  exact key _ _ g1 h1
 ·rw[scriptq_eq]
  refine (l7Script_so c h).bind fun r1 ⟨g1,h1,e1⟩=>?_
  rw[e1,lenE_self,Option.bind_some]
  exact key _ _ g1 h1
theorem l7Both_so {x0:GL1Cur} (h:CurOk x0):So (p_s_l7Both x0) fun r=>r.1.masters.length≤4∧ScrP r.2.1∧CurOk r.2.2:=by
 unfold p_s_l7Both
 refine (l6Conf_so h).bind fun r1 ⟨h1,g1⟩=>?_
 have hl:=conf_len g1
 refine (once_so 16 h1).bind fun r2 h2=>?_
 have key:∀(c:GConf) (c1:GL1Cur),c.masters.length≤4→CurOk c1→So (if decide (c.masters.length=0)=true then (
   (p_s_l7Any c1 {c with masters:=[]}).bind fun r403=>
   some (c,r403.1,r403.2.1))
  else (
   (p_s_l7Anyq c1 c).bind fun r403=>
   (lenE c.masters r403.2.2.masters).bind fun q4_1024=>
   some ({c with masters:=r403.2.2.masters},r403.1,r403.2.1))) fun r=>r.1.masters.length≤4∧ScrP r.2.1∧CurOk r.2.2:=by
  intro c c1 hc h1
  refine So.ite (fun _=>?_) fun _=>?_
  ·exact (l7Any_so _ h1).bind fun r3 ⟨g3,h3,e3⟩=>So.ret ⟨hc,g3,h3⟩
  ·refine (l7Anyq_so c h1).bind fun r3 ⟨g3,h3,e3⟩=>?_
   rw[e3,lenE_self,Option.bind_some]
   exact So.ret ⟨hc,g3,h3⟩
 refine So.ite (fun _=>?_) fun _=>?_
 ·exact (l6Any_so h2).bind fun r3 ⟨h3,l3⟩=>key _ _ l3 h3
 ·exact key _ _ (by omega) h2
theorem new_so (x:List Int) (hl:x.length < 1048577):So (p_s_l1New x) CurOk:=l1New_ok x hl
theorem DrawPlay_so (x:List Int) (hl:x.length < 1048577):So (p_s_DrawPlay x) fun r=>r.1.masters.length≤4∧ScrP r.2.1∧(-1≤r.2.2∧r.2.2≤60):=by
 unfold p_s_DrawPlay
 refine (new_so x hl).bind fun c h=>?_
 refine (l7Both_so h).bind fun r ⟨h1,h2,h3⟩=>?_
 refine (below_so 62 h3).bind fun r2 ⟨h4,a,b,_⟩=>?_
 have b:=b (by omega)
 rw[subW_of (by omega) (by omega)]
 exact So.ret ⟨h1,h2,by dsimp only;omega⟩
theorem big_eq (x:List Int):p_w_big x=some (decide ((x.length:Int) > 1048576)):=rfl
end Go.Proofs.YtciimjnpdmmfnaaGreat.Ev
namespace Go.Proofs.YtciimjnpdmmfnaaGreat.Ev
open Go Go.Proofs
set_option linter.unusedVariables false
set_option linter.unusedSimpArgs false
theorem Bool.not_ok {b:Bool} (h:¬b=true):b=false:=by simpa using h
end Go.Proofs.YtciimjnpdmmfnaaGreat.Ev
namespace Go.Proofs.YtciimjnpdmmfnaaGreat.Ev
open Go Go.Proofs
set_option linter.unusedVariables false
set_option linter.unusedSimpArgs false
def rdyG (x:GBeat):Bool:=!x.live||(decide (x.left≤0)&&(decide (x.resp=0)||x.second))
def respG (x:GBeat):Int:=if x.live=true∧x.left≤0 then x.resp else 0
def endsG (x:GBeat):Bool:=x.live&&rdyG x&&decide (x.resp≠2∧x.resp≠3)
theorem finish_rdy (b:GBus) (s:GScript):(finishG b s).2.1=rdyG b.data_∧(finishG b s).2.2=respG b.data_:=by
 unfold finishG rdyG respG
 by_cases hd:b.data_.live=false
 ·rw[if_pos hd];simp[hd]
 ·have hd2:b.data_.live=true:=by simpa using hd
  rw[if_neg hd,hd2]
  by_cases hl:b.data_.left > 0
  ·rw[if_pos hl,if_neg (by omega)]
   simp;omega
  ·rw[if_neg hl,if_pos (show true=true∧b.data_.left≤0 from⟨rfl,by omega⟩)]
   have hl2:b.data_.left≤0:=by omega
   by_cases hs:b.data_.resp≠0∧b.data_.second=false
   ·rw[if_pos hs]
    simp[hs.1,hs.2]
   ·rw[if_neg hs]
    have:(decide (b.data_.resp=0)||b.data_.second)=true:=by
     by_cases h0:b.data_.resp=0
     ·simp[h0]
     ·have:¬b.data_.second=false:=fun h=>hs ⟨h0,h⟩
      simpa [h0] using this
    rw[this]
    simp only[hl2,decide_true,Bool.and_true,Bool.not_true,Bool.false_or]
    repeat' split
    all_goals exact⟨rfl,rfl⟩
theorem step_eq (b:GBus) (s:GScript):stepG b s=if rdyG b.data_=true then
  ({(readyG (finishG (openG b s) s).1 s).2 with now:=b.now+1},{waveG b with resp:=respG b.data_,got:=(readyG (finishG (openG b s) s).1 s).1})
 else ({(finishG (openG b s) s).1 with now:=b.now+1},{waveG b with ready:=false,resp:=respG b.data_}):=by
 unfold stepG
 have h:=finish_rdy (openG b s) s
 have e:=open_data b s
 rw[e.2.2.2.2.2.2.1] at h
 rw[h.1,h.2]
theorem revoke_log (b:GBus) (x:GBeat):(revokeG b x).log=b.log∧(revokeG b x).splits=b.splits∧(revokeG b x).holder=b.holder∧(revokeG b x).held=b.held∧(revokeG b x).data_=b.data_:=by
 unfold revokeG;repeat' split
 all_goals exact⟨rfl,rfl,rfl,rfl,rfl⟩
theorem finish_log (b:GBus) (s:GScript):(finishG b s).1.log=if endsG b.data_=true then b.log++[doneG {b with data_:=GBeat.z0} b.data_] else b.log:=by
 unfold finishG endsG rdyG
 by_cases hd:b.data_.live=false
 ·rw[if_pos hd];simp[hd]
 ·have hd2:b.data_.live=true:=by simpa using hd
  rw[if_neg hd,hd2]
  by_cases hl:b.data_.left > 0
  ·rw[if_pos hl]
   have:decide (b.data_.left≤0)=false:=decide_eq_false (by omega)
   simp[this]
  ·rw[if_neg hl]
   have hl2:decide (b.data_.left≤0)=true:=decide_eq_true (by omega)
   rw[hl2]
   by_cases hs:b.data_.resp≠0∧b.data_.second=false
   ·rw[if_pos hs]
    simp only[hs.1,hs.2,decide_false,Bool.or_self,Bool.and_false,Bool.not_true,Bool.or_false,Bool.false_and,if_false,Bool.false_eq_true]
    split
    ·exact (revoke_log _ _).1
    ·rfl
   ·rw[if_neg hs]
    have:(decide (b.data_.resp=0)||b.data_.second)=true:=by
     by_cases h0:b.data_.resp=0
     ·simp[h0]
     ·have:¬b.data_.second=false:=fun h=>hs ⟨h0,h⟩
      simpa [h0] using this
    rw[this]
    by_cases h2:b.data_.resp=2
    ·rw[if_pos h2,if_neg (by simp[h2])]
     exact (revoke_log _ _).1
    ·rw[if_neg h2]
     by_cases h3:b.data_.resp=3
     ·rw[if_pos h3,if_neg (by simp[h3])]
      exact (revoke_log _ _).1
     ·rw[if_neg h3,if_pos (by simp[h2,h3])]
      rfl
theorem open_I {b:GBus} (h:BusP b) (s:GScript):BusI (openG b s).now (openG b s):=by
 have:=open_ok h s
 rw[(open_data b s).1];exact this
theorem fin_I {b:GBus} (h:BusP b) (s:GScript):BusI (b.now+1) (finishG (openG b s) s).1∧(rdyG b.data_=true→(finishG (openG b s) s).1.data_=GBeat.z0):=by
 have e:=open_data b s
 have hn:=h.now
 have h1:=finish_ok s (by rw[e.1];omega) (open_I h s)
 rw[e.1] at h1
 have h2:=finish_rdy (openG b s) s
 rw[e.2.2.2.2.2.2.1] at h2
 rw[h2.1] at h1
 exact h1
theorem step_log {b:GBus} (h:BusP b) (s:GScript):(stepG b s).1.log=if endsG b.data_=true then b.log++[doneG {openG b s with data_:=GBeat.z0} b.data_] else b.log:=by
 have hf:=fin_I h s
 have e:=open_data b s
 have hl:(finishG (openG b s) s).1.log=if endsG b.data_=true then b.log++[doneG {openG b s with data_:=GBeat.z0} b.data_] else b.log:=by
  rw[finish_log,e.2.2.2.2.2.2.1]
  split
  ·exact congrArg (·++[doneG {openG b s with data_:=GBeat.z0} b.data_]) e.2.2.2.1
  ·exact e.2.2.2.1
 rw[step_eq,←hl]
 by_cases hr:rdyG b.data_=true
 ·rw[if_pos hr]
  exact (ready_ok hf.1 s (hf.2 hr)).2.2.2.2.2.1
 ·rw[if_neg hr]
theorem post_ext (m:GMst) (r:GReq):∃l,postG m r={m with queue:=m.queue++l}:=by
 unfold postG
 split
 ·exact⟨[r],rfl⟩
 ·exact⟨[],by simp⟩
theorem postAll_ext {n:Int} {b:GBus} (h:BusI n b) (ps:List GPost) {i:Int} (hi:masterG b.conf i=true):∃l,atI (postAll b ps).m i={atI b.m i with queue:=(atI b.m i).queue++l}:=by
 induction ps generalizing b with
 | nil=>exact⟨[],by show atI b.m i=_;simp⟩
 | cons p ps ih=>
  have hc:=(postOne_conf b p).1
  obtain⟨l,e⟩:=ih (postOne_ok h (p:=p)) (by rw[hc];exact hi)
  have e:atI (postAll b (p::ps)).m i={atI (postOne b p).m i with queue:=(atI (postOne b p).m i).queue++l}:=e
  rw[e]
  unfold postOne
  split
  ·rename_i hw
   show ∃l2,{atI (b.m.set p.who.toNat (postG (atI b.m p.who) p.req)) i with queue:=(atI (b.m.set p.who.toNat (postG (atI b.m p.who) p.req)) i).queue++l}=_
   rw[h.at_m hw _ hi]
   split
   ·rename_i e2
    subst e2
    obtain⟨l2,e3⟩:=post_ext (atI b.m p.who) p.req
    rw[e3]
    exact⟨l2++l,by simp⟩
   ·exact⟨l,rfl⟩
  ·exact⟨l,rfl⟩
theorem open_ext {b:GBus} (h:BusP b) (s:GScript) {i:Int} (hi:masterG b.conf i=true):∃l,atI (openG b s).m i={atI b.m i with queue:=(atI b.m i).queue++l}:=by
 have h1:=held_data (tickAll (postAll b (postsG s b.now)))
 unfold openG
 rw[h1.2.2.2.2.2.1]
 exact postAll_ext h.i _ hi
theorem at_head {α:Type} [Inhabited α] {xs ys:List α} (h:xs≠[]):atI (xs++ys) 0=atI xs 0:=by
 cases xs with
 | nil=>exact absurd rfl h
 | cons x xs=>rfl
theorem ext_same {m:GMst} (l:List GReq) (h:m.queue≠[]) (k:Int):mbeatsG {m with queue:=m.queue++l}=mbeatsG m∧maddrG {m with queue:=m.queue++l} k=maddrG m k∧atI (m.queue++l) 0=atI m.queue 0:=by
 have e:=at_head (ys:=l) h
 have e1:mbeatsG {m with queue:=m.queue++l}=mbeatsG m:=by
  unfold mbeatsG
  dsimp only
  rw[e,if_neg h,if_neg (by simp[h])]
 refine⟨e1,?_,e⟩
 unfold maddrG
 rw[e1]
 dsimp only
 rw[e]
theorem data_ne {n:Int} {b:GBus} (h:BusI n b) (hd:b.data_.live=true):(atI b.m b.data_.who).queue≠[]:=by
 have hw:=live_whoD h hd
 have hf:=h.fly _ hw
 have hr:=(h.mst _ hw).right
 intro hq
 have:=hr.none hq
 rw[this.1,this.2.1] at hf
 unfold flyG at hf
 rw[if_pos (show b.data_.live=true∧b.data_.who=b.data_.who from⟨hd,rfl⟩)] at hf
 split at hf<;>omega
theorem step_wave (b:GBus) (s:GScript):(stepG b s).2={waveG b with ready:=rdyG b.data_,resp:=respG b.data_,got:=if rdyG b.data_=true then (readyG (finishG (openG b s) s).1 s).1 else -1}:=by
 rw[step_eq]
 by_cases hr:rdyG b.data_=true
 ·rw[if_pos hr,if_pos hr,hr]
  rfl
 ·rw[if_neg hr,if_neg hr,Bool.not_ok hr]
  rfl
theorem run_wave (b:GBus) (s:GScript) {i:Nat}:∀{n:Nat},i < n→(runN b s n).2[i]?=some (stepG (runN b s i).1 s).2:=by
 have hlen:∀n,(runN b s n).2.length=n:=by
  intro n
  induction n with
  | zero=>rfl
  | succ n ih=>show ((runN b s n).2++_).length=_;rw[List.length_append,ih];rfl
 intro n
 induction n with
 | zero=>intro h;omega
 | succ n ih=>
  intro h
  show ((runN b s n).2++[(stepG (runN b s n).1 s).2])[i]?=_
  by_cases hi:i < n
  ·rw[List.getElem?_append_left (by rw[hlen];exact hi)]
   exact ih hi
  ·have:i=n:=by omega
   subst this
   rw[List.getElem?_append_right (by rw[hlen];exact Nat.le_refl _),hlen]
   simp
end Go.Proofs.YtciimjnpdmmfnaaGreat.Ev
namespace Go.Proofs.YtciimjnpdmmfnaaGreat.Ev
open Go Go.Proofs
set_option linter.unusedVariables false
set_option linter.unusedSimpArgs false
def lastG (s:GScript):Int:=s.posts.foldl (fun m p=>maxI m p.at_) (-1)
theorem i_LastPost_eq (s:GScript) (hl:s.posts.length < 1048577):p_i_LastPost s=some (lastG s):=by
 unfold p_i_LastPost
 rw[loop_all (ρ:=Int) s.posts (by omega) (fun (p:GPost) m=>some (.inl (maxI m p.at_))) (fun m=>some m) (p_i_LastPost__L1 s) (fun m v i=>rfl) (-1)]
 exact runL_fold _ _ (fun m (p:GPost)=>maxI m p.at_) (fun _ _=>True) (fun a l s _=>⟨rfl,trivial⟩) _ _ trivial
def goesG (s:GScript) (b:GBus):Prop:=b.now < 4000∧(quietG b=false∨b.now≤lastG s)
instance (s:GScript) (b:GBus):Decidable (goesG s b):=by unfold goesG;infer_instance
def outN (s:GScript):Nat→GBus→GBus
 | 0,b=>b
 | f+1,b=>if goesG s b then outN s f (stepG b s).1 else b
def outG (b:GBus) (s:GScript):GBus×Int:=if okB b=true then (outN s (4000 - b.now).toNat b,(outN s (4000 - b.now).toNat b).now - b.now) else (b,0)
theorem outN_ok (s:GScript):∀(f:Nat) {b:GBus},BusP b→f=(4000 - b.now).toNat→BusP (outN s f b)∧¬goesG s (outN s f b)∧b.now≤(outN s f b).now∧(outN s f b).conf=b.conf:=by
 intro f
 induction f with
 | zero=>
  intro b h hf
  have hn:=h.now
  exact⟨h,fun hx=>by have:=hx.1;simp only[outN] at this;omega,Int.le_refl _,rfl⟩
 | succ f ih=>
  intro b h hf
  have hn:=h.now
  unfold outN
  split
  ·rename_i hg
   have hs:=step_ok h s hg.1
   have:=ih hs.1 (by rw[hs.2.1];omega)
   rw[hs.2.1,hs.2.2] at this
   exact⟨this.1,this.2.1,by omega,this.2.2.2⟩
  ·rename_i hg
   exact⟨h,hg,Int.le_refl _,rfl⟩
theorem i_RunOut_eq {b:GBus} {s:GScript} (hb:b.sm) (hs:s.sm):p_i_RunOut b s=some (outG b s):=by
 unfold p_i_RunOut outG
 rw[i_ownBus_eq b hb,Option.bind_some,i_okB hb,Option.bind_some]
 by_cases h:okB b=true
 ·have hP:=(okB_iff hb).1 h
  have hN:=hP.now
  rw[h,if_neg (by simp),if_pos rfl,i_LastPost_eq s hs.posts,Option.bind_some]
  have hJ:∀c:GBus,BusP c→b.now≤c.now→p_i_RunOut__J2 b s c=some (c,c.now - b.now):=by
   intro c hc hn
   have:=hc.now
   unfold p_i_RunOut__J2
   rw[i_ownBus_eq _ hc.sm,Option.bind_some,subW_of (by omega) (by omega)]
  have key:∀(f m:Nat) (c:GBus),BusP c→b.now≤c.now→f=(4000 - c.now).toNat→f < m→p_i_RunOut__L1 b s m c (lastG s)=some (outN s f c,(outN s f c).now - b.now):=by
   intro f
   induction f with
   | zero=>
    intro m c hc hn hf hm
    obtain⟨m,rfl⟩:∃k,m=k+1:=⟨m - 1,by omega⟩
    have:=hc.now
    show p_i_RunOut__L1b b s (p_i_RunOut__L1 b s m) c (lastG s)=_
    unfold p_i_RunOut__L1b
    rw[if_neg (by simp;omega),hJ c hc hn]
    rfl
   | succ f ih=>
    intro m c hc hn hf hm
    obtain⟨m,rfl⟩:∃k,m=k+1:=⟨m - 1,by omega⟩
    have hcn:=hc.now
    have hst:=step_ok hc s (by omega)
    have hgo:p_i_RunOut__L1 b s m (stepG c s).1 (lastG s)=some (outN s f (stepG c s).1,(outN s f (stepG c s).1).now - b.now):=ih m _ hst.1 (by rw[hst.2.1];omega) (by rw[hst.2.1];omega) (by omega)
    show p_i_RunOut__L1b b s (p_i_RunOut__L1 b s m) c (lastG s)=_
    unfold p_i_RunOut__L1b outN
    have hlt:c.now < 4000:=by omega
    rw[if_pos (by simpa using hlt),i_isIdle_eq hc.sm.ml,Option.bind_some]
    by_cases hq:quietG c=true
    ·rw[if_neg (by simp[hq])]
     by_cases hl:c.now≤lastG s
     ·rw[if_pos (by simpa using hl),i_step_eq hc hs hlt,Option.bind_some,if_pos (show goesG s c from⟨hlt,.inr hl⟩)]
      exact hgo
     ·rw[if_neg (by simpa using hl),if_neg (show ¬goesG s c from fun hx=>hx.2.elim (fun h1=>by rw[hq] at h1;exact absurd h1 (by decide)) hl),hJ c hc hn]
    ·rw[if_pos (by simpa using hq),i_step_eq hc hs hlt,Option.bind_some,if_pos (show goesG s c from⟨hlt,.inl (by simpa using hq)⟩)]
     exact hgo
  exact key _ FU b hP (Int.le_refl _) rfl (by have:=FU_big;omega)
 ·simp[h]
end Go.Proofs.YtciimjnpdmmfnaaGreat.Ev
namespace Go.Proofs.YtciimjnpdmmfnaaGreat.Ev
open Go Go.Proofs
set_option linter.unusedVariables false
set_option linter.unusedSimpArgs false
theorem all_go {n:Nat} (hn:n < 4611686018427387904) (q:Nat→Bool) {fin:Option Bool} {B:(Int→Option Bool)→Int→Option Bool} {L:Nat→Int→Option Bool} (hL:∀m i,L (m+1) i=B (L m) i)
  (hs:∀k,k < n→∀κ,B κ (k:Int)=if q k=true then κ (addW (k:Int) 1) else some false) (hf:∀κ,B κ (n:Int)=fin):L FU 0=if (List.range n).all q=true then fin else some false:=by
 have key:∀(m k:Nat),k≤n→n - k < m→L m (k:Int)=if (List.range' k (n - k)).all q=true then fin else some false:=by
  intro m
  induction m with
  | zero=>intro k _ h;omega
  | succ m ih=>
   intro k hk hm
   rw[hL]
   by_cases hc:k < n
   ·rw[hs k hc,addW_nat (by omega),ih (k+1) (by omega) (by omega),show n - k=(n - (k+1))+1 by omega,List.range'_succ,List.all_cons]
    cases q k<;>rfl
   ·have:k=n:=by omega
    subst this
    rw[hf,Nat.sub_self]
    simp
 have:=key FU 0 (Nat.zero_le _) (by have:=FU_big;omega)
 rw[List.range_eq_range']
 simpa using this
instance:Inhabited GPost:=⟨⟨0,0,⟨false,0,0,0,false,[]⟩⟩⟩
def postG1 (c:GConf) (s:GScript) (k:Nat):Bool:=decide (0≤(atI s.posts (k:Int)).at_∧(atI s.posts (k:Int)).at_≤4000)&&(masterG c (atI s.posts (k:Int)).who&&(reqG (atI s.posts (k:Int)).req&&(decide (k=0)||decide ((atI s.posts ((k - 1:Nat):Int)).at_≤(atI s.posts (k:Int)).at_))))
def scriptG (c:GConf) (s:GScript):Bool:=(List.range s.posts.length).all (postG1 c s)&&(confG c&&(decide (s.posts.length≤20)&&(decide (s.waits.length≤20)&&decide (s.says.length≤20))))
theorem s_ScriptOk_eq (c:GConf) (s:GScript) (hl:c.masters.length < 1048577) (hs:s.sm):p_s_ScriptOk c s=some (scriptG c s):=by
 unfold p_s_ScriptOk scriptG
 have hp:=hs.posts
 rw[all_go (n:=s.posts.length) (by omega) (postG1 c s) (B:=p_s_ScriptOk__L1b c s) (L:=p_s_ScriptOk__L1 c s) (fin:=some (confG c&&(decide (s.posts.length≤20)&&(decide (s.waits.length≤20)&&decide (s.says.length≤20))))) (fun m i=>rfl) (fun k hk κ=>?_) fun κ=>?_]
 ·cases (List.range s.posts.length).all (postG1 c s)<;>simp
 ·unfold p_s_ScriptOk__L1b postG1
  rw[if_pos (by simpa using hk),idx_get hk,Option.bind_some,l1In_eq,Option.bind_some,l1In_eq,last_eq _ hl,Option.bind_some,s_ReqOk_eq _ (hs.reqs _ (List.getElem_mem hk)),Option.bind_some,at_nat hk]
  by_cases h1:0≤s.posts[k].at_∧s.posts[k].at_≤4000
  ·by_cases h2:masterG c s.posts[k].who=true
   ·by_cases h3:reqG s.posts[k].req=true
    ·by_cases h4:k=0
     ·subst h4;simp[h1,h2,h3]
     ·have hk1:k - 1 < s.posts.length:=by omega
      rw[subW_of (by omega) (by omega),show (k:Int) - 1=((k - 1:Nat):Int) by omega,idx_get hk1,Option.bind_some,at_nat hk1]
      have h5:(k:Int) > 0:=by omega
      by_cases h6:s.posts[k].at_ < s.posts[k - 1].at_
      ·have:¬s.posts[k - 1].at_≤s.posts[k].at_:=by omega
       simp[h1,h2,h3,h4,h6,this]
       try omega
      ·have:s.posts[k - 1].at_≤s.posts[k].at_:=by omega
       simp[h1,h2,h3,h4,h6,this]
    ·simp[h1,h2,h3]
   ·simp[h1,h2]
  ·simp[h1]
 ·unfold p_s_ScriptOk__L1b
  rw[if_neg (by simp),s_ConfOk_eq c hl,Option.bind_some]
  have e:∀n:Nat,decide ((n:Int)≤20)=decide (n≤20):=fun n=>by congr 1;exact propext ⟨fun h=>by omega,fun h=>by omega⟩
  rw[e,e,e]
  cases confG c<;>by_cases h1:s.posts.length≤20<;>by_cases h2:s.waits.length≤20<;>simp[h1,h2]
theorem i_ScriptOk_eq (c:GConf) (s:GScript) (hl:c.masters.length < 1048577) (hs:s.sm):p_i_ScriptOk c s=some (scriptG c s):=by
 unfold p_i_ScriptOk scriptG p_i_ScriptOk__J2
 have hp:=hs.posts
 have e:∀n:Nat,decide ((n:Int) > 20)=!decide (n≤20):=fun n=>by
  by_cases h:n≤20
  ·simp[h];omega
  ·simp[h];omega
 rw[i_ConfOk_eq c hl,Option.bind_some,all_go (n:=s.posts.length) (by omega) (postG1 c s) (B:=p_i_ScriptOk__L1b c s) (L:=p_i_ScriptOk__L1 c s) (fin:=some true) (fun m i=>rfl) (fun k hk κ=>?_) fun κ=>?_,e,e,e]
 ·cases confG c<;>cases (List.range s.posts.length).all (postG1 c s)<;>by_cases h1:s.posts.length≤20<;>by_cases h2:s.waits.length≤20<;>by_cases h3:s.says.length≤20<;>simp[h1,h2,h3]
 ·unfold p_i_ScriptOk__L1b postG1
  rw[if_pos (by simpa using hk),idx_get hk,Option.bind_some,within_eq,Option.bind_some,i_isMaster_eq c _ hl,Option.bind_some,i_ReqOk_eq _ (hs.reqs _ (List.getElem_mem hk)),Option.bind_some,at_nat hk]
  by_cases h1:0≤s.posts[k].at_∧s.posts[k].at_≤4000
  ·by_cases h4:k=0
   ·subst h4
    by_cases h2:masterG c s.posts[0].who=true
    ·by_cases h3:reqG s.posts[0].req=true
     ·simp[h1,h2,h3]
     ·simp[h1,h2,h3]
    ·simp[h1,h2]
   ·have hk1:k - 1 < s.posts.length:=by omega
    rw[subW_of (by omega) (by omega),show (k:Int) - 1=((k - 1:Nat):Int) by omega,idx_get hk1,Option.bind_some,at_nat hk1]
    by_cases h6:s.posts[k].at_ < s.posts[k - 1].at_
    ·have:¬s.posts[k - 1].at_≤s.posts[k].at_:=by omega
     have h5:0 < k:=by omega
     simp[h1,h4,h6,this,h5]
    ·have:s.posts[k - 1].at_≤s.posts[k].at_:=by omega
     have h5:0 < k:=by omega
     by_cases h2:masterG c s.posts[k].who=true
     ·by_cases h3:reqG s.posts[k].req=true
      ·simp[h1,h2,h3,h4,h6,this,h5]
      ·simp[h1,h2,h3,h4,h6,this,h5]
     ·simp[h1,h2,h4,h6,this,h5]
  ·simp[h1]
 ·unfold p_i_ScriptOk__L1b
  rw[if_neg (by simp)]
def playG (c:GConf) (s:GScript) (n:Int):GBus×Bool:=if scriptG c s=true∧0≤n∧n≤4000 then ((runG (newG c) s n).1,true) else (GBus.z0,false)
theorem script_conf {c:GConf} {s:GScript} (h:scriptG c s=true):confG c=true:=by
 simp only[scriptG,Bool.and_eq_true] at h
 exact h.2.1
theorem i_Play_eq (c:GConf) (s:GScript) (n:Int) (hl:c.masters.length < 1048577) (hs:s.sm):p_i_Play c s n=some (playG c s n):=by
 unfold p_i_Play playG p_i_Play__J1
 rw[i_BusNew_eq c hl,Option.bind_some,i_ScriptOk_eq c s hl hs,Option.bind_some,within_eq,Option.bind_some]
 unfold newbG
 by_cases h0:scriptG c s=true
 ·have hc:=script_conf h0
  rw[if_pos hc,h0]
  by_cases h1:0≤n∧n≤4000
  ·rw[i_BusRun_eq n (new_ok hc).sm hs]
   simp[h1]
  ·rw[if_neg (fun hx:true=true∧0≤n∧n≤4000=>h1 hx.2)]
   simp[h1]
 ·have h0:scriptG c s=false:=Bool.not_ok h0
  rw[h0]
  split<;>simp
theorem play_run {c:GConf} {s:GScript} {n:Nat} (h:scriptG c s=true) (hn:n≤4000):playG c s n=((runN (newG c) s n).1,true):=by
 have hc:=script_conf h
 unfold playG
 rw[if_pos ⟨h,by omega,by omega⟩]
 have:runG (newG c) s n=runN (newG c) s n:=by
  unfold runG
  rw[if_pos ⟨(new_ok hc).ok,by omega,by show (n:Int)≤4000 - 0;omega⟩,Int.toNat_natCast]
 rw[this]
end Go.Proofs.YtciimjnpdmmfnaaGreat.Ev
namespace Go.Proofs.YtciimjnpdmmfnaaGreat.Ev
open Go Go.Proofs
set_option linter.unusedVariables false
set_option linter.unusedSimpArgs false
def againL:List GDone→GModel→Option GModel
 | [],m=>some m
 | d::r,m=>if d.resp=1 then againL r m else if (modeldoG m d.write d.addr d.size d.value).2.2=d.resp∧(modeldoG m d.write d.addr d.size d.value).2.1=d.value then againL r (modeldoG m d.write d.addr d.size d.value).1 else none
theorem againL_app:∀(l r:List GDone) (m:GModel),againL (l++r) m=(againL l m).bind (againL r):=by
 intro l
 induction l with
 | nil=>intro r m;rfl
 | cons d l ih=>
  intro r m
  simp only[List.cons_append,againL]
  split
  ·exact ih r m
  ·split
   ·exact ih r _
   ·rfl
theorem i_Replay_of {l:List GDone} {m2:GModel} (hl:l.length < 1048577) (ha:∀d∈l,alignedG d.addr d.size=true) (e:againL l (GModel.mk (List.replicate 192 0) (GDev.mk (List.replicate 4 0) 0 []))=some m2):p_i_Replay l=some (m2,-1):=by
 unfold p_i_Replay
 rw[i_ModelNew_eq,Option.bind_some]
 have key:∀(k f:Nat) (m:GModel),k≤l.length→l.length - k < f→ModelP m→againL (l.drop k) m=some m2→p_i_Replay__L1 l f m (k:Int)=some (m2,-1):=by
  intro k f
  induction f generalizing k with
  | zero=>intro _ _ h;omega
  | succ f ih=>
   intro m hk hf hm he
   show p_i_Replay__L1b l (p_i_Replay__L1 l f) m k=_
   unfold p_i_Replay__L1b
   by_cases hc:k < l.length
   ·rw[List.drop_eq_getElem_cons hc] at he
    simp only[againL] at he
    rw[if_pos (by simpa using hc),idx_get hc,Option.bind_some,addW_nat (by omega)]
    by_cases h1:l[k].resp=1
    ·rw[if_pos h1] at he
     rw[if_pos (by simpa using h1)]
     exact ih (k+1) m (by omega) (by omega) hm he
    ·rw[if_neg h1] at he
     rw[if_neg (by simpa using h1),i_ModelDo_eq _ _ _ _ hm,Option.bind_some]
     split at he
     ·rename_i h2
      rw[if_neg (by simpa using h2.1),if_neg (by simpa using h2.2)]
      exact ih (k+1) _ (by omega) (by omega) (modeldo_ok hm (ha _ (List.getElem_mem hc))).1 he
     ·cases he
   ·rw[List.drop_of_length_le (by omega)] at he
    injection he with he
    rw[if_neg (by simpa using hc),he]
 exact key 0 FU _ (Nat.zero_le _) (by have:=FU_big;omega) new_model (by simpa using e)
theorem s_Replay_of {l:List GDone} {m2:GModel} (hl:l.length < 1048577) (ha:∀d∈l,alignedG d.addr d.size=true) (e:againL l (GModel.mk (List.replicate 192 0) (GDev.mk (List.replicate 4 0) 0 []))=some m2):p_s_Replay l=some (m2,-1):=by
 unfold p_s_Replay
 rw[s_ModelNew_eq,Option.bind_some]
 have key:∀(k f:Nat) (m:GModel),k≤l.length→l.length - k < f→ModelP m→againL (l.drop k) m=some m2→p_s_Replay__L1 l f m (k:Int)=some (m2,-1):=by
  intro k f
  induction f generalizing k with
  | zero=>intro _ _ h;omega
  | succ f ih=>
   intro m hk hf hm he
   show p_s_Replay__L1b l (p_s_Replay__L1 l f) m k=_
   unfold p_s_Replay__L1b p_s_Replay__J2
   by_cases hc:k < l.length
   ·rw[List.drop_eq_getElem_cons hc] at he
    simp only[againL] at he
    rw[if_pos (by simpa using hc),idx_get hc,Option.bind_some,addW_nat (by omega)]
    by_cases h1:l[k].resp=1
    ·rw[if_pos h1] at he
     rw[if_pos (by simpa using h1)]
     exact ih (k+1) m (by omega) (by omega) hm he
    ·rw[if_neg h1] at he
     rw[if_neg (by simpa using h1),s_ModelDo_eq _ _ _ _ hm,Option.bind_some]
     split at he
     ·rename_i h2
      rw[if_neg (by simpa using h2.1),if_neg (by simpa using h2.2)]
      exact ih (k+1) _ (by omega) (by omega) (modeldo_ok hm (ha _ (List.getElem_mem hc))).1 he
     ·cases he
   ·rw[List.drop_of_length_le (by omega)] at he
    injection he with he
    rw[if_neg (by simpa using hc),he]
 exact key 0 FU _ (Nat.zero_le _) (by have:=FU_big;omega) new_model (by simpa using e)
theorem dev_again {d:GDev} {w:Bool} {a v:Int} (h:(devdoG d w a v).2.2=true):(w=true→(devdoG d w a v).2.1=v)∧(w=false→∀u,devdoG d w a u=devdoG d w a v):=by
 constructor
 ·intro hw
  subst hw
  unfold devdoG at h ⊢
  simp only[Bool.true_and,if_true] at h ⊢
  repeat' split
  all_goals first|rfl|(simp_all;done)
 ·intro hw u
  subst hw
  unfold devdoG
  simp only[Bool.false_and,Bool.false_eq_true,if_false]
theorem modeldo_value {m:GModel} {a s v:Int} (h:(modeldoG m true a s v).2.2=0):(modeldoG m true a s v).2.1=v:=by
 unfold modeldoG at h ⊢
 split
 ·rename_i h1
  rw[if_pos h1] at h
  split
  ·rfl
  ·rename_i h2
   rw[if_neg h2] at h
   split
   ·rename_i h3
    rw[if_pos h3] at h
    split
    ·rename_i h4
     exact (dev_again h4).1 rfl
    ·rename_i h4
     rw[if_neg h4] at h
     exact absurd (show (1:Int)=0 from h) (by decide)
   ·rename_i h3
    rw[if_neg h3] at h
    exact absurd (show (1:Int)=0 from h) (by decide)
 ·rename_i h1
  rw[if_neg h1] at h
  exact absurd (show (1:Int)=0 from h) (by decide)
theorem modeldo_again {m:GModel} {w:Bool} {a s v:Int} (h:(modeldoG m w a s v).2.2=0):modeldoG m w a s (modeldoG m w a s v).2.1=modeldoG m w a s v:=by
 cases w with
 | false=>
  generalize (modeldoG m false a s v).2.1=u
  unfold modeldoG at h ⊢
  simp only[Bool.false_and,Bool.not_false,Bool.and_true,Bool.false_eq_true,if_false] at h ⊢
  have e:devdoG m.dev false (a - 192) u=devdoG m.dev false (a - 192) v:=by
   unfold devdoG
   simp only[Bool.false_and,Bool.false_eq_true,if_false]
  rw[e]
 | true=>rw[modeldo_value h]
def model0:GModel:=GModel.mk (List.replicate 192 0) (GDev.mk (List.replicate 4 0) 0 [])
theorem maddr_q {m m':GMst} (h:m'.queue=m.queue) {k:Int}:maddrG m' k=maddrG m k:=by
 unfold maddrG mbeatsG;rw[h]
structure Rep (b:GBus):Prop where
 again:againL b.log model0=some b.model
 data:b.data_.live=true→b.data_.resp=0→(doG b b.data_).2.2=0
theorem doG_head {b c:GBus} {x:GBeat} (hm:c.model=b.model) (hh:atI (atI c.m x.who).queue 0=atI (atI b.m x.who).queue 0) (ha:maddrG (atI c.m x.who) x.beat=maddrG (atI b.m x.who) x.beat):doG c x=doG b x:=by
 unfold doG numberG
 rw[hm,hh,ha]
theorem Rep.same {b c:GBus} (h:Rep b) (hm:c.model=b.model) (hl:c.log=b.log) (hq:b.data_.live=true→(atI c.m b.data_.who).queue=(atI b.m b.data_.who).queue)
  (hd:c.data_.live=true→b.data_.live=true∧c.data_.who=b.data_.who∧c.data_.beat=b.data_.beat∧c.data_.resp=b.data_.resp):Rep c:=by
 refine⟨by rw[hl,hm];exact h.again,fun hx hr=>?_⟩
 obtain⟨h1,h2,h3,h4⟩:=hd hx
 have e:doG c c.data_=doG b b.data_:=by
  unfold doG numberG
  rw[h2,h3,hm,hq h1,maddr_q (hq h1)]
 rw[e]
 exact h.data h1 (by rw[←h4];exact hr)
theorem rep_postOne {n:Int} {b:GBus} {p:GPost} (hI:BusI n b) (h:Rep b):Rep (postOne b p):=by
 unfold postOne
 split
 ·rename_i hw
  refine⟨h.again,fun hx hr=>?_⟩
  have hx:b.data_.live=true:=hx
  have hdw:=live_whoD hI hx
  have hne:=data_ne hI hx
  have e2:∃l,atI (b.m.set p.who.toNat (postG (atI b.m p.who) p.req)) b.data_.who={atI b.m b.data_.who with queue:=(atI b.m b.data_.who).queue++l}:=by
   rw[hI.at_m hw _ hdw]
   split
   ·rename_i e
    obtain⟨l,el⟩:=post_ext (atI b.m p.who) p.req
    exact⟨l,by rw[el,e]⟩
   ·exact⟨[],by simp⟩
  obtain⟨l,el⟩:=e2
  have e:doG {b with m:=b.m.set p.who.toNat (postG (atI b.m p.who) p.req)} b.data_=doG b b.data_:=by
   refine doG_head rfl ?_ ?_
   ·show atI (atI (b.m.set p.who.toNat (postG (atI b.m p.who) p.req)) b.data_.who).queue 0=_
    rw[el]
    exact at_head hne
   ·show maddrG (atI (b.m.set p.who.toNat (postG (atI b.m p.who) p.req)) b.data_.who) _=_
    rw[el,(ext_same l hne _).2.1]
  show (doG {b with m:=b.m.set p.who.toNat (postG (atI b.m p.who) p.req)} b.data_).2.2=0
  rw[e]
  exact h.data hx hr
 ·exact h
theorem rep_postAll {n:Int} {b:GBus} (ps:List GPost) (hI:BusI n b) (h:Rep b):Rep (postAll b ps):=by
 induction ps generalizing b with
 | nil=>exact h
 | cons p ps ih=>exact ih (postOne_ok hI) (rep_postOne hI h)
theorem rep_open {b:GBus} (hP:BusP b) (h:Rep b) (s:GScript):Rep (openG b s):=by
 have h1:=rep_postAll (postsG s b.now) hP.i h
 have e:=held_data (tickAll (postAll b (postsG s b.now)))
 have e2:=tick_data (postAll b (postsG s b.now))
 refine h1.same (c:=openG b s) ?_ ?_ (fun hx=>?_) (fun hx=>?_)
 ·unfold openG;rw[e.2.2.2.2.1,e2.2.2.2.2.1]
 ·unfold openG;rw[e.2.2.2.1,e2.2.2.2.1]
 ·unfold openG;rw[e.2.2.2.2.2.1,e2.2.2.2.2.2.1]
 ·unfold openG at hx ⊢
  rw[e.2.2.2.2.2.2.2.1,e2.2.2.2.2.2.2.2.1] at hx ⊢
  exact⟨hx,rfl,rfl,rfl⟩
theorem revoke_q {n:Int} {b c:GBus} {x:GBeat} (hI:BusI n b) (hw:masterG b.conf x.who=true) (hc:c.m.length=b.m.length) (hq:∀i,masterG b.conf i=true→(atI c.m i).queue=(atI b.m i).queue):∀i,masterG b.conf i=true→(atI (revokeG c x).m i).queue=(atI b.m i).queue:=by
 intro i hi
 have e:(revokeG c x).m=c.m.set x.who.toNat (backG (atI c.m x.who)):=by
  unfold revokeG;repeat' split
  all_goals rfl
 have hb:=mas_bnd hw
 have hbi:=mas_bnd hi
 have hml:=hI.ml
 rw[e,at_set _ hb.1 (by omega) hbi.1]
 split
 ·rename_i e2
  rw[(back_same _).1,hq _ hw,e2]
 ·exact hq i hi
theorem rep_finish {b:GBus} {n:Int} (s:GScript) (hI:BusI n b) (h:Rep b):Rep (finishG b s).1:=by
 unfold finishG
 by_cases hd:b.data_.live=false
 ·rw[if_pos hd];exact h
 ·have hd2:b.data_.live=true:=by simpa using hd
  have hw:=live_whoD hI hd2
  rw[if_neg hd]
  by_cases hl:b.data_.left > 0
  ·rw[if_pos hl]
   exact h.same rfl rfl (fun _=>rfl) (fun _=>⟨hd2,rfl,rfl,rfl⟩)
  ·rw[if_neg hl]
   by_cases h2:b.data_.resp≠0∧b.data_.second=false
   ·rw[if_pos h2]
    by_cases ha:b.addr.live=true
    ·have haw:=live_who hI ha
     have hr:=revoke_log {b with data_:={b.data_ with second:=true}} b.addr
     have hn:=revoke_now {b with data_:={b.data_ with second:=true}} b.addr
     rw[if_pos ha]
     refine h.same hn.2.2.2.2 hr.1 (fun _=>revoke_q (c:={b with data_:={b.data_ with second:=true}}) hI haw rfl (fun i _=>rfl) _ hw) (fun _=>?_)
     show b.data_.live=true∧(revokeG {b with data_:={b.data_ with second:=true}} b.addr).data_.who=_∧(revokeG {b with data_:={b.data_ with second:=true}} b.addr).data_.beat=_∧(revokeG {b with data_:={b.data_ with second:=true}} b.addr).data_.resp=_
     rw[hr.2.2.2.2]
     exact⟨hd2,rfl,rfl,rfl⟩
    ·rw[if_neg ha]
     exact h.same rfl rfl (fun _=>rfl) (fun _=>⟨hd2,rfl,rfl,rfl⟩)
   ·rw[if_neg h2]
    have key:∀c:GBus,c.model=b.model→c.log=b.log→c.data_=GBeat.z0→Rep (revokeG c b.data_):=by
     intro c hm hlog hdat
     have hr:=revoke_log c b.data_
     have hn:=revoke_now c b.data_
     refine⟨by rw[hr.1,hlog,hn.2.2.2.2,hm];exact h.again,fun hx=>?_⟩
     rw[hr.2.2.2.2,hdat] at hx
     exact absurd hx (by decide)
    by_cases h3:b.data_.resp=2
    ·rw[if_pos h3];exact key _ rfl rfl rfl
    ·rw[if_neg h3]
     by_cases h4:b.data_.resp=3
     ·rw[if_pos h4];exact key _ rfl rfl rfl
     ·rw[if_neg h4]
      refine⟨?_,fun hx=>absurd hx (by show ¬GBeat.z0.live=true;decide)⟩
      show againL (b.log++[doneG {b with data_:=GBeat.z0} b.data_]) model0=some (if b.data_.resp=0 then (doG {b with data_:=GBeat.z0} b.data_).1 else b.model)
      rw[againL_app,h.again,Option.bind_some]
      have hD:=hI.data
      unfold dataP at hD
      rw[if_pos hd2] at hD
      by_cases h0:b.data_.resp=0
      ·have hdo:=h.data hd2 h0
       have eq:doG {b with data_:=GBeat.z0} b.data_=doG b b.data_:=rfl
       rw[if_pos h0,eq]
       have ha:=modeldo_again hdo
       show againL [GDone.mk b.now b.data_.who (atI (atI b.m b.data_.who).queue 0).write (maddrG (atI b.m b.data_.who) b.data_.beat) (atI (atI b.m b.data_.who).queue 0).size (if b.data_.resp=0 then (doG b b.data_).2.1 else 0) b.data_.resp] b.model=_
       rw[if_pos h0]
       simp only[againL]
       rw[if_neg (by rw[h0];decide)]
       have ha2:modeldoG b.model (atI (atI b.m b.data_.who).queue 0).write (maddrG (atI b.m b.data_.who) b.data_.beat) (atI (atI b.m b.data_.who).queue 0).size (doG b b.data_).2.1=doG b b.data_:=ha
       rw[ha2,if_pos ⟨by rw[hdo,h0],rfl⟩]
      ·have h1:b.data_.resp=1:=by omega
       rw[if_neg h0]
       simp only[againL]
       rw[if_pos (show (doneG {b with data_:=GBeat.z0} b.data_).resp=1 from h1)]
theorem rep_begin {b:GBus} (s:GScript) (h:Rep b):Rep (beginG b s):=by
 unfold beginG
 split
 ·refine⟨h.again,fun _ hr=>?_⟩
  have hr:(answerG b s b.addr).1=0:=hr
  show (doG b b.addr).2.2=0
  unfold answerG at hr
  split at hr
  ·exact absurd (show (1:Int)=0 from hr) (by decide)
  ·dsimp only at hr
   split at hr
   ·exact absurd hr (by decide)
   ·split at hr
    ·exact absurd hr (by decide)
    ·exact hr
 ·exact h
theorem rep_break {b:GBus} {n:Int} (hI:BusI n b) (h:Rep b):Rep (breakG b):=by
 have e:=break_data b
 refine h.same e.2.2.2.2.2.2 e.2.2.2.2.2.1 (fun hx=>?_) (fun hx=>by rw[e.1] at hx ⊢;exact⟨hx,rfl,rfl,rfl⟩)
 have hdw:=live_whoD hI hx
 unfold breakG
 split
 ·rename_i hb
  have hw:=(held_who hI hb.1).1
  show (atI (b.m.set b.holder.toNat {atI b.m b.holder with broken:=true}) b.data_.who).queue=_
  rw[hI.at_m hw _ hdw]
  split
  ·rename_i e2;rw[e2]
  ·rfl
 ·rfl
theorem rep_grant {n:Int} {b:GBus} (hI:BusI n b) (h:Rep b):Rep (grantG b).2:=by
 have hp:=picked_ok hI
 have h1:Rep (pickG b).2.2:=h.same hp.model hp.log (fun _=>by rw[hp.m]) (fun hx=>by rw[hp.data] at hx ⊢;exact⟨hx,rfl,rfl,rfl⟩)
 unfold grantG
 split
 ·exact h1
 ·rename_i hx
  rcases hp.who with h2|h2
  ·exact absurd (show (pickG b).1 < 0 by rw[h2];decide) hx
  ·have hw:masterG (pickG b).2.2.conf (pickG b).1=true:=by rw[hp.conf];exact h2.1
   refine h1.same (c:=giveG (pickG b).2.2 (pickG b).1 (pickG b).2.1) rfl rfl (fun hd=>?_) (fun hd=>⟨hd,rfl,rfl,rfl⟩)
   have hdw:=live_whoD hp.ok hd
   show (atI ((pickG b).2.2.m.set (pickG b).1.toNat (issueG (atI (pickG b).2.2.m (pickG b).1))) (pickG b).2.2.data_.who).queue=_
   rw[hp.ok.at_m hw _ hdw]
   split
   ·rename_i e
    rw[(issue_same (atI (pickG b).2.2.m (pickG b).1)).1,e]
   ·rfl
theorem rep_step {b:GBus} (hP:BusP b) (h:Rep b) (s:GScript):Rep (stepG b s).1:=by
 have h1:=rep_open hP h s
 have h2:=rep_finish s (open_I hP s) h1
 have hf:=fin_I hP s
 rw[step_eq]
 by_cases hr:rdyG b.data_=true
 ·rw[if_pos hr]
  have hd:=hf.2 hr
  have h3:=rep_break hf.1 h2
  have h4:=rep_begin s h3
  have e:=break_data (finishG (openG b s) s).1
  have hI3:=(begin_ok (break_ok hf.1) s (by rw[e.1];exact hd)).1
  have h5:=rep_grant hI3 h4
  exact⟨h5.again,h5.data⟩
 ·rw[if_neg hr]
  exact⟨h2.again,h2.data⟩
theorem rep_new (c:GConf):Rep (newG c):=⟨rfl,fun hx=>absurd hx (by simp[newG,GBus.z0,GBeat.z0])⟩
theorem right_eq {b:GBus} (hP:BusP b) (h:Rep b):p_w_right b=some true:=by
 have ha:∀d∈b.log,alignedG d.addr d.size=true:=fun d hd=>(hP.log.1 d hd).2.2.1
 have hl:=hP.sm.log
 have hm:=hP.model.sm
 unfold p_w_right
 rw[i_Replay_of hl ha h.again,Option.bind_some,s_Replay_of hl ha h.again,Option.bind_some,if_pos (by rfl),if_pos (by rfl),SameModel_self _ hm,Option.bind_some,if_pos rfl,Option.bind_some]
end Go.Proofs.YtciimjnpdmmfnaaGreat.Ev
namespace Go.Proofs.YtciimjnpdmmfnaaGreat.Ev
open Go Go.Proofs
set_option linter.unusedVariables false
set_option linter.unusedSimpArgs false
theorem phase_wait {b:GBus} (h:BusP b) (s:GScript) (hr:rdyG b.data_=false):b.data_.live=true∧(stepG b s).1.data_.live=true∧(stepG b s).1.data_.who=b.data_.who∧(stepG b s).1.data_.beat=b.data_.beat∧(stepG b s).1.data_.resp=b.data_.resp∧
  ((b.data_.left > 0∧(stepG b s).1.addr=b.addr∧(stepG b s).1.data_.left=b.data_.left - 1∧(stepG b s).1.data_.second=b.data_.second)∨
   (b.data_.left≤0∧b.data_.resp≠0∧b.data_.second=false∧(stepG b s).1.addr.live=false∧(stepG b s).1.data_.left=b.data_.left∧(stepG b s).1.data_.second=true)):=by
 have hlive:b.data_.live=true:=by
  unfold rdyG at hr
  simp only[Bool.or_eq_false_iff] at hr
  simpa using hr.1
 have e:=open_data b s
 have ed:=e.2.2.2.2.2.2.1
 have ea:=e.2.2.2.2.2.1
 rw[step_eq,if_neg (by simp[hr])]
 refine⟨hlive,?_⟩
 show (finishG (openG b s) s).1.data_.live=true∧(finishG (openG b s) s).1.data_.who=_∧(finishG (openG b s) s).1.data_.beat=_∧(finishG (openG b s) s).1.data_.resp=_∧
  ((b.data_.left > 0∧(finishG (openG b s) s).1.addr=b.addr∧(finishG (openG b s) s).1.data_.left=_∧(finishG (openG b s) s).1.data_.second=_)∨
   (b.data_.left≤0∧b.data_.resp≠0∧b.data_.second=false∧(finishG (openG b s) s).1.addr.live=false∧(finishG (openG b s) s).1.data_.left=_∧(finishG (openG b s) s).1.data_.second=true))
 unfold finishG
 rw[if_neg (by rw[ed,hlive];simp)]
 by_cases hl:b.data_.left > 0
 ·rw[if_pos (by rw[ed];exact hl)]
  dsimp only
  rw[ed,ea]
  exact⟨hlive,rfl,rfl,rfl,.inl ⟨hl,rfl,rfl,rfl⟩⟩
 ·have hs:b.data_.resp≠0∧b.data_.second=false:=by
   unfold rdyG at hr
   rw[decide_eq_true (show b.data_.left≤0 by omega)] at hr
   simp only[Bool.or_eq_false_iff,Bool.true_and,decide_eq_false_iff_not] at hr
   exact hr.2
  rw[if_neg (by rw[ed];exact hl),if_pos (by rw[ed];exact hs)]
  by_cases ha:b.addr.live=true
  ·rw[if_pos (by rw[ea];exact ha)]
   have hrv:=revoke_log {openG b s with data_:={(openG b s).data_ with second:=true}} (openG b s).addr
   dsimp only
   rw[hrv.2.2.2.2]
   dsimp only
   rw[ed]
   exact⟨hlive,rfl,rfl,rfl,.inr ⟨by omega,hs.1,hs.2,rfl,rfl,rfl⟩⟩
  ·rw[if_neg (by rw[ea];exact ha)]
   dsimp only
   rw[ed,ea]
   exact⟨hlive,rfl,rfl,rfl,.inr ⟨by omega,hs.1,hs.2,by simpa using ha,rfl,rfl⟩⟩
def qd (m:GMst):List GReq×Int:=(m.queue,m.done)
def nextQ (m:GMst):List GReq×Int:=if m.done+1=mbeatsG m then (m.queue.tail,0) else (m.queue,m.done+1)
theorem revoke_ms (c:GBus) (x:GBeat):(revokeG c x).m=c.m.set x.who.toNat (backG (atI c.m x.who)):=by
 unfold revokeG;repeat' split
 all_goals rfl
theorem back_qd (m:GMst):qd (backG m)=qd m:=by
 unfold qd;rw[(back_same m).1,(back_same m).2.1]
theorem set_qd {n:Int} {b:GBus} (h:BusI n b) {w:Int} (hw:masterG b.conf w=true) (x:GMst) (e:qd x=qd (atI b.m w)) {i:Int} (hi:masterG b.conf i=true):qd (atI (b.m.set w.toNat x) i)=qd (atI b.m i):=by
 rw[h.at_m hw _ hi]
 split
 ·rename_i e2;rw[e2,e]
 ·rfl
theorem revoke_qd {n:Int} {c:GBus} (h:BusI n c) {w:Int} (hw:masterG c.conf w=true) (X:GMst) (eX:qd X=qd (atI c.m w)) (d:GBus) (hd:d.m=c.m.set w.toNat X) (x:GBeat) (hx:x.who=w) {i:Int} (hi:masterG c.conf i=true):qd (atI (revokeG d x).m i)=qd (atI c.m i):=by
 rw[revoke_ms,hd,hx,h.at_m hw X hw,if_pos rfl,List.set_set]
 exact set_qd h hw _ (by rw[back_qd,eX]) hi
theorem end_qd {m:GMst} (h:m.beat - m.done≥1):qd (endG m)=nextQ m:=by
 unfold endG nextQ
 rw[if_neg (by omega)]
 split<;>rfl
theorem fin_qd {n:Int} {c:GBus} (s:GScript) (h:BusI n c) {i:Int} (hi:masterG c.conf i=true):qd (atI (finishG c s).1.m i)=if endsG c.data_=true∧c.data_.who=i then nextQ (atI c.m i) else qd (atI c.m i):=by
 unfold finishG
 by_cases hd:c.data_.live=false
 ·have hE:¬(endsG c.data_=true∧c.data_.who=i):=by simp[endsG,hd]
  rw[if_pos hd,if_neg hE]
 ·have hd2:c.data_.live=true:=by simpa using hd
  have hw:=live_whoD h hd2
  have hp:=fly_posD h hd2
  rw[if_neg hd]
  by_cases hl:c.data_.left > 0
  ·have hE:¬(endsG c.data_=true∧c.data_.who=i):=by simp[endsG,rdyG,hd2,show ¬c.data_.left≤0 by omega]
   rw[if_pos hl,if_neg hE]
  ·rw[if_neg hl]
   by_cases h2:c.data_.resp≠0∧c.data_.second=false
   ·have hE:¬(endsG c.data_=true∧c.data_.who=i):=by simp[endsG,rdyG,hd2,h2.1,h2.2]
    rw[if_pos h2,if_neg hE]
    by_cases ha:c.addr.live=true
    ·rw[if_pos ha]
     show qd (atI (revokeG {c with data_:={c.data_ with second:=true}} c.addr).m i)=_
     rw[revoke_ms]
     exact set_qd h (live_who h ha) _ (back_qd _) hi
    ·rw[if_neg ha]
   ·rw[if_neg h2]
    by_cases h3:c.data_.resp=2
    ·have hE:¬(endsG c.data_=true∧c.data_.who=i):=by simp[endsG,h3]
     rw[if_pos h3,if_neg hE]
     exact revoke_qd h hw {atI c.m c.data_.who with tries:=(atI c.m c.data_.who).tries+1} rfl _ rfl _ rfl hi
    ·rw[if_neg h3]
     by_cases h4:c.data_.resp=3
     ·have hE:¬(endsG c.data_=true∧c.data_.who=i):=by simp[endsG,h4]
      rw[if_pos h4,if_neg hE]
      exact revoke_qd h hw {atI c.m c.data_.who with parted:=true} rfl _ rfl _ rfl hi
     ·have he:endsG c.data_=true:=by
       have:c.data_.resp=0∨c.data_.second=true:=by
        by_cases h5:c.data_.resp=0
        ·exact .inl h5
        ·exact .inr (by simpa using fun h6=>h2 ⟨h5,h6⟩)
       simp only[endsG,rdyG,hd2,decide_eq_true (show c.data_.left≤0 by omega),decide_eq_true (show c.data_.resp≠2∧c.data_.resp≠3 from⟨h3,h4⟩)]
       rcases this with h5|h5<;>simp[h5]
      rw[if_neg h4]
      show qd (atI (c.m.set c.data_.who.toNat (endG (atI c.m c.data_.who))) i)=_
      rw[h.at_m hw _ hi]
      by_cases e:i=c.data_.who
      ·rw[if_pos e,if_pos ⟨he,e.symm⟩,end_qd hp,e]
      ·rw[if_neg e,if_neg (fun hx=>e hx.2.symm)]
theorem break_qd {n:Int} {b:GBus} (h:BusI n b) {i:Int} (hi:masterG b.conf i=true):qd (atI (breakG b).m i)=qd (atI b.m i):=by
 unfold breakG
 split
 ·rename_i hb
  exact set_qd h (held_who h hb.1).1 {atI b.m b.holder with broken:=true} rfl hi
 ·rfl
theorem begin_m (b:GBus) (s:GScript):(beginG b s).m=b.m:=by
 unfold beginG;split<;>rfl
theorem grant_qd {n:Int} {b:GBus} (h:BusI n b) {i:Int} (hi:masterG b.conf i=true):qd (atI (grantG b).2.m i)=qd (atI b.m i):=by
 have hp:=picked_ok h
 unfold grantG
 split
 ·show qd (atI (pickG b).2.2.m i)=_
  rw[hp.m]
 ·rename_i hx
  rcases hp.who with h2|h2
  ·exact absurd (show (pickG b).1 < 0 by rw[h2];decide) hx
  ·show qd (atI ((pickG b).2.2.m.set (pickG b).1.toNat (issueG (atI (pickG b).2.2.m (pickG b).1))) i)=_
   rw[hp.m]
   refine set_qd h h2.1 _ ?_ hi
   unfold qd;rw[(issue_same _).1,(issue_same _).2.1]
theorem ready_qd {n:Int} {b:GBus} (h:BusI n b) (s:GScript) (hd:b.data_=GBeat.z0) {i:Int} (hi:masterG b.conf i=true):qd (atI (readyG b s).2.m i)=qd (atI b.m i):=by
 have h2:=(ready_begin h s hd).2
 have e1:=break_data b
 have e2:=begin_data (breakG b) s
 unfold readyG
 rw[grant_qd h2 (by rw[e2.2.1,e1.2.2.2.2.1];exact hi),begin_m,break_qd h hi]
theorem step_qd {b:GBus} (hP:BusP b) (s:GScript) {i:Int} (hi:masterG b.conf i=true):qd (atI (stepG b s).1.m i)=if endsG b.data_=true∧b.data_.who=i then nextQ (atI (openG b s).m i) else qd (atI (openG b s).m i):=by
 have e:=open_data b s
 have hf:=fin_I hP s
 have hfn:=finish_now (openG b s) s
 have h1:=fin_qd s (open_I hP s) (i:=i) (by rw[e.2.1];exact hi)
 rw[e.2.2.2.2.2.2.1] at h1
 rw[←h1,step_eq]
 by_cases hr:rdyG b.data_=true
 ·rw[if_pos hr]
  exact ready_qd hf.1 s (hf.2 hr) (by rw[hfn.2.2,e.2.1];exact hi)
 ·rw[if_neg hr]
theorem step_maddr {b:GBus} (hP:BusP b) (s:GScript) {i:Int} (hi:masterG b.conf i=true) (hq:(atI b.m i).queue≠[]) (hn:¬(endsG b.data_=true∧b.data_.who=i∧(atI b.m i).done+1=mbeatsG (atI b.m i))) (k:Int):maddrG (atI (stepG b s).1.m i) k=maddrG (atI b.m i) k:=by
 obtain⟨l,el⟩:=open_ext hP s hi
 have h1:=step_qd hP s hi
 have hx:=ext_same l hq k
 have hq2:(atI (stepG b s).1.m i).queue=(atI b.m i).queue++l:=by
  have h2:(qd (atI (stepG b s).1.m i)).1=(atI b.m i).queue++l:=by
   rw[h1]
   split
   ·rename_i he
    unfold nextQ
    rw[if_neg]
    ·rw[el]
    ·rw[el]
     show ¬(atI b.m i).done+1=mbeatsG {atI b.m i with queue:=(atI b.m i).queue++l}
     rw[hx.1]
     exact fun h3=>hn ⟨he.1,he.2,h3⟩
   ·rw[el];rfl
  exact h2
 rw[maddr_q (m:={atI b.m i with queue:=(atI b.m i).queue++l}) hq2]
 exact hx.2.1
end Go.Proofs.YtciimjnpdmmfnaaGreat.Ev
namespace Go.Proofs.YtciimjnpdmmfnaaGreat.Ev
open Go Go.Proofs
set_option linter.unusedVariables false
set_option linter.unusedSimpArgs false
theorem revoke_addr (c:GBus) (x:GBeat):(revokeG c x).addr=c.addr:=by
 unfold revokeG;repeat' split
 all_goals rfl
theorem rdy_parts {x:GBeat} (hr:rdyG x=true) (hd:x.live=true):¬x.left > 0∧¬(x.resp≠0∧x.second=false):=by
 unfold rdyG at hr
 simp only[hd,Bool.not_true,Bool.false_or,Bool.and_eq_true,decide_eq_true_eq,Bool.or_eq_true] at hr
 refine⟨by omega,fun h=>?_⟩
 rcases hr.2 with h1|h1
 ·exact h.1 h1
 ·rw[h.2] at h1;cases h1
theorem fin_addr {b:GBus} (s:GScript) (hr:rdyG b.data_=true):(finishG b s).1.addr=b.addr:=by
 unfold finishG
 by_cases hd:b.data_.live=false
 ·rw[if_pos hd]
 ·have hp:=rdy_parts hr (by simpa using hd)
  rw[if_neg hd,if_neg hp.1,if_neg hp.2]
  by_cases h3:b.data_.resp=2
  ·rw[if_pos h3];exact revoke_addr _ _
  ·rw[if_neg h3]
   by_cases h4:b.data_.resp=3
   ·rw[if_pos h4];exact revoke_addr _ _
   ·rw[if_neg h4];rfl
theorem grant_addr {n:Int} {b:GBus} (h:BusI n b) (ha:b.addr.live=false):(grantG b).1=if (grantG b).2.addr.live=true then (grantG b).2.addr.who else -1:=by
 have hp:=picked_ok h
 unfold grantG
 split
 ·show (-1:Int)=if (pickG b).2.2.addr.live=true then _ else -1
  rw[hp.addr,if_neg (by simp[ha])]
 ·rfl
theorem phase_ready {b:GBus} (hP:BusP b) (s:GScript) (hr:rdyG b.data_=true):
  (b.addr.live=true→(stepG b s).1.data_.live=true∧(stepG b s).1.data_.who=b.addr.who∧(stepG b s).1.data_.beat=b.addr.beat∧(stepG b s).1.data_.second=false)∧
  (b.addr.live=false→(stepG b s).1.data_.live=false)∧(stepG b s).2.got=(if (stepG b s).1.addr.live=true then (stepG b s).1.addr.who else -1):=by
 have e:=open_data b s
 have hf:=fin_I hP s
 have hd:=hf.2 hr
 have hfa:(finishG (openG b s) s).1.addr=b.addr:=by rw[fin_addr s (by rw[e.2.2.2.2.2.2.1];exact hr),e.2.2.2.2.2.1]
 have e1:=break_data (finishG (openG b s) s).1
 have hb:=ready_begin hf.1 s hd
 have hz:=(begin_ok hb.1 s (by rw[e1.1];exact hd)).2
 have hg:=grant_data hb.2
 have hga:=grant_addr hb.2 (by rw[hz])
 have hA:=hP.addr
 unfold addrP at hA
 rw[step_eq,if_pos hr]
 have ed:(readyG (finishG (openG b s) s).1 s).2.data_=(beginG (breakG (finishG (openG b s) s).1) s).data_:=hg.2.2.2.2.2
 show (_→(readyG (finishG (openG b s) s).1 s).2.data_.live=_∧(readyG (finishG (openG b s) s).1 s).2.data_.who=_∧(readyG (finishG (openG b s) s).1 s).2.data_.beat=_∧(readyG (finishG (openG b s) s).1 s).2.data_.second=_)∧(_→(readyG (finishG (openG b s) s).1 s).2.data_.live=_)∧(readyG (finishG (openG b s) s).1 s).1=_
 rw[ed]
 have ea:(breakG (finishG (openG b s) s).1).addr=b.addr:=by rw[e1.2.1,hfa]
 refine⟨fun hl=>?_,fun hl=>?_,hga⟩
 ·rw[if_pos hl] at hA
  unfold beginG
  rw[if_pos (by rw[ea];exact hl)]
  dsimp only
  rw[ea]
  exact⟨hl,rfl,rfl,hA.2.2.2⟩
 ·unfold beginG
  rw[if_neg (by rw[ea,hl];simp),e1.1,hd]
theorem page_of {x:Int} (h0:0≤x) (h1:x < 512):p_i_page x=some (x / 64):=by
 unfold p_i_page
 rw[if_neg (by simpa using h0),page_eq h0 h1]
theorem pair_of (w w':GWave) (h1:w'.cycle=w.cycle+1∧0≤w.cycle∧w.cycle≤4000)
  (h2:w.ready=false→w.data_≠-1∧w'.data_=w.data_∧w'.from_=w.from_)
  (h3:w.ready=false→w.resp=0→w'.addr=w.addr∧w'.who=w.who∧w'.kind=w.kind)
  (h4:w.ready=false→w.resp≠0→w'.ready=true∧w'.resp=w.resp∧w'.kind=0)
  (h5:w'.ready=true→w'.resp≠0→w.ready=false∧w.resp=w'.resp)
  (h7:w.ready=true→w'.data_=w.addr∧w'.from_=w.who∧w'.who=w.got)
  (h8:w'.kind=3→w'.data_≠-1→w'.from_=w'.who→(0≤w'.data_∧w'.data_ < 512)∧(0≤w'.addr∧w'.addr < 512)∧w'.data_ / 64=w'.addr / 64):p_i_PairBreach w w'=some 0:=by
 have hJ6:p_i_PairBreach__J6 w w' false=some 0:=by
  unfold p_i_PairBreach__J6
  rw[if_neg (by simp)]
  by_cases a1:w'.kind=3
  ·by_cases a2:w'.data_≠-1
   ·by_cases a3:w'.from_=w'.who
    ·obtain⟨b1,b2,b3⟩:=h8 a1 a2 a3
     rw[page_of b1.1 b1.2,page_of b2.1 b2.2,b3]
     simp[a1,a2,a3]
    ·simp[a1,a2,a3]
   ·simp[a1,a2]
  ·simp[a1]
 have hJ5:p_i_PairBreach__J5 w w' false=some 0:=by
  unfold p_i_PairBreach__J5
  rw[if_neg (by simp)]
  by_cases hr:w.ready=true
  ·have:=h7 hr
   rw[if_pos hr,this.1,this.2.1,this.2.2]
   simpa using hJ6
  ·rw[if_neg hr];exact hJ6
 have hb:p_i_PairBreach_1 w=some (!w.ready&&decide (w.resp≠0)):=by
  unfold p_i_PairBreach_1
  cases w.ready<;>simp
 have hJ4:p_i_PairBreach__J4 w w' false=some 0:=by
  unfold p_i_PairBreach__J4
  rw[if_neg (by simp),hb,Option.bind_some]
  by_cases hr:w.ready=true
  ·simpa [hr] using hJ5
  ·have hr:w.ready=false:=by simpa using hr
   by_cases h0:w.resp=0
   ·simpa [hr,h0] using hJ5
   ·have:=h4 hr h0
    simpa [hr,h0,this.2.2] using hJ5
 have hJ3:p_i_PairBreach__J3 w w' false=some 0:=by
  unfold p_i_PairBreach__J3
  rw[if_neg (by simp)]
  by_cases hr:w'.ready=true
  ·by_cases h0:w'.resp=0
   ·simpa [hr,h0] using hJ4
   ·have:=h5 hr h0
    simpa [hr,h0,this.1,this.2] using hJ4
  ·simpa [hr] using hJ4
 have hJ2:p_i_PairBreach__J2 w w' false=some 0:=by
  unfold p_i_PairBreach__J2
  rw[if_neg (by simp),hb,Option.bind_some]
  by_cases hr:w.ready=true
  ·simpa [hr] using hJ3
  ·have hr:w.ready=false:=by simpa using hr
   by_cases h0:w.resp=0
   ·simpa [hr,h0] using hJ3
   ·have:=h4 hr h0
    simpa [hr,h0,this.1,this.2.1] using hJ3
 have hJ1:p_i_PairBreach__J1 w w' false=some 0:=by
  unfold p_i_PairBreach__J1
  rw[if_neg (by simp)]
  by_cases hr:w.ready=true
  ·simpa [hr] using hJ2
  ·have hr:w.ready=false:=by simpa using hr
   by_cases h0:w.resp=0
   ·have:=h3 hr h0
    simpa [hr,h0,this.1,this.2.1,this.2.2] using hJ2
   ·simpa [hr,h0] using hJ2
 unfold p_i_PairBreach
 rw[addW_of (by omega) (by omega),if_neg (by simp[h1.1])]
 by_cases hr:w.ready=true
 ·simpa [hr] using hJ1
 ·have hr:w.ready=false:=by simpa using hr
  have:=h2 hr
  simpa [hr,this.1,this.2.1,this.2.2] using hJ1
theorem first_ok (l:List GWave) (hl:l.length < 1048577) (h:∀k a c,l[k]?=some a→l[k+1]?=some c→p_i_PairBreach a c=some 0):p_i_FirstBreach l=some (-1,0):=by
 unfold p_i_FirstBreach
 have key:∀(m k:Nat),l.length - (k+1) < m→k≤l.length→p_i_FirstBreach__L1 l m ((k+1:Nat):Int)=some (-1,0):=by
  intro m
  induction m with
  | zero=>intro k h;omega
  | succ m ih=>
   intro k hm hk
   show p_i_FirstBreach__L1b l (p_i_FirstBreach__L1 l m) _=_
   unfold p_i_FirstBreach__L1b
   by_cases hc:k+1 < l.length
   ·rw[if_pos (by simp;omega),subW_of (by omega) (by omega),show ((k+1:Nat):Int) - 1=(k:Int) by omega,idx_get (by omega:k < l.length),Option.bind_some,idx_get hc,Option.bind_some,h k _ _ (List.getElem?_eq_getElem (by omega)) (List.getElem?_eq_getElem hc),Option.bind_some,if_neg (by simp),addW_nat (by omega)]
    exact ih (k+1) (by omega) (by omega)
   ·rw[if_neg (by simp;omega)]
 exact key FU 0 (by have:=FU_big;omega) (by omega)
theorem addr_ne {n:Int} {b:GBus} (h:BusI n b) (hl:b.addr.live=true):(atI b.m b.addr.who).queue≠[]:=by
 have hb:=addr_beat h hl
 exact beat_ne hb.1 hb.2
theorem addr_stays {b:GBus} (h:BusP b) (s:GScript) (hl:b.addr.live=true) (k:Int):maddrG (atI (stepG b s).1.m b.addr.who) k=maddrG (atI b.m b.addr.who) k:=by
 have hw:=live_who h.i hl
 refine step_maddr h s hw (addr_ne h.i hl) (fun hx=>?_) k
 have hd:b.data_.live=true:=by
  have:=hx.1
  simp only[endsG,Bool.and_eq_true] at this
  exact this.1.1
 have hA:=h.addr
 unfold addrP at hA
 rw[if_pos hl] at hA
 have hb:=addr_beat h.i hl
 have hf:=h.fly _ hw
 unfold flyG at hf
 rw[if_pos ⟨hl,rfl⟩,if_pos ⟨hd,hx.2.1⟩] at hf
 omega
theorem data_stays {b:GBus} (h:BusP b) (s:GScript) (hr:rdyG b.data_=false) (hl:b.data_.live=true) (k:Int):maddrG (atI (stepG b s).1.m b.data_.who) k=maddrG (atI b.m b.data_.who) k:=
 step_maddr h s (live_whoD h.i hl) (data_ne h.i hl) (fun hx=>by
  have:=hx.1
  simp only[endsG,Bool.and_eq_true] at this
  rw[hr] at this
  exact absurd this.1.2 (by simp)) k
theorem addr_range {b:GBus} (h:BusP b) (hl:b.addr.live=true):0≤maddrG (atI b.m b.addr.who) b.addr.beat∧maddrG (atI b.m b.addr.who) b.addr.beat < 512:=by
 have hb:=addr_beat h.i hl
 have:=maddr_ok (h.mst _ (live_who h.i hl)).right hb.1 hb.2
 exact this.2.2
theorem data_range {b:GBus} (h:BusP b) (hl:b.data_.live=true):0≤maddrG (atI b.m b.data_.who) b.data_.beat∧maddrG (atI b.m b.data_.who) b.data_.beat < 512:=by
 have hb:=data_beat h.i hl
 have:=maddr_ok (h.mst _ (live_whoD h.i hl)).right hb.1 hb.2
 exact this.2.2
theorem page_ok {b:GBus} (h:BusP b):(if b.addr.live=true then (if b.addr.first then (2:Int) else 3) else 0)=3→(if b.data_.live=true then maddrG (atI b.m b.data_.who) b.data_.beat else -1)≠-1→(if b.data_.live=true then b.data_.who else -1)=(if b.addr.live=true then b.addr.who else -1)→
  (0≤(if b.data_.live=true then maddrG (atI b.m b.data_.who) b.data_.beat else -1)∧(if b.data_.live=true then maddrG (atI b.m b.data_.who) b.data_.beat else -1) < 512)∧(0≤(if b.addr.live=true then maddrG (atI b.m b.addr.who) b.addr.beat else -1)∧(if b.addr.live=true then maddrG (atI b.m b.addr.who) b.addr.beat else -1) < 512)∧
  (if b.data_.live=true then maddrG (atI b.m b.data_.who) b.data_.beat else -1) / 64=(if b.addr.live=true then maddrG (atI b.m b.addr.who) b.addr.beat else -1) / 64:=by
 intro h1 h2 h3
 have hl:b.addr.live=true:=by
  by_cases hl:b.addr.live=true
  ·exact hl
  ·rw[if_neg hl] at h1;omega
 have hd:b.data_.live=true:=by
  by_cases hd:b.data_.live=true
  ·exact hd
  ·rw[if_neg hd] at h2;exact absurd rfl h2
 rw[if_pos hd,if_pos hl] at h3
 simp only[if_pos hd,if_pos hl]
 refine⟨data_range h hd,addr_range h hl,?_⟩
 have hb:=addr_beat h.i hl
 have hb2:=data_beat h.i hd
 rw[h3] at hb2 ⊢
 have hR:=(h.mst _ (live_who h.i hl)).right
 have hq:=addr_ne h.i hl
 have hf:=right_first hR hq
 have hp:=(req_parts hf.1).1
 have hlen:=burst_len hp
 have hall:∀x∈addrsG (atI (atI b.m b.addr.who).queue 0).addr (atI (atI b.m b.addr.who).queue 0).size (atI (atI b.m b.addr.who).queue 0).burst,x / 64=atI (addrsG (atI (atI b.m b.addr.who).queue 0).addr (atI (atI b.m b.addr.who).queue 0).size (atI (atI b.m b.addr.who).queue 0).burst) 0 / 64:=by
  unfold burstG at hp
  rw[Bool.and_eq_true,List.all_eq_true] at hp
  intro x hx
  simpa using hp.1 x hx
 unfold maddrG
 rw[if_pos (by omega),if_pos (by omega),hall (atI _ b.data_.beat) (at_mem (by omega) (by omega)),hall (atI _ b.addr.beat) (at_mem (by omega) (by omega))]
theorem pair_ok {b:GBus} (h:BusP b) (s:GScript) (hn:b.now < 4000):p_i_PairBreach (stepG b s).2 (stepG (stepG b s).1 s).2=some 0:=by
 have hs:=step_ok h s hn
 have hD:=hs.1.data
 unfold dataP at hD
 have hA:=h.addr
 unfold addrP at hA
 have hnow:=h.now
 rw[step_wave b s,step_wave (stepG b s).1 s]
 by_cases hr:rdyG b.data_=true
 ·obtain⟨p1,p2,p3⟩:=phase_ready h s hr
  rw[step_wave b s] at p3
  have hs2:(stepG b s).1.data_.second=false:=by
   by_cases hl:b.addr.live=true
   ·exact (p1 hl).2.2.2
   ·have hd:=p2 (by simpa using hl)
    rw[if_neg (by rw[hd];simp)] at hD
    rw[hD]
  apply pair_of
  ·exact⟨hs.2.1,hnow.1,hnow.2⟩
  ·intro hx;rw[hr] at hx;cases hx
  ·intro hx;rw[hr] at hx;cases hx
  ·intro hx;rw[hr] at hx;cases hx
  ·intro hx hy
   have hx:rdyG (stepG b s).1.data_=true:=hx
   have hy:respG (stepG b s).1.data_≠0:=hy
   exfalso
   unfold respG at hy
   by_cases hl:(stepG b s).1.data_.live=true∧(stepG b s).1.data_.left≤0
   ·rw[if_pos hl] at hy
    exact (rdy_parts hx hl.1).2 ⟨hy,hs2⟩
   ·rw[if_neg hl] at hy;exact hy rfl
  ·intro _
   refine⟨?_,?_,?_⟩
   ·show (if (stepG b s).1.data_.live=true then maddrG (atI (stepG b s).1.m (stepG b s).1.data_.who) (stepG b s).1.data_.beat else -1)=if b.addr.live=true then maddrG (atI b.m b.addr.who) b.addr.beat else -1
    by_cases hl:b.addr.live=true
    ·have:=p1 hl
     rw[if_pos this.1,if_pos hl,this.2.1,this.2.2.1,addr_stays h s hl]
    ·rw[if_neg hl,if_neg (by rw[p2 (by simpa using hl)];simp)]
   ·show (if (stepG b s).1.data_.live=true then (stepG b s).1.data_.who else -1)=if b.addr.live=true then b.addr.who else -1
    by_cases hl:b.addr.live=true
    ·have:=p1 hl
     rw[if_pos this.1,if_pos hl,this.2.1]
    ·rw[if_neg hl,if_neg (by rw[p2 (by simpa using hl)];simp)]
   ·exact p3.symm
  ·exact page_ok hs.1
 ·have hr:rdyG b.data_=false:=by simpa using hr
  obtain⟨q1,q2,q3,q4,q5,q6⟩:=phase_wait h s hr
  have hdd:=h.data
  unfold dataP at hdd
  rw[if_pos q1] at hdd
  rw[if_pos q2] at hD
  apply pair_of
  ·exact⟨hs.2.1,hnow.1,hnow.2⟩
  ·intro _
   refine⟨?_,?_,?_⟩
   ·show (if b.data_.live=true then maddrG (atI b.m b.data_.who) b.data_.beat else -1)≠-1
    rw[if_pos q1]
    have:=data_range h q1
    omega
   ·show (if (stepG b s).1.data_.live=true then maddrG (atI (stepG b s).1.m (stepG b s).1.data_.who) (stepG b s).1.data_.beat else -1)=if b.data_.live=true then maddrG (atI b.m b.data_.who) b.data_.beat else -1
    rw[if_pos q1,if_pos q2,q3,q4,data_stays h s hr q1]
   ·show (if (stepG b s).1.data_.live=true then (stepG b s).1.data_.who else -1)=if b.data_.live=true then b.data_.who else -1
    rw[if_pos q1,if_pos q2,q3]
  ·intro _ hx
   have hx:respG b.data_=0:=hx
   rcases q6 with q6|q6
   ·refine⟨?_,?_,?_⟩
    ·show (if (stepG b s).1.addr.live=true then maddrG (atI (stepG b s).1.m (stepG b s).1.addr.who) (stepG b s).1.addr.beat else -1)=if b.addr.live=true then maddrG (atI b.m b.addr.who) b.addr.beat else -1
     rw[q6.2.1]
     by_cases hl:b.addr.live=true
     ·rw[if_pos hl,if_pos hl,addr_stays h s hl]
     ·rw[if_neg hl,if_neg hl]
    ·show (if (stepG b s).1.addr.live=true then (stepG b s).1.addr.who else -1)=if b.addr.live=true then b.addr.who else -1
     rw[q6.2.1]
    ·show (if (stepG b s).1.addr.live=true then (if (stepG b s).1.addr.first then (2:Int) else 3) else 0)=if b.addr.live=true then (if b.addr.first then (2:Int) else 3) else 0
     rw[q6.2.1]
   ·unfold respG at hx
    rw[if_pos ⟨q1,q6.1⟩] at hx
    exact absurd hx q6.2.1
  ·intro _ hx
   have hx:respG b.data_≠0:=hx
   rcases q6 with q6|q6
   ·unfold respG at hx
    rw[if_neg (by omega)] at hx
    exact absurd rfl hx
   ·refine⟨?_,?_,?_⟩
    ·show rdyG (stepG b s).1.data_=true
     unfold rdyG
     rw[q6.2.2.2.2.2,q6.2.2.2.2.1]
     simp[q6.1]
    ·show respG (stepG b s).1.data_=respG b.data_
     unfold respG
     rw[if_pos (show b.data_.live=true∧b.data_.left≤0 from⟨q1,q6.1⟩),if_pos (show (stepG b s).1.data_.live=true∧(stepG b s).1.data_.left≤0 from⟨q2,by rw[q6.2.2.2.2.1];exact q6.1⟩),q5]
    ·show (if (stepG b s).1.addr.live=true then (if (stepG b s).1.addr.first then (2:Int) else 3) else 0)=0
     rw[if_neg (by rw[q6.2.2.2.1];simp)]
  ·intro hx hy
   have hx:rdyG (stepG b s).1.data_=true:=hx
   have hy:respG (stepG b s).1.data_≠0:=hy
   refine⟨hr,?_⟩
   show respG b.data_=respG (stepG b s).1.data_
   have hll:(stepG b s).1.data_.live=true∧(stepG b s).1.data_.left≤0:=by
    unfold respG at hy
    split at hy
    ·assumption
    ·exact absurd rfl hy
   have hp:=rdy_parts hx q2
   have hne:(stepG b s).1.data_.resp≠0:=by unfold respG at hy;rwa [if_pos hll] at hy
   have hsec:(stepG b s).1.data_.second=true:=by simpa using fun h1=>hp.2 ⟨hne,h1⟩
   rcases q6 with q6|q6
   ·rw[q6.2.2.2] at hsec
    have:=(hdd.2.2.2 hsec).1
    omega
   ·unfold respG
    rw[if_pos ⟨q1,q6.1⟩,if_pos hll,q5]
  ·intro hx;rw[hr] at hx;cases hx
  ·exact page_ok hs.1
end Go.Proofs.YtciimjnpdmmfnaaGreat.Ev
namespace Go.Proofs.YtciimjnpdmmfnaaGreat.Ev
open Go Go.Proofs
set_option linter.unusedVariables false
set_option linter.unusedSimpArgs false
def beatG (r:GReq) (k:Nat):GDone:=GDone.mk 0 0 r.write (atI (addrsG r.addr r.size r.burst) (k:Int)) r.size (if r.write=true then atI r.data_ (k:Int) else 0) 0
def beatsL (r:GReq):List GDone:=(List.range (beatsG r.burst).toNat).map (beatG r)
theorem beatsL_len (r:GReq):(beatsL r).length=(beatsG r.burst).toNat:=by simp[beatsL]
theorem beatsL_get (r:GReq) {k:Nat} (h:k < (beatsG r.burst).toNat):(beatsL r)[k]?=some (beatG r k):=by
 simp[beatsL,h]
def mstOf (r:GReq):GMst:=GMst.mk [r] 0 0 0 false false
theorem mstOf_right {r:GReq} (h:reqG r=true):RightP (mstOf r):=by
 have hl:=burst_len (req_parts h).1
 refine⟨by show 1≤4;omega,Int.le_refl 0,fun x hx=>?_,fun hx=>absurd hx (by simp[mstOf]),fun _=>?_⟩
 ·have:x=r:=by simpa [mstOf] using hx
  rw[this];exact h
 ·have e:mbeatsG (mstOf r)=beatsG r.burst:=by
   unfold mbeatsG
   rw[if_neg (by simp[mstOf])]
   rfl
  rw[e]
  refine⟨Int.le_refl 0,?_,Int.le_refl 0,?_,?_⟩
  ·show 0 < beatsG r.burst;omega
  ·show (0:Int)≤0+2;omega
  ·show 0≤beatsG r.burst;omega
theorem mstOf_beats (r:GReq):mbeatsG (mstOf r)=beatsG r.burst:=by
 unfold mbeatsG
 rw[if_neg (by simp[mstOf])]
 rfl
theorem s_BeatsOfReq_eq {r:GReq} (h:reqG r=true):p_s_BeatsOfReq r=some (beatsL r):=by
 have hl:=burst_len (req_parts h).1
 have hb:=beatsG_le r.burst
 unfold p_s_BeatsOfReq
 rw[s_BurstAddrs_eq,Option.bind_some]
 have hn:(addrsG r.addr r.size r.burst).length=(beatsG r.burst).toNat:=by omega
 refine loop_go (σ:=List GDone×List Int) (n:=(beatsG r.burst).toNat) (by omega) (fun k=>((List.range k).map (beatG r),addrsG r.addr r.size r.burst)) (B:=fun κ st i=>p_s_BeatsOfReq__L1b r (fun x y i=>κ (x,y) i) st.1 st.2 i) (L:=fun m st i=>p_s_BeatsOfReq__L1 r m st.1 st.2 i) (fun m s i=>rfl) (fun k hk κ=>?_) fun κ=>?_
 ·unfold p_s_BeatsOfReq__L1b p_s_BeatsOfReq__J2
  have hv:p_s_l14Value r (k:Int)=some (numberG (mstOf r) (k:Int)):=s_value_eq (mstOf_right h) (by simp[mstOf]) (by omega) (by rw[mstOf_beats];omega)
  dsimp only
  rw[if_pos (by simp;omega),s_ReqOk_eq _ (req_sm h),Option.bind_some,if_pos h,idx_at (by omega) (by omega),Option.bind_some,hv,Option.bind_some,appI_of (by simp;omega) (by simp;omega),Option.bind_some,List.range_succ,List.map_append]
  rfl
 ·unfold p_s_BeatsOfReq__L1b p_s_BeatsOfReq__J2
  dsimp only
  rw[if_neg (by simp;omega),if_neg (by simp)]
  rfl
def wantedL (ps:List GPost) (i:Int):List GDone:=ps.flatMap fun p=>if p.who=i then beatsL p.req else []
theorem wantedL_app (a c:List GPost) (i:Int):wantedL (a++c) i=wantedL a i++wantedL c i:=by simp[wantedL]
theorem wantedL_le (i:Int):∀(ps:List GPost),(wantedL ps i).length≤8*ps.length:=by
 intro ps
 induction ps with
 | nil=>simp[wantedL]
 | cons p ps ih=>
  have hb:=beatsG_le p.req.burst
  have e:wantedL (p::ps) i=(if p.who=i then beatsL p.req else [])++wantedL ps i:=rfl
  rw[e,List.length_append,List.length_cons]
  split
  ·rw[beatsL_len];omega
  ·simp;omega
theorem w_wanted_eq {s:GScript} (hl:s.posts.length≤1000) (hr:∀p∈s.posts,reqG p.req=true) (i:Int):p_w_wanted s i=some (wantedL s.posts i):=by
 unfold p_w_wanted
 refine loop_go (σ:=List GDone) (n:=s.posts.length) (by omega) (fun k=>wantedL (s.posts.take k) i) (B:=fun κ st j=>p_w_wanted__L1b s i κ st j) (L:=fun m st j=>p_w_wanted__L1 s i m st j) (fun m s i=>rfl) (fun k hk κ=>?_) fun κ=>?_
 ·have h1:=wantedL_le i (s.posts.take k)
  have h2:(s.posts.take k).length=k:=by rw[List.length_take];omega
  have hb:=beatsG_le s.posts[k].req.burst
  unfold p_w_wanted__L1b
  rw[if_pos (by simpa using hk),idx_get hk,Option.bind_some,List.take_succ_eq_append_getElem hk,wantedL_app]
  have e:wantedL [s.posts[k]] i=if s.posts[k].who=i then beatsL s.posts[k].req else []:=by simp[wantedL]
  rw[e]
  by_cases hw:s.posts[k].who=i
  ·rw[if_pos (by simpa using hw),if_pos hw,s_BeatsOfReq_eq (hr _ (List.getElem_mem hk)),Option.bind_some,appI_of (by rw[beatsL_len];omega) (by rw[beatsL_len];omega),Option.bind_some]
  ·rw[if_neg (by simpa using hw),if_neg hw,List.append_nil]
 ·unfold p_w_wanted__L1b
  rw[if_neg (by simp),List.take_length]
def ofL (l:List GDone) (i:Int):List GDone:=l.filter fun d=>decide (d.who=i)
theorem i_DoneOf_eq (l:List GDone) (i:Int) (hl:l.length < 1048577):p_i_DoneOf l i=some (ofL l i):=by
 unfold p_i_DoneOf p_slices_Clone_Done_Done
 rw[app_nilD l hl,Option.bind_some]
 have:=delete_list l GDone.z0 (by omega) (fun d=>p_i_DoneOf_1 d i) (fun d=>decide (d.who=i)) (fun d _=>by unfold p_i_DoneOf_1;by_cases h:d.who=i<;>simp[h]) (p_slices_IndexFunc_Done_Done__i_DoneOf_1__L1 l i) (fun m j=>rfl) (p_slices_DeleteFunc_Done_Done__i_DoneOf_1__L1 l i) (fun m v j k=>rfl)
 unfold p_slices_DeleteFunc_Done_Done__i_DoneOf_1 p_slices_IndexFunc_Done_Done__i_DoneOf_1
 rw[this]
 rfl
theorem i_Finished_eq (b:GBus) (i:Int) (hl:b.log.length < 1048577):p_i_Finished b i=some ((ofL b.log i).length:Int):=by
 unfold p_i_Finished
 rw[i_DoneOf_eq _ _ hl]
 rfl
def matchP (d w:GDone):Prop:=d.write=w.write∧d.addr=w.addr∧d.size=w.size∧(d.write=true→d.resp=0→d.value=w.value)
def folP:List GDone→List GDone→Prop
 | [],_=>True
 | _::_,[]=>False
 | a::l,c::r=>matchP a c∧folP l r
theorem folP_snoc {a c:GDone} (h:matchP a c) (x:List GDone):∀{l r:List GDone},l.length=r.length→folP l r→folP (l++[a]) (r++[c]++x):=by
 intro l
 induction l with
 | nil=>
  intro r hl _
  cases r with
  | nil=>exact⟨h,by cases x<;>trivial⟩
  | cons y r=>simp at hl
 | cons b l ih=>
  intro r hl hf
  cases r with
  | nil=>simp at hl
  | cons y r=>exact⟨hf.1,ih (by simpa using hl) hf.2⟩
theorem folP_app (x:List GDone):∀{l r:List GDone},folP l r→folP l (r++x):=by
 intro l
 induction l with
 | nil=>intro r _;cases r<;>simp[folP]<;>cases x<;>trivial
 | cons b l ih=>
  intro r hf
  cases r with
  | nil=>exact absurd hf id
  | cons y r=>exact⟨hf.1,ih hf.2⟩
theorem folP_get:∀{l r:List GDone},folP l r→l.length≤r.length∧∀(k:Nat) (h:k < l.length),∃h2:k < r.length,matchP l[k] r[k]:=by
 intro l
 induction l with
 | nil=>intro r _;exact⟨Nat.zero_le _,fun k h=>absurd h (by simp)⟩
 | cons b l ih=>
  intro r hf
  cases r with
  | nil=>exact absurd hf id
  | cons y r=>
   obtain⟨h1,h2⟩:=ih hf.2
   refine⟨by simpa using h1,fun k hk=>?_⟩
   cases k with
   | zero=>exact⟨by simp,hf.1⟩
   | succ k=>
    obtain⟨h3,h4⟩:=h2 k (by simpa using hk)
    exact⟨by simpa using h3,by simpa using h4⟩
theorem i_Follows_ok {l w:List GDone} (hl:l.length < 1048577) (h:folP l w):p_i_Follows l w=some true:=by
 obtain⟨h1,h2⟩:=folP_get h
 unfold p_i_Follows
 rw[if_neg (by simp;omega)]
 refine loop_go1 (n:=l.length) (by omega) (B:=fun κ i=>p_i_Follows__L1b l w κ i) (L:=fun m i=>p_i_Follows__L1 l w m i) (fun m i=>rfl) (fun k hk κ=>?_) fun κ=>?_
 ·obtain⟨h3,m1,m2,m3,m4⟩:=h2 k hk
  unfold p_i_Follows__L1b
  rw[if_pos (by simpa using hk),idx_get hk,Option.bind_some,idx_get h3,Option.bind_some,if_neg (by simp[m1]),if_neg (by simp[m2]),if_neg (by simp[m3])]
  by_cases e1:l[k].write=true
  ·by_cases e2:l[k].resp=0
   ·simp[e1,e2,m4 e1 e2]
   ·simp[e1,e2]
  ·simp[e1]
 ·unfold p_i_Follows__L1b
  rw[if_neg (by simp)]
def allL (q:List GReq):List GDone:=q.flatMap beatsL
def restL (q:List GReq) (d:Int):List GDone:=(allL q).drop d.toNat
theorem restL_post {q:List GReq} {d:Int} (r:GReq) (h:d.toNat≤(allL q).length):restL (q++[r]) d=restL q d++beatsL r:=by
 have e:allL (q++[r])=allL q++beatsL r:=by simp[allL]
 unfold restL
 rw[e,List.drop_append_of_le_length h]
theorem head_le {m:GMst} (h:RightP m):m.done.toNat≤(allL m.queue).length:=by
 by_cases hq:m.queue=[]
 ·have:=(h.none hq).2.1
  rw[this];exact Nat.zero_le _
 ·have h1:=h.some hq
  have h2:=right_first h hq
  obtain⟨r,t,e⟩:=List.exists_cons_of_ne_nil hq
  have e0:atI m.queue 0=r:=by rw[e];rfl
  rw[e0] at h2
  rw[e]
  unfold allL
  rw[List.flatMap_cons,List.length_append,beatsL_len]
  omega
theorem restL_next {m:GMst} (h:RightP m) (hq:m.queue≠[]):restL m.queue m.done=beatG (atI m.queue 0) m.done.toNat::restL (nextQ m).1 (nextQ m).2:=by
 have h1:=h.some hq
 have h2:=right_first h hq
 obtain⟨r,t,e⟩:=List.exists_cons_of_ne_nil hq
 have e0:atI m.queue 0=r:=by rw[e];rfl
 rw[e0] at h2 ⊢
 have hlt:m.done.toNat < (beatsG r.burst).toNat:=by omega
 have hlt2:m.done.toNat < (allL m.queue).length:=by
  rw[e];unfold allL;rw[List.flatMap_cons,List.length_append,beatsL_len];omega
 have hg:(allL m.queue)[m.done.toNat]=beatG r m.done.toNat:=by
  have:(allL m.queue)[m.done.toNat]?=some (beatG r m.done.toNat):=by
   rw[e];unfold allL
   rw[List.flatMap_cons,List.getElem?_append_left (by rw[beatsL_len];exact hlt),beatsL_get r hlt]
  obtain⟨_,h3⟩:=List.getElem?_eq_some_iff.1 this
  exact h3
 show (allL m.queue).drop m.done.toNat=_
 rw[List.drop_eq_getElem_cons hlt2,hg]
 congr 1
 unfold nextQ
 by_cases hl:m.done+1=mbeatsG m
 ·rw[if_pos hl]
  show _=(allL m.queue.tail).drop 0
  rw[e]
  unfold allL
  rw[List.flatMap_cons,List.drop_append_of_le_length (by rw[beatsL_len];omega),List.drop_of_length_le (by rw[beatsL_len];omega)]
  rfl
 ·rw[if_neg hl]
  show _=(allL m.queue).drop (m.done+1).toNat
  rw[show (m.done+1).toNat=m.done.toNat+1 by omega]
structure Fol (ps:List GPost) (b:GBus):Prop where
 rest:∀i,masterG b.conf i=true→∃pre,wantedL ps i=pre++restL (atI b.m i).queue (atI b.m i).done∧(ofL b.log i).length=pre.length∧folP (ofL b.log i) pre
 many:∀i,masterG b.conf i=true→(atI b.m i).queue.length≤ps.length
theorem Fol.same {ps:List GPost} {b c:GBus} (h:Fol ps b) (hc:c.conf=b.conf) (hl:c.log=b.log) (hm:∀i,masterG b.conf i=true→qd (atI c.m i)=qd (atI b.m i)):Fol ps c:=by
 refine⟨fun i hi=>?_,fun i hi=>?_⟩<;>rw[hc] at hi<;>have e:=hm i hi<;>unfold qd at e<;>injection e with e1 e2
 ·rw[e1,e2,hl];exact h.rest i hi
 ·rw[e1];exact h.many i hi
theorem fol_postOne {n:Int} {b:GBus} {ps:List GPost} {p:GPost} (hI:BusI n b) (h:Fol ps b) (hr:reqG p.req=true) (hw:masterG b.conf p.who=true) (hl:ps.length < 4):Fol (ps++[p]) (postOne b p):=by
 unfold postOne
 rw[if_pos hw]
 have hq:∀i,masterG b.conf i=true→atI (b.m.set p.who.toNat (postG (atI b.m p.who) p.req)) i=if i=p.who then {atI b.m i with queue:=(atI b.m i).queue++[p.req]} else atI b.m i:=by
  intro i hi
  rw[hI.at_m hw _ hi]
  split
  ·rename_i e
   rw[e]
   unfold postG
   have:=h.many _ hw
   rw[if_pos ⟨hr,by omega⟩]
  ·rfl
 refine⟨fun i hi=>?_,fun i hi=>?_⟩
 ·obtain⟨pre,h1,h2,h3⟩:=h.rest i hi
  show ∃pre,wantedL (ps++[p]) i=pre++restL (atI (b.m.set p.who.toNat (postG (atI b.m p.who) p.req)) i).queue (atI (b.m.set p.who.toNat (postG (atI b.m p.who) p.req)) i).done∧_
  rw[hq i hi,wantedL_app,h1]
  have e1:wantedL [p] i=if p.who=i then beatsL p.req else []:=by simp[wantedL]
  rw[e1]
  refine⟨pre,?_,h2,h3⟩
  by_cases e:i=p.who
  ·rw[if_pos e,if_pos e.symm]
   show _=pre++restL ((atI b.m i).queue++[p.req]) (atI b.m i).done
   rw[restL_post _ (head_le (hI.mst i hi).right),List.append_assoc]
  ·rw[if_neg e,if_neg (fun h=>e h.symm),List.append_nil]
 ·show (atI (b.m.set p.who.toNat (postG (atI b.m p.who) p.req)) i).queue.length≤_
  rw[hq i hi]
  have:=h.many i hi
  split<;>simp<;>omega
theorem fol_postAll {n:Int} (xs:List GPost):∀{b:GBus} {ps:List GPost},BusI n b→Fol ps b→(∀p∈xs,reqG p.req=true∧masterG b.conf p.who=true)→ps.length+xs.length≤4→Fol (ps++xs) (postAll b xs):=by
 induction xs with
 | nil=>intro b ps _ h _ _;rw[List.append_nil];exact h
 | cons p xs ih=>
  intro b ps hI h hx hl
  have hp:=hx p (List.mem_cons_self ..)
  have h1:=fol_postOne hI h hp.1 hp.2 (by simp at hl;omega)
  have:=ih (postOne_ok hI (p:=p)) h1 (fun q hq=>by rw[(postOne_conf b p).1];exact hx q (List.mem_cons_of_mem _ hq)) (by simp at hl ⊢;omega)
  rw[List.append_assoc] at this
  exact this
theorem fol_open {b:GBus} {ps:List GPost} {s:GScript} (hP:BusP b) (h:Fol ps b) (hx:∀p∈postsG s b.now,reqG p.req=true∧masterG b.conf p.who=true) (hl:ps.length+(postsG s b.now).length≤4):Fol (ps++postsG s b.now) (openG b s):=by
 have h1:=fol_postAll _ hP.i h hx hl
 have e:=held_data (tickAll (postAll b (postsG s b.now)))
 have e2:=tick_data (postAll b (postsG s b.now))
 refine h1.same (c:=openG b s) ?_ ?_ (fun i hi=>?_)
 ·unfold openG;rw[e.2.1,e2.2.1]
 ·unfold openG;rw[e.2.2.2.1,e2.2.2.2.1]
 ·unfold openG;rw[e.2.2.2.2.2.1,e2.2.2.2.2.2.1]
theorem ofL_snoc (l:List GDone) (d:GDone) (i:Int):ofL (l++[d]) i=if d.who=i then ofL l i++[d] else ofL l i:=by
 unfold ofL
 rw[List.filter_append]
 by_cases h:d.who=i<;>simp[h]
theorem fol_step {b:GBus} {ps:List GPost} {s:GScript} (hP:BusP b) (hRep:Rep b) (h:Fol ps b) (hx:∀p∈postsG s b.now,reqG p.req=true∧masterG b.conf p.who=true) (hl:ps.length+(postsG s b.now).length≤4) (hn:b.now < 4000):Fol (ps++postsG s b.now) (stepG b s).1:=by
 have h1:=fol_open hP h hx hl
 have hI:=open_I hP s
 have e:=open_data b s
 have hlog:=step_log hP s
 have hcf:=(step_ok hP s hn).2.2
 have elog:(openG b s).log=b.log:=e.2.2.2.1
 by_cases he:endsG b.data_=true
 ·have hd:b.data_.live=true:=by
   simp only[endsG,Bool.and_eq_true] at he
   exact he.1.1
  rw[if_pos he] at hlog
  have hdO:(openG b s).data_=b.data_:=e.2.2.2.2.2.2.1
  have hdl:(openG b s).data_.live=true:=by rw[hdO];exact hd
  refine⟨fun i hi=>?_,fun i hi=>?_⟩
  ·rw[hcf] at hi
   have hi2:masterG (openG b s).conf i=true:=by rw[e.2.1];exact hi
   obtain⟨pre,w1,w2,w3⟩:=h1.rest i hi2
   rw[elog] at w2 w3
   have hq:=step_qd hP s hi
   rw[hlog,ofL_snoc]
   have ewho:(doneG {openG b s with data_:=GBeat.z0} b.data_).who=b.data_.who:=rfl
   rw[ewho]
   by_cases hw:b.data_.who=i
   ·rw[if_pos ⟨he,hw⟩] at hq
    rw[if_pos hw]
    have hR:=(hI.mst i hi2).right
    have hne:(atI (openG b s).m i).queue≠[]:=by
     have:=data_ne hI hdl
     rw[hdO,hw] at this
     exact this
    have hD:=hI.data
    unfold dataP at hD
    rw[if_pos hdl] at hD
    rw[hdO] at hD
    have hbeat:b.data_.beat=(atI (openG b s).m i).done:=by rw[←hw];exact hD.1.1
    have hnx:=restL_next hR hne
    have q1:(atI (stepG b s).1.m i).queue=(nextQ (atI (openG b s).m i)).1:=congrArg Prod.fst hq
    have q2:(atI (stepG b s).1.m i).done=(nextQ (atI (openG b s).m i)).2:=congrArg Prod.snd hq
    refine⟨pre++[beatG (atI (atI (openG b s).m i).queue 0) (atI (openG b s).m i).done.toNat],?_,?_,?_⟩
    ·rw[w1,hnx,q1,q2];simp
    ·simp[w2]
    ·have:=folP_snoc (a:=doneG {openG b s with data_:=GBeat.z0} b.data_) (c:=beatG (atI (atI (openG b s).m i).queue 0) (atI (openG b s).m i).done.toNat) ?_ [] w2 w3
     ·rw[List.append_nil] at this;exact this
     ·have hs2:=hR.some hne
      have hnn:(((atI (openG b s).m i).done.toNat:Nat):Int)=(atI (openG b s).m i).done:=by omega
      have hma:maddrG (atI (openG b s).m b.data_.who) b.data_.beat=atI (addrsG (atI (atI (openG b s).m i).queue 0).addr (atI (atI (openG b s).m i).queue 0).size (atI (atI (openG b s).m i).queue 0).burst) (atI (openG b s).m i).done:=by
       rw[hw,hbeat]
       unfold maddrG
       rw[if_pos (by omega)]
      refine⟨?_,?_,?_,fun hwr hrs=>?_⟩
      ·show (atI (atI (openG b s).m b.data_.who).queue 0).write=_
       rw[hw];rfl
      ·show maddrG (atI (openG b s).m b.data_.who) b.data_.beat=atI (addrsG _ _ _) (((atI (openG b s).m i).done.toNat:Nat):Int)
       rw[hma,hnn]
      ·show (atI (atI (openG b s).m b.data_.who).queue 0).size=_
       rw[hw];rfl
      ·have hwr:(atI (atI (openG b s).m b.data_.who).queue 0).write=true:=hwr
       have hrs:b.data_.resp=0:=hrs
       show (if b.data_.resp=0 then (doG {openG b s with data_:=GBeat.z0} b.data_).2.1 else 0)=if (atI (atI (openG b s).m i).queue 0).write=true then atI (atI (atI (openG b s).m i).queue 0).data_ (((atI (openG b s).m i).done.toNat:Nat):Int) else 0
       have h0:=(rep_open hP hRep s).data hdl (by rw[hdO];exact hrs)
       rw[hdO] at h0
       have ev:(doG (openG b s) b.data_).2.1=numberG (atI (openG b s).m b.data_.who) b.data_.beat:=by
        unfold doG at h0 ⊢
        rw[hwr] at h0 ⊢
        exact modeldo_value h0
       have ev2:(doG {openG b s with data_:=GBeat.z0} b.data_).2.1=(doG (openG b s) b.data_).2.1:=rfl
       rw[if_pos hrs,hnn,ev2,ev,hbeat,hw]
       rfl
   ·rw[if_neg (fun hx=>hw hx.2)] at hq
    rw[if_neg hw]
    unfold qd at hq
    injection hq with q1 q2
    rw[q1,q2]
    exact⟨pre,w1,w2,w3⟩
  ·rw[hcf] at hi
   have hi2:masterG (openG b s).conf i=true:=by rw[e.2.1];exact hi
   have h2:=h1.many i hi2
   have hq:=step_qd hP s hi
   have h3:(qd (atI (stepG b s).1.m i)).1.length≤(atI (openG b s).m i).queue.length:=by
    rw[hq]
    split
    ·unfold nextQ
     split
     ·simp
     ·exact Nat.le_refl _
    ·exact Nat.le_refl _
   exact Nat.le_trans h3 h2
 ·rw[if_neg he] at hlog
  refine h1.same (by rw[hcf,e.2.1]) (by rw[hlog,elog]) (fun i hi=>?_)
  rw[e.2.1] at hi
  rw[step_qd hP s hi,if_neg (fun hx=>he hx.1)]
end Go.Proofs.YtciimjnpdmmfnaaGreat.Ev
namespace Go.Proofs.YtciimjnpdmmfnaaGreat.Ev
open Go Go.Proofs
set_option linter.unusedVariables false
set_option linter.unusedSimpArgs false
def postedL (s:GScript) (t:Int):List GPost:=s.posts.filter fun p=>decide (p.at_ < t)
theorem filter_sorted:∀(l:List GPost) (t:Int),l.Pairwise (fun x y=>x.at_≤y.at_)→l.filter (fun p=>decide (p.at_ < t+1))=l.filter (fun p=>decide (p.at_ < t))++l.filter (fun p=>decide (p.at_=t)):=by
 intro l
 induction l with
 | nil=>intro t _;rfl
 | cons p l ih=>
  intro t h
  have h1:=(List.pairwise_cons.1 h).1
  have h2:=ih t (List.pairwise_cons.1 h).2
  by_cases hlt:p.at_ < t
  ·rw[List.filter_cons_of_pos (by simp;omega),List.filter_cons_of_pos (by simpa using hlt),List.filter_cons_of_neg (by simp;omega),h2]
   rfl
  ·have hno:l.filter (fun p=>decide (p.at_ < t))=[]:=by
    rw[List.filter_eq_nil_iff]
    intro q hq
    have:=h1 q hq
    simp;omega
   by_cases he:p.at_=t
   ·rw[List.filter_cons_of_pos (by simp;omega),List.filter_cons_of_neg (by simpa using hlt),List.filter_cons_of_pos (by simpa using he),h2,hno]
    rfl
   ·rw[List.filter_cons_of_neg (by simp;omega),List.filter_cons_of_neg (by simpa using hlt),List.filter_cons_of_neg (by simpa using he),h2]
structure ScrG (c:GConf) (s:GScript):Prop where
 sorted:s.posts.Pairwise fun x y=>x.at_≤y.at_
 posts:∀p∈s.posts,(0≤p.at_∧p.at_≤4000)∧masterG c p.who=true∧reqG p.req=true
 len:s.posts.length≤20
theorem script_parts {c:GConf} {s:GScript} (h:scriptG c s=true):ScrG c s:=by
 unfold scriptG at h
 simp only[Bool.and_eq_true,decide_eq_true_eq,List.all_eq_true,List.mem_range] at h
 obtain⟨h1,h2,h3,h4,h5⟩:=h
 have hk:∀(k:Nat) (hk:k < s.posts.length),((0≤s.posts[k].at_∧s.posts[k].at_≤4000)∧masterG c s.posts[k].who=true∧reqG s.posts[k].req=true)∧(∀h0:k≠0,(s.posts[k - 1]'(by omega)).at_≤s.posts[k].at_):=by
  intro k hk
  have:=h1 k hk
  unfold postG1 at this
  simp only[Bool.and_eq_true,decide_eq_true_eq,Bool.or_eq_true] at this
  rw[at_nat hk] at this
  refine⟨⟨this.1,this.2.1,this.2.2.1⟩,fun h0=>?_⟩
  rcases this.2.2.2 with h6|h6
  ·exact absurd h6 h0
  ·rw[at_nat (by omega)] at h6
   exact h6
 refine⟨?_,?_,h3⟩
 ·rw[List.pairwise_iff_getElem]
  have key:∀(d i:Nat) (hj:i+d+1 < s.posts.length),(s.posts[i]'(by omega)).at_≤(s.posts[i+d+1]'hj).at_:=by
   intro d
   induction d with
   | zero=>
    intro i hj
    exact (hk (i+1) hj).2 (by omega)
   | succ d ih=>
    intro i hj
    have h6:=ih i (by omega)
    have h7:=(hk (i+(d+1)+1) hj).2 (by omega)
    exact Int.le_trans h6 h7
  intro i j hi hj hij
  have:=key (j - i - 1) i (by omega)
  have e:i+(j - i - 1)+1=j:=by omega
  simp only[e] at this
  exact this
 ·intro p hp
  obtain⟨k,h6,rfl⟩:=List.getElem_of_mem hp
  exact (hk k h6).1
theorem posted_step {c:GConf} {s:GScript} (h:ScrG c s) (t:Int):postedL s (t+1)=postedL s t++postsG s t:=filter_sorted _ t h.sorted
theorem posted_all {s:GScript} {t:Int} (h:lastG s < t):postedL s t=s.posts:=by
 have key:∀(l:List GPost) (m:Int),(m≤l.foldl (fun m p=>maxI m p.at_) m)∧∀p∈l,p.at_≤l.foldl (fun m p=>maxI m p.at_) m:=by
  intro l
  induction l with
  | nil=>intro m;exact⟨Int.le_refl _,fun p hp=>absurd hp (by simp)⟩
  | cons q l ih=>
   intro m
   have h1:=ih (maxI m q.at_)
   have h2:=maxI_eq m q.at_
   refine⟨?_,fun p hp=>?_⟩
   ·rw[List.foldl_cons];omega
   ·rw[List.foldl_cons]
    rcases List.mem_cons.1 hp with e|e
    ·subst e;omega
    ·exact h1.2 p e
 unfold postedL
 rw[List.filter_eq_self]
 intro p hp
 have:=(key s.posts (-1)).2 p hp
 unfold lastG at h
 simp;omega
structure TopI (c:GConf) (s:GScript) (b:GBus):Prop where
 p:BusP b
 conf:b.conf=c
 rep:Rep b
 fol:s.posts.length≤4→Fol (postedL s b.now) b
theorem top_step {c:GConf} {s:GScript} {b:GBus} (hs:ScrG c s) (h:TopI c s b) (hn:b.now < 4000):TopI c s (stepG b s).1:=by
 have h1:=step_ok h.p s hn
 refine⟨h1.1,by rw[h1.2.2,h.conf],rep_step h.p h.rep s,fun hl=>?_⟩
 rw[h1.2.1,posted_step hs]
 refine fol_step h.p h.rep (h.fol hl) (fun p hp=>?_) ?_ hn
 ·have:=hs.posts p ((List.mem_filter.1 hp).1)
  rw[h.conf]
  exact⟨this.2.2,this.2.1⟩
 ·rw[←List.length_append,←posted_step hs]
  exact Nat.le_trans (List.length_filter_le ..) hl
theorem top_run {c:GConf} {s:GScript} {b:GBus} (hs:ScrG c s) (h:TopI c s b):∀(n:Nat),b.now+n≤4000→TopI c s (runN b s n).1:=by
 intro n
 induction n with
 | zero=>intro _;exact h
 | succ n ih=>
  intro hn
  have:=runN_ok h.p s n (by omega)
  exact top_step hs (ih (by omega)) (by rw[this.2.1];omega)
theorem top_out {c:GConf} {s:GScript} (hs:ScrG c s):∀(f:Nat) {b:GBus},TopI c s b→TopI c s (outN s f b):=by
 intro f
 induction f with
 | zero=>intro b h;exact h
 | succ f ih=>
  intro b h
  unfold outN
  split
  ·rename_i hg
   exact ih (top_step hs h hg.1)
  ·exact h
theorem top_new {c:GConf} {s:GScript} (h:scriptG c s=true):TopI c s (newG c):=by
 have hc:=script_conf h
 have hs:=script_parts h
 refine⟨new_ok hc,rfl,rep_new c,fun _=>?_⟩
 have hp:postedL s (newG c).now=[]:=by
  unfold postedL
  rw[List.filter_eq_nil_iff]
  intro p hp
  have:=(hs.posts p hp).1.1
  have e:(newG c).now=0:=rfl
  rw[e];simp;omega
 rw[hp]
 refine⟨fun i hi=>⟨[],?_,rfl,trivial⟩,fun i hi=>?_⟩
 ·rw[new_m c hi];rfl
 ·rw[new_m c hi];exact Nat.zero_le _
theorem top_follows {c:GConf} {s:GScript} {b:GBus} (hs:ScrG c s) (h:TopI c s b) (hl:s.posts.length≤4) {i:Int} (hi:masterG c i=true):folP (ofL b.log i) (wantedL s.posts i):=by
 obtain⟨pre,h1,h2,h3⟩:=(h.fol hl).rest i (by rw[h.conf];exact hi)
 have e:∃x,wantedL s.posts i=wantedL (postedL s b.now) i++x:=by
  refine⟨wantedL (s.posts.filter fun p=>decide (b.now≤p.at_)) i,?_⟩
  rw[←wantedL_app]
  congr 1
  unfold postedL
  have key:∀(l:List GPost),l.Pairwise (fun x y=>x.at_≤y.at_)→l=l.filter (fun p=>decide (p.at_ < b.now))++l.filter (fun p=>decide (b.now≤p.at_)):=by
   intro l
   induction l with
   | nil=>intro _;rfl
   | cons p l ih=>
    intro hp
    have g1:=(List.pairwise_cons.1 hp).1
    by_cases hlt:p.at_ < b.now
    ·rw[List.filter_cons_of_pos (by simpa using hlt),List.filter_cons_of_neg (by simp;omega),List.cons_append,←ih (List.pairwise_cons.1 hp).2]
    ·have hno:l.filter (fun p=>decide (p.at_ < b.now))=[]:=by
      rw[List.filter_eq_nil_iff]
      intro q hq
      have:=g1 q hq
      simp;omega
     have:=ih (List.pairwise_cons.1 hp).2
     rw[hno,List.nil_append] at this
     rw[List.filter_cons_of_neg (by simpa using hlt),hno,List.filter_cons_of_pos (by simp;omega),←this]
     rfl
  exact key _ hs.sorted
 obtain⟨x,ex⟩:=e
 rw[ex,h1,List.append_assoc]
 exact folP_app _ h3
theorem top_finished {c:GConf} {s:GScript} {b:GBus} (hs:ScrG c s) (h:TopI c s b) (hl:s.posts.length≤4) (hq:quietG b=true) (hn:lastG s < b.now) {i:Int} (hi:masterG c i=true):(ofL b.log i).length=(wantedL s.posts i).length:=by
 have hi2:masterG b.conf i=true:=by rw[h.conf];exact hi
 obtain⟨pre,h1,h2,h3⟩:=(h.fol hl).rest i hi2
 rw[posted_all hn] at h1
 have hm:(atI b.m i).queue=[]:=by
  have hb:=mas_bnd hi2
  have:=List.all_eq_true.1 hq (atI b.m i) (at_mem hb.1 (by have:=h.p.ml;omega))
  simpa using this
 have hd:=((h.p.mst i hi2).right.none hm).2.1
 rw[hm,hd] at h1
 have e:restL [] 0=[]:=rfl
 rw[e,List.append_nil] at h1
 rw[h2,h1]
end Go.Proofs.YtciimjnpdmmfnaaGreat.Ev
namespace Go.Proofs.YtciimjnpdmmfnaaGreat.Ev
open Go Go.Proofs
set_option linter.unusedVariables false
set_option linter.unusedSimpArgs false
section
variable {x0:List Int} {c:GConf} {s:GScript}
theorem top_L2 (hs:ScrG c s) (hsm:s.sm) (hl:c.masters.length < 1048577) {z:GBus} (h:TopI c s z) (v0:Bool) (hv:v0=true→s.posts.length≤4):p_w_FnTop__L2 x0 FU c s z v0 0=some true:=by
 cases v0 with
 | false=>
  show p_w_FnTop__L2b x0 (p_w_FnTop__L2 x0 _) c s z false 0=_
  unfold p_w_FnTop__L2b p_w_FnTop__J5
  simp
 | true=>
  have hv:=hv rfl
  refine loop_go1 (n:=c.masters.length) (by omega) (B:=fun κ i=>p_w_FnTop__L2b x0 (fun _ _ _ _ i=>κ i) c s z true i) (L:=fun m i=>p_w_FnTop__L2 x0 m c s z true i) (fun m i=>rfl) (fun k hk κ=>?_) fun κ=>?_
  ·unfold p_w_FnTop__L2b p_w_FnTop__J5
   rw[if_pos (by simpa using hk),if_pos rfl,i_IdleBus_eq h.p.sm,Option.bind_some]
   by_cases hq:idleG z=true
   ·rw[if_pos hq,i_LastPost_eq s hsm.posts,Option.bind_some]
    by_cases hn:z.now > lastG s
    ·have hq2:quietG z=true:=by
      unfold idleG at hq
      rw[Bool.and_eq_true] at hq
      exact hq.2
     have:=top_finished hs h hv hq2 hn (mas hk)
     rw[if_pos (by simpa using hn),i_Finished_eq _ _ h.p.sm.log,Option.bind_some,w_wanted_eq (by have:=hs.len;omega) (fun p hp=>(hs.posts p hp).2.2),Option.bind_some,this,if_neg (by simp)]
    ·rw[if_neg (by simpa using hn)]
   ·rw[if_neg hq]
  ·unfold p_w_FnTop__L2b p_w_FnTop__J5
   rw[if_neg (by simp),if_neg (by simp)]
theorem top_J4 (k:GConf→GScript→GBus→Bool→Int→Option Bool) (hs:ScrG c s) (hsm:s.sm) (hl:c.masters.length < 1048577) {b:GBus} (h:TopI c s b) (v0:Bool) (hv:v0=true→s.posts.length≤4) (i:Int):p_w_FnTop__J4 x0 k c s b v0 i false=some true:=by
 have hz:=top_out hs (4000 - b.now).toNat h
 have ho:=outN_ok s (4000 - b.now).toNat h.p rfl
 unfold p_w_FnTop__J4
 rw[if_neg (by simp),i_RunOut_eq h.p.sm hsm,Option.bind_some]
 have e:outG b s=(outN s (4000 - b.now).toNat b,(outN s (4000 - b.now).toNat b).now - b.now):=if_pos h.p.ok
 rw[e]
 dsimp only
 have hJ7:p_w_FnTop__J7 x0 c s (outN s (4000 - b.now).toNat b) v0 false=some true:=by
  unfold p_w_FnTop__J7
  rw[if_neg (by simp)]
  exact top_L2 hs hsm hl hz v0 hv
 rw[right_eq hz.p hz.rep,Option.bind_some,if_neg (by simp),s_IdleBus_eq hz.p.sm,Option.bind_some]
 by_cases hq:idleG (outN s (4000 - b.now).toNat b)=true
 ·rw[if_neg (by simp[hq])];exact hJ7
 ·rw[if_pos (by simpa using hq)]
  have hq2:quietG (outN s (4000 - b.now).toNat b)=false:=by
   unfold idleG at hq
   rw[hz.p.ok,Bool.true_and] at hq
   simpa using hq
  have:¬(outN s (4000 - b.now).toNat b).now < 4000:=fun hn=>ho.2.1 ⟨hn,.inl hq2⟩
  rw[show decide ((outN s (4000 - b.now).toNat b).now < 4000)=false from decide_eq_false this]
  exact hJ7
theorem top_L1 (hs:ScrG c s) (hsm:s.sm) (hl:c.masters.length < 1048577) {b:GBus} (h:TopI c s b) (v0:Bool) (hv:v0=true→s.posts.length≤4):p_w_FnTop__L1 x0 FU c s b v0 0=some true:=by
 cases v0 with
 | false=>
  show p_w_FnTop__L1b x0 (p_w_FnTop__L1 x0 _) c s b false 0=_
  unfold p_w_FnTop__L1b
  rw[ite_same]
  exact top_J4 _ hs hsm hl h false hv 0
 | true=>
  have hv2:=hv rfl
  refine loop_go1 (n:=c.masters.length) (by omega) (B:=fun κ i=>p_w_FnTop__L1b x0 (fun _ _ _ _ i=>κ i) c s b true i) (L:=fun m i=>p_w_FnTop__L1 x0 m c s b true i) (fun m i=>rfl) (fun k hk κ=>?_) fun κ=>?_
  ·unfold p_w_FnTop__L1b
   rw[if_pos (by simpa using hk)]
   unfold p_w_FnTop__J4
   have:=top_follows hs h hv2 (mas hk)
   rw[if_pos rfl,i_DoneOf_eq _ _ h.p.sm.log,Option.bind_some,w_wanted_eq (by have:=hs.len;omega) (fun p hp=>(hs.posts p hp).2.2),Option.bind_some,i_Follows_ok ?_ this,Option.bind_some,if_neg (by simp)]
   exact Nat.lt_of_le_of_lt (List.length_filter_le ..) h.p.sm.log
  ·unfold p_w_FnTop__L1b
   rw[if_neg (by simp)]
   exact top_J4 _ hs hsm hl h true hv _
end
theorem law_w_FnTop (x0:List Int) (h0:x0.length≤maxLen∧∀y∈x0,(Lit.int .u8 y).wf=true):p_w_FnTop x0=some true:=by
 unfold p_w_FnTop
 rw[big_eq,Option.bind_some]
 by_cases hx:(x0.length:Int) > 1048576
 ·rw[if_pos (by simpa using hx)]
 ·rw[if_neg (by simpa using hx)]
  obtain⟨⟨c,s,n⟩,e,hm,hs,hn⟩:=DrawPlay_so x0 (by omega)
  dsimp only at hm hs hn
  have hl:c.masters.length < 1048577:=by omega
  rw[e,Option.bind_some]
  dsimp only
  rw[i_Play_eq c s n hl hs.sm,Option.bind_some,s_ScriptOk_eq c s hl hs.sm,Option.bind_some]
  have hno:∀v:Int,¬(scriptG c s=true∧0≤n∧n≤4000)→p_w_FnTop__J3 x0 c s (playG c s n).1 v (playG c s n).2 true=some true:=by
   intro v hx
   have:playG c s n=(GBus.z0,false):=if_neg hx
   rw[this]
   rfl
  by_cases h:scriptG c s=true
  ·rw[if_neg (by simp[h])]
   by_cases hn0:n < 0
   ·rw[decide_eq_true hn0]
    exact hno n (fun hx=>by omega)
   ·rw[decide_eq_false hn0]
    obtain⟨k,rfl⟩:∃k:Nat,n=k:=⟨n.toNat,by omega⟩
    have hc:=script_conf h
    have hS:=script_parts h
    have hN:=new_ok hc
    have hT:=top_run hS (top_new h) k (by show (0:Int)+k≤4000;omega)
    have hlen:=runN_ok hN s k (by show (0:Int)+k≤4000;omega)
    rw[play_run h (by omega)]
    unfold p_w_FnTop__J3
    have er:runG (newG c) s k=runN (newG c) s k:=by
     unfold runG
     rw[if_pos ⟨hN.ok,by omega,by show (k:Int)≤4000 - 0;omega⟩,Int.toNat_natCast]
    have hfb:p_i_FirstBreach (runN (newG c) s k).2=some (-1,0):=by
     refine first_ok _ (by rw[hlen.2.2.2];omega) (fun j a d ha hd=>?_)
     have hj:j+1 < k:=by
      obtain⟨h3,_⟩:=List.getElem?_eq_some_iff.1 hd
      rw[hlen.2.2.2] at h3
      exact h3
     rw[run_wave (newG c) s (by omega)] at ha
     rw[run_wave (newG c) s hj] at hd
     injection ha with ha
     injection hd with hd
     rw[←ha,←hd]
     have hj2:=runN_ok hN s j (by show (0:Int)+j≤4000;omega)
     have e0:(newG c).now=0:=rfl
     exact pair_ok hj2.1 s (by rw[hj2.2.1,e0];omega)
    rw[if_neg (by simp),s_BusNew_eq c hl,Option.bind_some,newB_ok hc,i_BusRun_eq _ hN.sm hs.sm,Option.bind_some,er,hfb,Option.bind_some,if_neg (by simp),SameBus_self _ hT.p.sm,Option.bind_some,if_neg (by simp),right_eq hT.p hT.rep,Option.bind_some,if_neg (by simp),if_neg (by simp)]
    unfold p_w_FnTop__J6
    rw[hlen.2.2.2,if_neg (by simp)]
    refine top_L1 hS hs.sm hl hT _ (fun hv=>?_)
    have:=of_decide_eq_true hv
    omega
  ·have h2:scriptG c s=false:=by simpa using h
   rw[if_pos (by simp[h2])]
   exact hno n (fun hx=>h hx.1)
end Go.Proofs.YtciimjnpdmmfnaaGreat.Ev
