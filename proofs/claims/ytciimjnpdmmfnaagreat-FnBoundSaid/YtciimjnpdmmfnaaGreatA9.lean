/- A part of the proof of FnBound: see the text YtciimjnpdmmfnaaGreatLawFnBound for what is proved and its conditions. Conditions here: those in each line. -/
import Derived.Test.YtciimjnpdmmfnaaGreatA8
namespace Go.Proofs.YtciimjnpdmmfnaaGreat.Ev
open Go Go.Proofs
set_option linter.unusedVariables false
set_option linter.unusedSimpArgs false
theorem Ye1 {c:GL1Cur} (h:Yc c):So (Zpx c) fun r=>Yc r.2∧r.1.masters.length≤4:=by
 unfold Zpx
 refine (Z04 h).bind fun r1 ⟨h1,g1⟩=>?_
 have hl:=Xo g1
 refine (Y4 14 h1).bind fun r2 ⟨h2,_⟩=>?_
 refine So.ite (fun _=>?_) fun _=>So.ite (fun _=>?_) fun _=>So.ite (fun _=>?_) fun _=>So.ite (fun _=>?_) fun _=>So.ite (fun _=>?_) fun _=>So.ite (fun _=>?_) fun _=>So.ite (fun _=>?_) fun _=>?_
 ·refine (Zbd _ (by simp) h2).bind fun r3 ⟨h3,_⟩=>?_
  refine (Zua (by omega) (by omega)).bind fun a _=>?_
  refine (Zu1 _ _ _).bind fun y hy=>So.ret ⟨h3,?_⟩
  subst hy
  simp;omega
 ·refine (Zua (by omega) (by omega)).bind fun a _=>?_
  refine (Zu1 _ _ _).bind fun y hy=>So.ret ⟨h2,?_⟩
  subst hy
  simp;omega
 ·exact (Zbd _ (by simp) h2).bind fun r3 ⟨h3,_⟩=>So.ret ⟨h3,by simp;omega⟩
 ·exact (Zbd _ (by simp) h2).bind fun r3 ⟨h3,_⟩=>So.ret ⟨h3,by simp;omega⟩
 ·exact (Zbd _ (by simp) h2).bind fun r3 ⟨h3,_⟩=>So.ret ⟨h3,by simp;omega⟩
 ·exact So.ret ⟨h2,by simp⟩
 ·exact (Zbd _ (by simp) h2).bind fun r3 ⟨h3,_⟩=>So.ret ⟨h3,by simp;omega⟩
 ·exact So.ret ⟨h2,by dsimp only;omega⟩
theorem Z3z {x0:GL1Cur} (h:Yc x0):So (Ziw x0) fun r=>Yc r.2∧r.1.data_.length≤8:=by
 unfold Ziw
 refine (Zu2 2 h).bind fun r1 h1=>?_
 refine (Zbd _ (by simp) h1).bind fun r2 ⟨h2,m2⟩=>?_
 refine (Zbd _ (by simp) h2).bind fun r3 ⟨h3,m3⟩=>?_
 refine (Zu2 6 h3).bind fun r4 h4=>?_
 rw[Zcw,Option.bind_some]
 refine (Y4 128 h4).bind fun r5 ⟨h5,_⟩=>?_
 refine (Y4 128 h5).bind fun r6 ⟨h6,_⟩=>?_
 refine (Y4 64 h6).bind fun r7 ⟨h7,_⟩=>?_
 refine (Y4 40 h7).bind fun r8 ⟨h8,_⟩=>?_
 refine (Y4 512 h8).bind fun r9 ⟨h9,_⟩=>?_
 refine (Zbd _ (by simp) h9).bind fun r10 ⟨h10,_⟩=>?_
 have hb:0 < Yb r2.1:=by
  rw[Zge]
  simp only[List.mem_cons,List.not_mem_nil,or_false] at m2
  omega
 rw[Zgc (by omega),Option.bind_some,Ztu,Option.bind_some]
 have key:∀(g:GReq) (c:GL1Cur),Yc c→g.data_=[]→So (Zes x0 c g) fun r=>Yc r.2∧r.1.data_.length≤8:=by
  intro g c hc hg
  unfold Zes
  have key2:∀(m k:Nat) (c:GL1Cur) (g:GReq),Yc c→k≤8→8 - k < m→g.data_.length=k→So (Zbe x0 m c g (k:Int)) fun r=>Yc r.2∧r.1.data_.length≤8:=by
   intro m
   induction m with
   | zero=>intro k _ _ _ _ h;omega
   | succ m ih=>
    intro k c g hc hk hm hg
    have eL:Zbe x0 (m+1) c g (k:Int)=Zkt x0 (Zbe x0 m) c g (k:Int):=rfl
    rw[eL]
    unfold Zkt Zh5
    rw[Za0,Option.bind_some]
    have hbl:=Zdg g.burst
    by_cases hlt:(k:Int) < Yo g.burst
    ·rw[if_pos (by simpa using hlt)]
     refine So.ite (fun _=>?_) fun _=>So.ret ⟨hc,by dsimp only;omega⟩
     rw[Zc0,Option.bind_some,Option.bind_some]
     refine (Zbd _ (by simp) hc).bind fun r1 ⟨h1,_⟩=>?_
     refine (Y4 _ h1).bind fun r2 ⟨h2,_⟩=>?_
     refine (Ztt 8 (by decide) _ _ (by simp only[List.length_cons,List.length_nil];omega)).bind fun z hz=>?_
     rw[Y5 (by omega)]
     exact ih (k+1) _ _ h2 (by omega) (by omega) (by subst hz;simp[hg])
    ·rw[if_neg (by simpa using hlt),if_neg (by simp)]
     exact So.ret ⟨hc,by dsimp only;omega⟩
  have:=key2 FU 0 c g hc (by omega) (by have:=Wj;omega) (by simp[hg])
  simpa using this
 exact So.ite (fun _=>key _ _ h10 rfl) fun _=>key _ _ h10 rfl
theorem Z2o {c:GL1Cur} (h:Yc c):So (Zhr c) fun r=>Yc r.2:=by
 unfold Zhr
 exact (Y4 6 h).bind fun r1 ⟨h1,_⟩=>So.ret h1
theorem Ye6 {c:GL1Cur} (h:Yc c):So (Zi4 c) fun r=>Yc r.2∧r.1.data_.length≤9:=by
 unfold Zi4
 refine (Z3z h).bind fun r1 ⟨h1,g1⟩=>?_
 refine (Y4 12 h1).bind fun r2 ⟨h2,_⟩=>?_
 refine So.ite (fun _=>?_) fun _=>So.ite (fun _=>?_) fun _=>So.ite (fun _=>?_) fun _=>So.ite (fun _=>?_) fun _=>So.ite (fun _=>?_) fun _=>?_
 ·exact (Zbd _ (by simp) h2).bind fun r3 ⟨h3,_⟩=>So.ret ⟨h3,by simp;omega⟩
 ·exact So.ret ⟨h2,by simp;omega⟩
 ·exact (Z2o h2).bind fun r3 h3=>So.ret ⟨h3,by simp;omega⟩
 ·exact (Z2o h2).bind fun r3 h3=>So.ret ⟨h3,by simp;omega⟩
 ·exact (Ztt 8 (by decide) _ _ (by simp only[List.length_cons,List.length_nil];omega)).bind fun z hz=>So.ret ⟨h2,by subst hz;simp;omega⟩
 ·exact So.ret ⟨h2,by dsimp only;omega⟩
theorem Z1a {c:GL1Cur} (n:Int) (hn:0 < n∧n≤1000) (h:Yc c):So (Zdx c n) fun r=>Yc r.2∧r.1.length≤6∧∀x∈r.1,0≤x∧x < n:=by
 unfold Zdx
 refine (Y4 6 h).bind fun r1 ⟨h1,a1,b1,_⟩=>?_
 have b1:=b1 (by omega)
 have key:∀(m k:Nat) (c1:GL1Cur) (l:List Int),Yc c1→k < m→l.length+k≤6→(∀x∈l,0≤x∧x < n)→So (Zaf c n m c1 l (k:Int)) fun r=>Yc r.2∧r.1.length≤6∧∀x∈r.1,0≤x∧x < n:=by
  intro m
  induction m with
  | zero=>intro k _ _ _ h;omega
  | succ m ih=>
   intro k c1 l hc hm hl hx
   have eL:Zaf c n (m+1) c1 l (k:Int)=Zj7 c n (Zaf c n m) c1 l (k:Int):=rfl
   rw[eL]
   unfold Zj7
   cases k with
   | zero=>rw[if_neg (by simp)];exact So.ret ⟨hc,by omega,hx⟩
   | succ k=>
    rw[if_pos (by simp)]
    refine (Y4 n hc).bind fun r2 ⟨h2,a2,b2,_⟩=>?_
    refine (Ztt 8 (by decide) _ _ (by simp only[List.length_cons,List.length_nil];omega)).bind fun z hz=>?_
    rw[Yx (by omega) (by omega),show ((k+1:Nat):Int) - 1=(k:Int) by omega]
    subst hz
    refine ih k _ _ h2 (by omega) (by simp;omega) fun x hx2=>?_
    rw[List.mem_append,List.mem_singleton] at hx2
    rcases hx2 with hx2|rfl
    ·exact hx x hx2
    ·exact⟨a2,b2 (by omega)⟩
 have:=key FU r1.1.toNat r1.2 [] h1 (by have:=Wj;omega) (by simp;omega) (by simp)
 rwa [show ((r1.1.toNat:Nat):Int)=r1.1 by omega] at this
structure ScrP (s:GScript):Prop where
 posts:s.posts.length≤6
 reqs:∀p∈s.posts,p.req.data_.length≤9
 waits:s.waits.length≤6
 says:s.says.length≤6
 wmin:∀w∈s.waits,0≤w∧w < 5
theorem ScrP.sm {s:GScript} (h:ScrP s):s.sm:=⟨by have:=h.posts;omega,fun p hp=>by have:=h.reqs p hp;unfold GReq.sm;omega,by have:=h.waits;omega,by have:=h.says;omega,fun w hw=>by have:=h.wmin w hw;omega⟩
theorem ScrP.set {s:GScript} (h:ScrP s) (i:Nat) (p:GPost) (hp:p.req.data_.length≤9):ScrP {s with posts:=s.posts.set i p}:=
 ⟨by simpa using h.posts,fun q hq=>by
  rcases List.mem_or_eq_of_mem_set hq with hq|rfl
  ·exact h.reqs q hq
  ·exact hp,h.waits,h.says,h.wmin⟩
theorem Z7d {s:GScript} (hs:ScrP s) {x0:GL1Cur} {c:GConf} (k:GL1Cur→GScript→Int→Int→Option (GScript×GL1Cur×GConf)) {R:GScript×GL1Cur×GConf→Prop} {c1:GL1Cur} (v6 v7:Int) (b:Bool) (h1:Yc c1)
  (hk:b=true→∀c2 p v,Yc c2→p.req.data_.length≤9→So (k c2 {s with posts:=s.posts++[p]} v (subW v7 1)) R) (hb:b=false→R (s,c1,c)):So (Zas x0 c k c1 s v6 v7 b) R:=by
 unfold Zas
 refine So.ite (fun e=>?_) fun e=>So.ret (hb (by simpa using e))
 refine (Zbd _ (by simp) h1).bind fun r2 ⟨h2,_⟩=>?_
 refine (Y4 _ h2).bind fun r3 ⟨h3,_⟩=>?_
 refine (Z3z h3).bind fun r4 ⟨h4,g4⟩=>?_
 have:=hs.posts
 refine (Ztt 80 (by decide) _ _ (by simp only[List.length_cons,List.length_nil];omega)).bind fun z hz=>?_
 subst hz
 exact hk e _ _ _ h4 (by show r4.1.data_.length≤9;omega)
theorem Zqk {x0:GL1Cur} (c:GConf) (h:Yc x0):So (Zal x0 c) fun r=>ScrP r.1∧Yc r.2.1∧r.2.2=c:=by
 unfold Zal
 refine (Z1a 5 (by omega) h).bind fun r1 ⟨h1,l1,m1⟩=>?_
 refine (Z1a 5 (by omega) h1).bind fun r2 ⟨h2,l2,m2⟩=>?_
 refine (Y4 6 h2).bind fun r3 ⟨h3,a3,b3,_⟩=>?_
 have b3:=b3 (by omega)
 have key:∀(m k:Nat) (c1:GL1Cur) (s:GScript) (v:Int),Yc c1→k < m→s.posts.length+k≤6→ScrP s→So (Wm x0 c m c1 s v (k:Int)) fun r=>ScrP r.1∧Yc r.2.1∧r.2.2=c:=by
  intro m
  induction m with
  | zero=>intro k _ _ _ _ h;omega
  | succ m ih=>
   intro k c1 s v hc hm hl hs
   have eL:Wm x0 c (m+1) c1 s v (k:Int)=Zcn x0 c (Wm x0 c m) c1 s v (k:Int):=rfl
   rw[eL]
   unfold Zcn
   cases k with
   | zero=>rw[if_neg (by simp)];exact Z7d hs _ _ _ _ hc (fun e=>absurd e (by simp)) fun _=>⟨hs,hc,rfl⟩
   | succ k=>
    rw[if_pos (by simp)]
    refine Z7d hs _ _ _ _ hc (fun e c2 p v h2 hp=>?_) fun _=>⟨hs,hc,rfl⟩
    rw[Yx (by omega) (by omega),show ((k+1:Nat):Int) - 1=(k:Int) by omega]
    refine ih k c2 _ v h2 (by omega) (by simp;omega) ⟨by simp;omega,fun q hq=>?_,hs.waits,hs.says,hs.wmin⟩
    rw[List.mem_append,List.mem_singleton] at hq
    rcases hq with hq|rfl
    ·exact hs.reqs q hq
    ·exact hp
 have:=key FU r3.1.toNat r3.2 (GScript.mk [] r1.1 r2.1) 0 h3 (by have:=Wj;omega) (by simp;omega) ⟨by simp,fun p hp=>absurd hp (by simp),l1,l2,m1⟩
 rwa [show ((r3.1.toNat:Nat):Int)=r3.1 by omega] at this
theorem Yan (x0:GL1Cur) (c:GConf):∀(m:Nat) (c1:GL1Cur) (s:GScript) (v w:Int),Kd x0 c m c1 s v w=Wm x0 c m c1 s v w:=by
 intro m
 induction m with
 | zero=>intros;rfl
 | succ m ih=>
  intro c1 s v w
  have e:Kd x0 c m=Wm x0 c m:=by funext a b d e;exact ih a b d e
  show Zl7 x0 c (Kd x0 c m) c1 s v w=Zcn x0 c (Wm x0 c m) c1 s v w
  rw[e]
  rfl
theorem Z96 (x0:GL1Cur) (c:GConf):Zh8 x0 c=Zal x0 c:=by
 unfold Zh8 Zal
 simp only[Yan]
theorem Zuw {α:Type} (xs:List α):lenE xs xs=some ():=by
 unfold lenE
 simp
theorem Z3o {c:GConf} {s:GScript} {c1:GL1Cur} (hs:ScrP s) (h1:Yc c1) {R:GScript×GL1Cur×GConf→Prop} (f:GScript→GL1Cur→Option (GScript×GL1Cur×GConf)) (hf:∀s2 c2,ScrP s2→Yc c2→So (f s2 c2) R):
  So (if decide ((s.posts.length:Int)=0)=true then f s c1 else
   (Zl c1 (s.posts.length:Int)).bind fun r404=>
   (Zl r404.2 14).bind fun r501=>
   if decide (r501.1=0)=true then (
    (Yn r501.2 [(-1),0,99,4001]).bind fun r705=>
    (idx s.posts r404.1).bind fun a706=>
    (setO s.posts r404.1 {a706 with at_:=r705.1}).bind fun y708=>
    f {s with posts:=y708} r705.2)
   else (
    if decide (r501.1=1)=true then (
     (Zl r501.2 6).bind fun r904=>
     (idx s.posts r404.1).bind fun a906=>
     (setO s.posts r404.1 {a906 with who:=(subW r904.1 1)}).bind fun y908=>
     f {s with posts:=y908} r904.2)
    else (
     if decide (r501.1=2)=true then (
      (Zi4 r501.2).bind fun r1104=>
      (idx s.posts r404.1).bind fun a1105=>
      (setO s.posts r404.1 {a1105 with req:=r1104.1}).bind fun y1107=>
      f {s with posts:=y1107} r1104.2)
     else (
      f s r501.2)))) R:=by
 refine So.ite (fun _=>hf _ _ hs h1) fun h0=>?_
 have h0:¬((s.posts.length:Int)=0):=by simpa using h0
 refine (Y4 _ h1).bind fun r2 ⟨h2,a2,b2,_⟩=>?_
 have b2:=b2 (by omega)
 refine (Y4 14 h2).bind fun r3 ⟨h3,_⟩=>?_
 refine So.ite (fun _=>?_) fun _=>So.ite (fun _=>?_) fun _=>So.ite (fun _=>?_) fun _=>hf _ _ hs h3
 ·refine (Zbd _ (by simp) h3).bind fun r4 ⟨h4,_⟩=>?_
  refine (Zua a2 b2).bind fun a ha=>?_
  refine (Zu1 _ _ _).bind fun y hy=>?_
  subst hy
  exact hf _ _ (hs.set _ _ (hs.reqs a ha)) h4
 ·refine (Y4 6 h3).bind fun r4 ⟨h4,_⟩=>?_
  refine (Zua a2 b2).bind fun a ha=>?_
  refine (Zu1 _ _ _).bind fun y hy=>?_
  subst hy
  exact hf _ _ (hs.set _ _ (hs.reqs a ha)) h4
 ·refine (Ye6 h3).bind fun r4 ⟨h4,g4⟩=>?_
  refine (Zua a2 b2).bind fun a ha=>?_
  refine (Zu1 _ _ _).bind fun y hy=>?_
  subst hy
  exact hf _ _ (hs.set _ _ g4) h4
theorem Yeb {x0:GL1Cur} (c:GConf) (h:Yc x0):So (Ziy x0 c) fun r=>ScrP r.1∧Yc r.2.1∧r.2.2=c:=by
 unfold Ziy
 refine (Zqk c h).bind fun r1 ⟨g1,h1,e1⟩=>?_
 exact Z3o (c:=c) g1 h1 (fun s c2=>some (s,c2,c)) fun s2 c2 p q=>So.ret ⟨p,q,rfl⟩
theorem Ybo {x0:GL1Cur} (c:GConf) (h:Yc x0):So (Zgx x0 c) fun r=>ScrP r.1∧Yc r.2.1∧r.2.2=c:=by
 unfold Zgx
 have key:∀(s:GScript) (c1:GL1Cur),ScrP s→Yc c1→So (Zcx x0 c c1 c.masters s) fun r=>ScrP r.1∧Yc r.2.1∧r.2.2=c:=by
  intro s c1 hs hc
  unfold Zcx
  rw[Zuw]
  exact Z3o (c:=c) hs hc (fun s c2=>some (s,c2,c)) fun s2 c2 p q=>So.ret ⟨p,q,rfl⟩
 refine So.ite (fun _=>?_) fun _=>?_
 ·refine (Zqk _ h).bind fun r1 ⟨g1,h1,e1⟩=>?_
  exact key _ _ g1 h1
 ·rw[Z96]
  refine (Zqk c h).bind fun r1 ⟨g1,h1,e1⟩=>?_
  rw[e1,Zuw,Option.bind_some]
  exact key _ _ g1 h1
theorem Yb4 {x0:GL1Cur} (h:Yc x0):So (Zm6 x0) fun r=>r.1.masters.length≤4∧ScrP r.2.1∧Yc r.2.2:=by
 unfold Zm6
 refine (Z04 h).bind fun r1 ⟨h1,g1⟩=>?_
 have hl:=Xo g1
 refine (Zu2 16 h1).bind fun r2 h2=>?_
 have key:∀(c:GConf) (c1:GL1Cur),c.masters.length≤4→Yc c1→So (if decide (c.masters.length=0)=true then (
   (Ziy c1 {c with masters:=[]}).bind fun r403=>
   some (c,r403.1,r403.2.1))
  else (
   (Zgx c1 c).bind fun r403=>
   (lenE c.masters r403.2.2.masters).bind fun q4_1024=>
   some ({c with masters:=r403.2.2.masters},r403.1,r403.2.1))) fun r=>r.1.masters.length≤4∧ScrP r.2.1∧Yc r.2.2:=by
  intro c c1 hc h1
  refine So.ite (fun _=>?_) fun _=>?_
  ·exact (Yeb _ h1).bind fun r3 ⟨g3,h3,e3⟩=>So.ret ⟨hc,g3,h3⟩
  ·refine (Ybo c h1).bind fun r3 ⟨g3,h3,e3⟩=>?_
   rw[e3,Zuw,Option.bind_some]
   exact So.ret ⟨hc,g3,h3⟩
 refine So.ite (fun _=>?_) fun _=>?_
 ·exact (Ye1 h2).bind fun r3 ⟨h3,l3⟩=>key _ _ l3 h3
 ·exact key _ _ (by omega) h2
theorem new_so (x:List Int) (hl:x.length < 1048577):So (Zmk x) Yc:=Ydh x hl
theorem Z5o (x:List Int) (hl:x.length < 1048577):So (Zkb x) fun r=>r.1.masters.length≤4∧ScrP r.2.1∧(-1≤r.2.2∧r.2.2≤60):=by
 unfold Zkb
 refine (new_so x hl).bind fun c h=>?_
 refine (Yb4 h).bind fun r ⟨h1,h2,h3⟩=>?_
 refine (Y4 62 h3).bind fun r2 ⟨h4,a,b,_⟩=>?_
 have b:=b (by omega)
 rw[Yx (by omega) (by omega)]
 exact So.ret ⟨h1,h2,by dsimp only;omega⟩
theorem big_eq (x:List Int):Zzb x=some (decide ((x.length:Int) > 1048576)):=rfl
theorem u8_ok {y:Int} (h:(Lit.int .u8 y).wf=true):0≤y∧y≤255:=by
 simp[Lit.wf,IntKind.min,IntKind.max,IntKind.signed,IntKind.bits] at h
 omega
theorem Bool.not_ok {b:Bool} (h:¬b=true):b=false:=by simpa using h
def rdyG (x:GBeat):Bool:=!x.live||(decide (x.left≤0)&&(decide (x.resp=0)||x.second))
def Z18 (x:GBeat):Int:=if x.live=true∧x.left≤0 then x.resp else 0
def Yd (x:GBeat):Bool:=x.live&&rdyG x&&decide (x.resp≠2∧x.resp≠3)
theorem Zxj (b:GBus) (s:GScript):(Zb b s).2.1=rdyG b.data_∧(Zb b s).2.2=Z18 b.data_:=by
 unfold Zb rdyG Z18
 by_cases hd:b.data_.live=false
 ·rw[if_pos hd];simp[hd]
 ·have hd2:b.data_.live=true:=by simpa using hd
  rw[if_neg hd,hd2]
  by_cases hl:b.data_.left > 0
  ·rw[if_pos hl,if_neg (by omega)]
   simp;omega
  ·rw[if_neg hl,if_pos (show true=true∧b.data_.left≤0 from⟨rfl,by omega⟩)]
   have hl2:b.data_.left≤0:=by omega
   by_cases hs:b.data_.resp≠0∧b.data_.second=false
   ·rw[if_pos hs]
    simp[hs.1,hs.2]
   ·rw[if_neg hs]
    have:(decide (b.data_.resp=0)||b.data_.second)=true:=by
     by_cases h0:b.data_.resp=0
     ·simp[h0]
     ·have:¬b.data_.second=false:=fun h=>hs ⟨h0,h⟩
      simpa [h0] using this
    rw[this]
    simp only[hl2,decide_true,Bool.and_true,Bool.not_true,Bool.false_or]
    repeat' split
    all_goals exact⟨rfl,rfl⟩
theorem Ze4 (b:GBus) (s:GScript):Zq b s=if rdyG b.data_=true then
  ({(Wu (Zb (Zc b s) s).1 s).2 with now:=b.now+1},{Zk7 b with resp:=Z18 b.data_,got:=(Wu (Zb (Zc b s) s).1 s).1})
 else ({(Zb (Zc b s) s).1 with now:=b.now+1},{Zk7 b with ready:=false,resp:=Z18 b.data_}):=by
 unfold Zq
 have h:=Zxj (Zc b s) s
 have e:=Xs b s
 rw[e.2.2.2.2.2.2.1] at h
 rw[h.1,h.2]
theorem Wa (b:GBus) (x:GBeat):(Yj b x).log=b.log∧(Yj b x).splits=b.splits∧(Yj b x).holder=b.holder∧(Yj b x).held=b.held∧(Yj b x).data_=b.data_:=by
 unfold Yj;repeat' split
 all_goals exact⟨rfl,rfl,rfl,rfl,rfl⟩
theorem Z8l (b:GBus) (s:GScript):(Zb b s).1.log=if Yd b.data_=true then b.log++[Zlh {b with data_:=GBeat.z0} b.data_] else b.log:=by
 unfold Zb Yd rdyG
 by_cases hd:b.data_.live=false
 ·rw[if_pos hd];simp[hd]
 ·have hd2:b.data_.live=true:=by simpa using hd
  rw[if_neg hd,hd2]
  by_cases hl:b.data_.left > 0
  ·rw[if_pos hl]
   have:decide (b.data_.left≤0)=false:=decide_eq_false (by omega)
   simp[this]
  ·rw[if_neg hl]
   have hl2:decide (b.data_.left≤0)=true:=decide_eq_true (by omega)
   rw[hl2]
   by_cases hs:b.data_.resp≠0∧b.data_.second=false
   ·rw[if_pos hs]
    simp only[hs.1,hs.2,decide_false,Bool.or_self,Bool.and_false,Bool.not_true,Bool.or_false,Bool.false_and,if_false,Bool.false_eq_true]
    split
    ·exact (Wa _ _).1
    ·rfl
   ·rw[if_neg hs]
    have:(decide (b.data_.resp=0)||b.data_.second)=true:=by
     by_cases h0:b.data_.resp=0
     ·simp[h0]
     ·have:¬b.data_.second=false:=fun h=>hs ⟨h0,h⟩
      simpa [h0] using this
    rw[this]
    by_cases h2:b.data_.resp=2
    ·rw[if_pos h2,if_neg (by simp[h2])]
     exact (Wa _ _).1
    ·rw[if_neg h2]
     by_cases h3:b.data_.resp=3
     ·rw[if_pos h3,if_neg (by simp[h3])]
      exact (Wa _ _).1
     ·rw[if_neg h3,if_pos (by simp[h2,h3])]
      rfl
structure Readied (b:GBus) (r:Int×GBus):Prop where
 splits:r.2.splits=b.splits
 got:r.1=-1∨(Za b.conf r.1=true∧atI b.splits r.1=0∧(r.2.holder=r.1∨r.2.holder=-1))
 some:r.1=-1∨(atI b.m r.1).queue≠[]
 held:r.2.holder=-1∨r.2.held < b.conf.lockMost
theorem Z8x (b:GBus):(Zr b).splits=b.splits∧(Zr b).conf=b.conf∧((Zr b).holder=-1∨((Zr b).holder=b.holder∧(Zr b).held=b.held∧b.held≠b.conf.lockMost)):=by
 unfold Zr
 split
 ·exact⟨rfl,rfl,.inl rfl⟩
 ·rename_i h
  refine⟨rfl,rfl,?_⟩
  by_cases h1:b.holder=-1
  ·exact .inl h1
  ·exact .inr ⟨rfl,rfl,fun h2=>h ⟨h1,h2⟩⟩
theorem Yab (b:GBus) (s:GScript):(Z1 b s).held=b.held:=by
 unfold Z1;split<;>rfl
theorem Z9y {n:Int} {b:GBus} (h:BusI n b) (hh:b.holder=-1∨b.held < b.conf.lockMost):Readied b (Zh b):=by
 have hp:=Zdh h
 have hlm:=Xe h.conf
 unfold Zh
 split
 ·rename_i hx
  exact⟨hp.splits,.inl rfl,.inl rfl,by rw[hp.holder,hp.held];exact hh⟩
 ·rename_i hx
  rcases hp.who with h1|⟨h1,h2,h3⟩
  ·exact absurd (show (Zu b).1 < 0 by rw[h1];decide) hx
  ·have hw:=Zm2 h2
   have hq:(atI b.m (Zu b).1).queue≠[]:=by
    intro hq
    have:=(h.mst _ h1).right.none hq
    have h5:=hw.1
    unfold Ze at h5
    rw[if_pos hq] at h5
    omega
   refine⟨hp.splits,.inr ⟨h1,hw.2.1,?_⟩,.inr hq,?_⟩
   ·show (if _ then (Zu b).1 else (Zu b).2.2.holder)=_∨(if _ then (Zu b).1 else (Zu b).2.2.holder)=-1
    split
    ·exact .inl rfl
    ·rw[hp.holder];exact hw.2.2.symm
   ·show (if _ then (Zu b).1 else (Zu b).2.2.holder)=_∨(if _ then 0 else (Zu b).2.2.held) < _
    split
    ·exact .inr (by omega)
    ·rw[hp.holder,hp.held];exact hh
theorem Z8w {n:Int} {b:GBus} (h:BusI n b) (s:GScript) (hd:b.data_=GBeat.z0):Readied b (Wu b s):=by
 have h1:=Zsr h
 have e1:=Zdv b
 have m1:=Z8x b
 have h2:=Zsq h1 s (by rw[e1.1];exact hd)
 have e2:=J3 (Zr b) s
 have hlm:=Xe h.conf
 have hb:(Z1 (Zr b) s).holder=-1∨(Z1 (Zr b) s).held < (Z1 (Zr b) s).conf.lockMost:=by
  rw[e2.2.2.2.2.2.2.1,Yab,e2.2.1,m1.2.1]
  rcases m1.2.2 with h3|⟨h3,h4,h5⟩
  ·exact .inl h3
  ·by_cases hz:b.holder=-1
   ·exact .inl (by rw[h3,hz])
   ·have:=(Zb8 h hz).2.2.2
    exact .inr (by rw[h4];omega)
 have h3:=Z9y h2.1 hb
 unfold Wu
 have hbm:∀i,Za b.conf i=true→(atI (Zr b).m i).queue=(atI b.m i).queue:=by
  intro i hi
  unfold Zr
  split
  ·rename_i hx
   have hw:=(Zb8 h hx.1).1
   show (atI (b.m.set b.holder.toNat {atI b.m b.holder with broken:=true}) i).queue=_
   rw[h.at_m hw _ hi]
   split
   ·rename_i e;rw[e]
   ·rfl
  ·rfl
 refine⟨by rw[h3.splits,e2.2.2.2.2.2.1,m1.1],?_,?_,?_⟩
 ·have:=h3.got
  rw[e2.2.1,m1.2.1,e2.2.2.2.2.2.1,m1.1] at this
  exact this
 ·have h4:=h3.got
  have h5:=h3.some
  rw[e2.2.1,m1.2.1] at h4
  rcases h4 with h4|h4
  ·exact .inl h4
  ·rcases h5 with h5|h5
   ·exact .inl h5
   ·refine .inr ?_
    rw[e2.2.2.2.2.1,hbm _ h4.1] at h5
    exact h5
 ·have:=h3.held
  rw[e2.2.1,m1.2.1] at this
  exact this
theorem Zoh {b:GBus} (h:BusP b) (s:GScript):BusI (Zc b s).now (Zc b s):=by
 have:=Zzi h s
 rw[(Xs b s).1];exact this
theorem Z2f {b:GBus} (h:BusP b) (s:GScript):BusI (b.now+1) (Zb (Zc b s) s).1∧(rdyG b.data_=true→(Zb (Zc b s) s).1.data_=GBeat.z0):=by
 have e:=Xs b s
 have hn:=h.now
 have h1:=Zp8 s (by rw[e.1];omega) (Zoh h s)
 rw[e.1] at h1
 have h2:=Zxj (Zc b s) s
 rw[e.2.2.2.2.2.2.1] at h2
 rw[h2.1] at h1
 exact h1
theorem Z2i {b:GBus} (h:BusP b) (s:GScript):(Zq b s).1.log=if Yd b.data_=true then b.log++[Zlh {Zc b s with data_:=GBeat.z0} b.data_] else b.log:=by
 have hf:=Z2f h s
 have e:=Xs b s
 have hl:(Zb (Zc b s) s).1.log=if Yd b.data_=true then b.log++[Zlh {Zc b s with data_:=GBeat.z0} b.data_] else b.log:=by
  rw[Z8l,e.2.2.2.2.2.2.1]
  split
  ·exact congrArg (·++[Zlh {Zc b s with data_:=GBeat.z0} b.data_]) e.2.2.2.1
  ·exact e.2.2.2.1
 rw[Ze4,←hl]
 by_cases hr:rdyG b.data_=true
 ·rw[if_pos hr]
  exact (Z26 hf.1 s (hf.2 hr)).2.2.2.2.2.1
 ·rw[if_neg hr]
theorem Yer (m:GMst) (r:GReq):∃l,Wo m r={m with queue:=m.queue++l}:=by
 unfold Wo
 split
 ·exact⟨[r],rfl⟩
 ·exact⟨[],by simp⟩
theorem Z5u {n:Int} {b:GBus} (h:BusI n b) (ps:List GPost) {i:Int} (hi:Za b.conf i=true):∃l,atI (Z2 b ps).m i={atI b.m i with queue:=(atI b.m i).queue++l}:=by
 induction ps generalizing b with
 | nil=>exact⟨[],by show atI b.m i=_;simp⟩
 | cons p ps ih=>
  have hc:=(Zo6 b p).1
  obtain⟨l,e⟩:=ih (Zsn h (p:=p)) (by rw[hc];exact hi)
  have e:atI (Z2 b (p::ps)).m i={atI (Xk b p).m i with queue:=(atI (Xk b p).m i).queue++l}:=e
  rw[e]
  unfold Xk
  split
  ·rename_i hw
   show ∃l2,{atI (b.m.set p.who.toNat (Wo (atI b.m p.who) p.req)) i with queue:=(atI (b.m.set p.who.toNat (Wo (atI b.m p.who) p.req)) i).queue++l}=_
   rw[h.at_m hw _ hi]
   split
   ·rename_i e2
    subst e2
    obtain⟨l2,e3⟩:=Yer (atI b.m p.who) p.req
    rw[e3]
    exact⟨l2++l,by simp⟩
   ·exact⟨l,rfl⟩
  ·exact⟨l,rfl⟩
theorem Z3x {b:GBus} (h:BusP b) (s:GScript) {i:Int} (hi:Za b.conf i=true):∃l,atI (Zc b s).m i={atI b.m i with queue:=(atI b.m i).queue++l}:=by
 have h1:=Zus (Z7 (Z2 b (Xq s b.now)))
 unfold Zc
 rw[h1.2.2.2.2.2.1]
 exact Z5u h.i _ hi
theorem Yf7 {α:Type} [Inhabited α] {xs ys:List α} (h:xs≠[]):atI (xs++ys) 0=atI xs 0:=by
 cases xs with
 | nil=>exact absurd rfl h
 | cons x xs=>rfl
theorem Ydy {m:GMst} (l:List GReq) (h:m.queue≠[]) (k:Int):Ze {m with queue:=m.queue++l}=Ze m∧Ya {m with queue:=m.queue++l} k=Ya m k∧atI (m.queue++l) 0=atI m.queue 0:=by
 have e:=Yf7 (ys:=l) h
 have e1:Ze {m with queue:=m.queue++l}=Ze m:=by
  unfold Ze
  dsimp only
  rw[e,if_neg h,if_neg (by simp[h])]
 refine⟨e1,?_,e⟩
 unfold Ya
 rw[e1]
 dsimp only
 rw[e]
theorem Ygg {n:Int} {b:GBus} (h:BusI n b) (hd:b.data_.live=true):(atI b.m b.data_.who).queue≠[]:=by
 have hw:=Xd h hd
 have hf:=h.fly _ hw
 have hr:=(h.mst _ hw).right
 intro hq
 have:=hr.none hq
 rw[this.1,this.2.1] at hf
 unfold flyG at hf
 rw[if_pos (show b.data_.live=true∧b.data_.who=b.data_.who from⟨hd,rfl⟩)] at hf
 split at hf<;>omega
theorem Yco {n:Nat} (hn:n < 4611686018427387904) (q:Nat→Bool) {fin:Option Bool} {B:(Int→Option Bool)→Int→Option Bool} {L:Nat→Int→Option Bool} (hL:∀m i,L (m+1) i=B (L m) i)
  (hs:∀k,k < n→∀κ,B κ (k:Int)=if q k=true then κ (addW (k:Int) 1) else some false) (hf:∀κ,B κ (n:Int)=fin):L FU 0=if (List.range n).all q=true then fin else some false:=by
 have key:∀(m k:Nat),k≤n→n - k < m→L m (k:Int)=if (List.range' k (n - k)).all q=true then fin else some false:=by
  intro m
  induction m with
  | zero=>intro k _ h;omega
  | succ m ih=>
   intro k hk hm
   rw[hL]
   by_cases hc:k < n
   ·rw[hs k hc,Y5 (by omega),ih (k+1) (by omega) (by omega),show n - k=(n - (k+1))+1 by omega,List.range'_succ,List.all_cons]
    cases q k<;>rfl
   ·have:k=n:=by omega
    subst this
    rw[hf,Nat.sub_self]
    simp
 have:=key FU 0 (Nat.zero_le _) (by have:=Wj;omega)
 rw[List.range_eq_range']
 simpa using this
instance:Inhabited GPost:=⟨⟨0,0,⟨false,0,0,0,false,[]⟩⟩⟩
def Zlz (c:GConf) (s:GScript) (k:Nat):Bool:=decide (0≤(atI s.posts (k:Int)).at_∧(atI s.posts (k:Int)).at_≤4000)&&(Za c (atI s.posts (k:Int)).who&&(reqG (atI s.posts (k:Int)).req&&(decide (k=0)||decide ((atI s.posts ((k - 1:Nat):Int)).at_≤(atI s.posts (k:Int)).at_))))
def Qy (c:GConf) (s:GScript):Bool:=(List.range s.posts.length).all (Zlz c s)&&(Z8 c&&(decide (s.posts.length≤20)&&(decide (s.waits.length≤20)&&decide (s.says.length≤20))))
theorem Zep (c:GConf) (s:GScript) (hl:c.masters.length < 1048577) (hs:s.sm):Zau c s=some (Qy c s):=by
 unfold Zau Qy
 have hp:=hs.posts
 rw[Yco (n:=s.posts.length) (by omega) (Zlz c s) (B:=Zch c s) (L:=Zd7 c s) (fin:=some (Z8 c&&(decide (s.posts.length≤20)&&(decide (s.waits.length≤20)&&decide (s.says.length≤20))))) (fun m i=>rfl) (fun k hk κ=>?_) fun κ=>?_]
 ·cases (List.range s.posts.length).all (Zlz c s)<;>simp
 ·unfold Zch Zlz
  rw[if_pos (by simpa using hk),Yi hk,Option.bind_some,Yk,Option.bind_some,Yk,Zno _ hl,Option.bind_some,Zw5 _ (hs.reqs _ (List.getElem_mem hk)),Option.bind_some,Yh hk]
  by_cases h1:0≤s.posts[k].at_∧s.posts[k].at_≤4000
  ·by_cases h2:Za c s.posts[k].who=true
   ·by_cases h3:reqG s.posts[k].req=true
    ·by_cases h4:k=0
     ·subst h4;simp[h1,h2,h3]
     ·have hk1:k - 1 < s.posts.length:=by omega
      rw[Yx (by omega) (by omega),show (k:Int) - 1=((k - 1:Nat):Int) by omega,Yi hk1,Option.bind_some,Yh hk1]
      have h5:(k:Int) > 0:=by omega
      by_cases h6:s.posts[k].at_ < s.posts[k - 1].at_
      ·have:¬s.posts[k - 1].at_≤s.posts[k].at_:=by omega
       simp[h1,h2,h3,h4,h6,this]
       try omega
      ·have:s.posts[k - 1].at_≤s.posts[k].at_:=by omega
       simp[h1,h2,h3,h4,h6,this]
    ·simp[h1,h2,h3]
   ·simp[h1,h2]
  ·simp[h1]
 ·unfold Zch
  rw[if_neg (by simp),K6 c hl,Option.bind_some]
  have e:∀n:Nat,decide ((n:Int)≤20)=decide (n≤20):=fun n=>by congr 1;exact propext ⟨fun h=>by omega,fun h=>by omega⟩
  rw[e,e,e]
  cases Z8 c<;>by_cases h1:s.posts.length≤20<;>by_cases h2:s.waits.length≤20<;>simp[h1,h2]
theorem Z1h (c:GConf) (s:GScript) (hl:c.masters.length < 1048577) (hs:s.sm):Zj0 c s=some (Qy c s):=by
 unfold Zj0 Qy Ku
 have hp:=hs.posts
 have e:∀n:Nat,decide ((n:Int) > 20)=!decide (n≤20):=fun n=>by
  by_cases h:n≤20
  ·simp[h];omega
  ·simp[h];omega
 rw[Zac c hl,Option.bind_some,Yco (n:=s.posts.length) (by omega) (Zlz c s) (B:=Zco c s) (L:=Zdn c s) (fin:=some true) (fun m i=>rfl) (fun k hk κ=>?_) fun κ=>?_,e,e,e]
 ·cases Z8 c<;>cases (List.range s.posts.length).all (Zlz c s)<;>by_cases h1:s.posts.length≤20<;>by_cases h2:s.waits.length≤20<;>by_cases h3:s.says.length≤20<;>simp[h1,h2,h3]
 ·unfold Zco Zlz
  rw[if_pos (by simpa using hk),Yi hk,Option.bind_some,Ym,Option.bind_some,Wv c _ hl,Option.bind_some,Zrt _ (hs.reqs _ (List.getElem_mem hk)),Option.bind_some,Yh hk]
  by_cases h1:0≤s.posts[k].at_∧s.posts[k].at_≤4000
  ·by_cases h4:k=0
   ·subst h4
    by_cases h2:Za c s.posts[0].who=true
    ·by_cases h3:reqG s.posts[0].req=true
     ·simp[h1,h2,h3]
     ·simp[h1,h2,h3]
    ·simp[h1,h2]
   ·have hk1:k - 1 < s.posts.length:=by omega
    rw[Yx (by omega) (by omega),show (k:Int) - 1=((k - 1:Nat):Int) by omega,Yi hk1,Option.bind_some,Yh hk1]
    by_cases h6:s.posts[k].at_ < s.posts[k - 1].at_
    ·have:¬s.posts[k - 1].at_≤s.posts[k].at_:=by omega
     have h5:0 < k:=by omega
     simp[h1,h4,h6,this,h5]
    ·have:s.posts[k - 1].at_≤s.posts[k].at_:=by omega
     have h5:0 < k:=by omega
     by_cases h2:Za c s.posts[k].who=true
     ·by_cases h3:reqG s.posts[k].req=true
      ·simp[h1,h2,h3,h4,h6,this,h5]
      ·simp[h1,h2,h3,h4,h6,this,h5]
     ·simp[h1,h2,h4,h6,this,h5]
  ·simp[h1]
 ·unfold Zco
  rw[if_neg (by simp)]
def Z2b (c:GConf) (s:GScript) (n:Int):GBus×Bool:=if Qy c s=true∧0≤n∧n≤4000 then ((runG (newG c) s n).1,true) else (GBus.z0,false)
theorem Zlc {c:GConf} {s:GScript} (h:Qy c s=true):Z8 c=true:=by
 simp only[Qy,Bool.and_eq_true] at h
 exact h.2.1
theorem Yao (c:GConf) (s:GScript) (n:Int) (hl:c.masters.length < 1048577) (hs:s.sm):Zsc c s n=some (Z2b c s n):=by
 unfold Zsc Z2b Zgj
 rw[Z6i c hl,Option.bind_some,Z1h c s hl hs,Option.bind_some,Ym,Option.bind_some]
 unfold Z8p
 by_cases h0:Qy c s=true
 ·have hc:=Zlc h0
  rw[if_pos hc,h0]
  by_cases h1:0≤n∧n≤4000
  ·rw[Z6h n (Zxg hc).sm hs]
   simp[h1]
  ·rw[if_neg (fun hx:true=true∧0≤n∧n≤4000=>h1 hx.2)]
   simp[h1]
 ·have h0:Qy c s=false:=Bool.not_ok h0
  rw[h0]
  split<;>simp
theorem Yda {c:GConf} {s:GScript} {n:Nat} (h:Qy c s=true) (hn:n≤4000):Z2b c s n=((runN (newG c) s n).1,true):=by
 have hc:=Zlc h
 unfold Z2b
 rw[if_pos ⟨h,by omega,by omega⟩]
 have:runG (newG c) s n=runN (newG c) s n:=by
  unfold runG
  rw[if_pos ⟨(Zxg hc).ok,by omega,by show (n:Int)≤4000 - 0;omega⟩,Int.toNat_natCast]
 rw[this]
theorem Z7n {m m':GMst} (h:m'.queue=m.queue) {k:Int}:Ya m' k=Ya m k:=by
 unfold Ya Ze;rw[h]
theorem Zw8 {b:GBus} (h:BusP b) (s:GScript) (hr:rdyG b.data_=false):b.data_.live=true∧(Zq b s).1.data_.live=true∧(Zq b s).1.data_.who=b.data_.who∧(Zq b s).1.data_.beat=b.data_.beat∧(Zq b s).1.data_.resp=b.data_.resp∧
  ((b.data_.left > 0∧(Zq b s).1.addr=b.addr∧(Zq b s).1.data_.left=b.data_.left - 1∧(Zq b s).1.data_.second=b.data_.second)∨
   (b.data_.left≤0∧b.data_.resp≠0∧b.data_.second=false∧(Zq b s).1.addr.live=false∧(Zq b s).1.data_.left=b.data_.left∧(Zq b s).1.data_.second=true)):=by
 have hlive:b.data_.live=true:=by
  unfold rdyG at hr
  simp only[Bool.or_eq_false_iff] at hr
  simpa using hr.1
 have e:=Xs b s
 have ed:=e.2.2.2.2.2.2.1
 have ea:=e.2.2.2.2.2.1
 rw[Ze4,if_neg (by simp[hr])]
 refine⟨hlive,?_⟩
 show (Zb (Zc b s) s).1.data_.live=true∧(Zb (Zc b s) s).1.data_.who=_∧(Zb (Zc b s) s).1.data_.beat=_∧(Zb (Zc b s) s).1.data_.resp=_∧
  ((b.data_.left > 0∧(Zb (Zc b s) s).1.addr=b.addr∧(Zb (Zc b s) s).1.data_.left=_∧(Zb (Zc b s) s).1.data_.second=_)∨
   (b.data_.left≤0∧b.data_.resp≠0∧b.data_.second=false∧(Zb (Zc b s) s).1.addr.live=false∧(Zb (Zc b s) s).1.data_.left=_∧(Zb (Zc b s) s).1.data_.second=true))
 unfold Zb
 rw[if_neg (by rw[ed,hlive];simp)]
 by_cases hl:b.data_.left > 0
 ·rw[if_pos (by rw[ed];exact hl)]
  dsimp only
  rw[ed,ea]
  exact⟨hlive,rfl,rfl,rfl,.inl ⟨hl,rfl,rfl,rfl⟩⟩
 ·have hs:b.data_.resp≠0∧b.data_.second=false:=by
   unfold rdyG at hr
   rw[decide_eq_true (show b.data_.left≤0 by omega)] at hr
   simp only[Bool.or_eq_false_iff,Bool.true_and,decide_eq_false_iff_not] at hr
   exact hr.2
  rw[if_neg (by rw[ed];exact hl),if_pos (by rw[ed];exact hs)]
  by_cases ha:b.addr.live=true
  ·rw[if_pos (by rw[ea];exact ha)]
   have hrv:=Wa {Zc b s with data_:={(Zc b s).data_ with second:=true}} (Zc b s).addr
   dsimp only
   rw[hrv.2.2.2.2]
   dsimp only
   rw[ed]
   exact⟨hlive,rfl,rfl,rfl,.inr ⟨by omega,hs.1,hs.2,rfl,rfl,rfl⟩⟩
  ·rw[if_neg (by rw[ea];exact ha)]
   dsimp only
   rw[ed,ea]
   exact⟨hlive,rfl,rfl,rfl,.inr ⟨by omega,hs.1,hs.2,by simpa using ha,rfl,rfl⟩⟩
def Zxo (m:GMst):List GReq×Int:=if m.done+1=Ze m then (m.queue.tail,0) else (m.queue,m.done+1)
theorem Z0e (c:GBus) (x:GBeat):(Yj c x).m=c.m.set x.who.toNat (Q7 (atI c.m x.who)):=by
 unfold Yj;repeat' split
 all_goals rfl
theorem Zrd (b:GBus) (s:GScript):(Z1 b s).m=b.m:=by
 unfold Z1;split<;>rfl
theorem Zld (c:GBus) (x:GBeat):(Yj c x).addr=c.addr:=by
 unfold Yj;repeat' split
 all_goals rfl
theorem Z0f {x:GBeat} (hr:rdyG x=true) (hd:x.live=true):¬x.left > 0∧¬(x.resp≠0∧x.second=false):=by
 unfold rdyG at hr
 simp only[hd,Bool.not_true,Bool.false_or,Bool.and_eq_true,decide_eq_true_eq,Bool.or_eq_true] at hr
 refine⟨by omega,fun h=>?_⟩
 rcases hr.2 with h1|h1
 ·exact h.1 h1
 ·rw[h.2] at h1;cases h1
theorem Ydd {b:GBus} (s:GScript) (hr:rdyG b.data_=true):(Zb b s).1.addr=b.addr:=by
 unfold Zb
 by_cases hd:b.data_.live=false
 ·rw[if_pos hd]
 ·have hp:=Z0f hr (by simpa using hd)
  rw[if_neg hd,if_neg hp.1,if_neg hp.2]
  by_cases h3:b.data_.resp=2
  ·rw[if_pos h3];exact Zld _ _
  ·rw[if_neg h3]
   by_cases h4:b.data_.resp=3
   ·rw[if_pos h4];exact Zld _ _
   ·rw[if_neg h4];rfl
theorem Ygx {n:Int} {b:GBus} (h:BusI n b) (hl:b.addr.live=true):(atI b.m b.addr.who).queue≠[]:=by
 have hb:=Ziv h hl
 exact Zrb hb.1 hb.2
def Zlp (r:GReq):GMst:=GMst.mk [r] 0 0 0 false false
theorem Z5x (r:GReq):Ze (Zlp r)=Yo r.burst:=by
 unfold Ze
 rw[if_neg (by simp[Zlp])]
 rfl
structure ScrG (c:GConf) (s:GScript):Prop where
 sorted:s.posts.Pairwise fun x y=>x.at_≤y.at_
 posts:∀p∈s.posts,(0≤p.at_∧p.at_≤4000)∧Za c p.who=true∧reqG p.req=true
 len:s.posts.length≤20
theorem Z4m {c:GConf} {s:GScript} (h:Qy c s=true):ScrG c s:=by
 unfold Qy at h
 simp only[Bool.and_eq_true,decide_eq_true_eq,List.all_eq_true,List.mem_range] at h
 obtain⟨h1,h2,h3,h4,h5⟩:=h
 have hk:∀(k:Nat) (hk:k < s.posts.length),((0≤s.posts[k].at_∧s.posts[k].at_≤4000)∧Za c s.posts[k].who=true∧reqG s.posts[k].req=true)∧(∀h0:k≠0,(s.posts[k - 1]'(by omega)).at_≤s.posts[k].at_):=by
  intro k hk
  have:=h1 k hk
  unfold Zlz at this
  simp only[Bool.and_eq_true,decide_eq_true_eq,Bool.or_eq_true] at this
  rw[Yh hk] at this
  refine⟨⟨this.1,this.2.1,this.2.2.1⟩,fun h0=>?_⟩
  rcases this.2.2.2 with h6|h6
  ·exact absurd h6 h0
  ·rw[Yh (by omega)] at h6
   exact h6
 refine⟨?_,?_,h3⟩
 ·rw[List.pairwise_iff_getElem]
  have key:∀(d i:Nat) (hj:i+d+1 < s.posts.length),(s.posts[i]'(by omega)).at_≤(s.posts[i+d+1]'hj).at_:=by
   intro d
   induction d with
   | zero=>
    intro i hj
    exact (hk (i+1) hj).2 (by omega)
   | succ d ih=>
    intro i hj
    have h6:=ih i (by omega)
    have h7:=(hk (i+(d+1)+1) hj).2 (by omega)
    exact Int.le_trans h6 h7
  intro i j hi hj hij
  have:=key (j - i - 1) i (by omega)
  have e:i+(j - i - 1)+1=j:=by omega
  simp only[e] at this
  exact this
 ·intro p hp
  obtain⟨k,h6,rfl⟩:=List.getElem_of_mem hp
  exact (hk k h6).1
def qt (m:GMst):List GReq×Int×Int×Bool:=(m.queue,m.done,m.tries,m.parted)
def finT (d:GBeat) (m:GMst):List GReq×Int×Int×Bool:=
 if Yd d=true then ((Zxo m).1,(Zxo m).2,0,false)
 else if (d.live&&rdyG d)=true∧d.resp=2 then (m.queue,m.done,m.tries+1,m.parted)
 else if (d.live&&rdyG d)=true∧d.resp=3 then (m.queue,m.done,m.tries,true)
 else qt m
theorem Z7l (m:GMst):qt (Q7 m)=qt m:=by
 have h:=Ztd m
 unfold qt;rw[h.1,h.2.1,h.2.2.1,h.2.2.2.1]
theorem Ztk {n:Int} {b:GBus} (h:BusI n b) {w:Int} (hw:Za b.conf w=true) (x:GMst) {i:Int} (hi:Za b.conf i=true):qt (atI (b.m.set w.toNat x) i)=if w=i then qt x else qt (atI b.m i):=by
 rw[h.at_m hw _ hi]
 by_cases e:i=w
 ·rw[if_pos e,if_pos e.symm]
 ·rw[if_neg e,if_neg (fun h=>e h.symm)]
theorem Z0d {n:Int} {c:GBus} (h:BusI n c) {w:Int} (hw:Za c.conf w=true) (X:GMst) (d:GBus) (hd:d.m=c.m.set w.toNat X) (x:GBeat) (hx:x.who=w) {i:Int} (hi:Za c.conf i=true):qt (atI (Yj d x).m i)=if w=i then qt X else qt (atI c.m i):=by
 rw[Z0e,hd,hx,h.at_m hw X hw,if_pos rfl,List.set_set,Ztk h hw _ hi,Z7l]
theorem end_qt {m:GMst} (h:m.beat - m.done≥1):qt (endG m)=((Zxo m).1,(Zxo m).2,0,false):=by
 unfold endG Zxo
 rw[if_neg (by omega)]
 split<;>rfl
theorem Zuy {x:GBeat} (hl:¬x.left > 0) (h2:¬(x.resp≠0∧x.second=false)):rdyG x=true:=by
 unfold rdyG
 have:x.resp=0∨x.second=true:=by
  by_cases h5:x.resp=0
  ·exact .inl h5
  ·exact .inr (by simpa using fun h6=>h2 ⟨h5,h6⟩)
 rw[decide_eq_true (show x.left≤0 by omega)]
 rcases this with h5|h5<;>simp[h5]
theorem Zi0 {x:GBeat} (hd:x.live=true) (h:x.left > 0∨(x.resp≠0∧x.second=false)):rdyG x=false:=by
 unfold rdyG
 rcases h with h|h
 ·simp[hd,show ¬x.left≤0 by omega]
 ·simp[hd,h.1,h.2]
theorem Zom {d:GBeat} {m:GMst} (h:(d.live&&rdyG d)=false):finT d m=qt m:=by
 unfold finT
 have:Yd d=false:=by unfold Yd;rw[h];rfl
 rw[if_neg (by simp[this]),if_neg (by simp[h]),if_neg (by simp[h])]
theorem Z23 {n:Int} {c:GBus} (s:GScript) (h:BusI n c) {i:Int} (hi:Za c.conf i=true):qt (atI (Zb c s).1.m i)=if c.data_.who=i then finT c.data_ (atI c.m i) else qt (atI c.m i):=by
 have hno:(c.data_.live&&rdyG c.data_)=false→(if c.data_.who=i then finT c.data_ (atI c.m i) else qt (atI c.m i))=qt (atI c.m i):=fun hx=>by
  rw[Zom hx,Z4n]
 unfold Zb
 by_cases hd:c.data_.live=false
 ·rw[if_pos hd,hno (by simp[hd])]
 ·have hd2:c.data_.live=true:=by simpa using hd
  have hw:=Xd h hd2
  have hp:=Zkp h hd2
  rw[if_neg hd]
  by_cases hl:c.data_.left > 0
  ·rw[if_pos hl,hno (by simp[Zi0 hd2 (.inl hl)])]
  ·rw[if_neg hl]
   by_cases h2:c.data_.resp≠0∧c.data_.second=false
   ·rw[if_pos h2,hno (by simp[Zi0 hd2 (.inr h2)])]
    by_cases ha:c.addr.live=true
    ·rw[if_pos ha]
     show qt (atI (Yj {c with data_:={c.data_ with second:=true}} c.addr).m i)=_
     rw[Z0e,Ztk h (Qg h ha) _ hi,Z7l]
     split
     ·rename_i e;rw[←e]
     ·rfl
    ·rw[if_neg ha]
   ·have hr:=Zuy hl h2
    rw[if_neg h2]
    by_cases h3:c.data_.resp=2
    ·have hE:¬Yd c.data_=true:=by simp[Yd,h3]
     rw[if_pos h3,Z0d h hw {atI c.m c.data_.who with tries:=(atI c.m c.data_.who).tries+1} _ rfl _ rfl hi]
     by_cases e:c.data_.who=i
     ·rw[if_pos e,if_pos e]
      unfold finT
      rw[if_neg hE,if_pos ⟨by simp[hd2,hr],h3⟩,←e]
      rfl
     ·rw[if_neg e,if_neg e]
    ·rw[if_neg h3]
     by_cases h4:c.data_.resp=3
     ·have hE:¬Yd c.data_=true:=by simp[Yd,h4]
      rw[if_pos h4,Z0d h hw {atI c.m c.data_.who with parted:=true} _ rfl _ rfl hi]
      by_cases e:c.data_.who=i
      ·rw[if_pos e,if_pos e]
       unfold finT
       rw[if_neg hE,if_neg (fun hx=>h3 hx.2),if_pos ⟨by simp[hd2,hr],h4⟩,←e]
       rfl
      ·rw[if_neg e,if_neg e]
     ·have he:Yd c.data_=true:=by
       simp only[Yd,hd2,hr,decide_eq_true (show c.data_.resp≠2∧c.data_.resp≠3 from⟨h3,h4⟩)]
       rfl
      rw[if_neg h4]
      show qt (atI (c.m.set c.data_.who.toNat (endG (atI c.m c.data_.who))) i)=_
      rw[Ztk h hw _ hi]
      by_cases e:c.data_.who=i
      ·rw[if_pos e,if_pos e,end_qt hp]
       unfold finT
       rw[if_pos he,e]
      ·rw[if_neg e,if_neg e]
theorem Zrr {n:Int} {b:GBus} (h:BusI n b) {i:Int} (hi:Za b.conf i=true):qt (atI (Zr b).m i)=qt (atI b.m i):=by
 unfold Zr
 split
 ·rename_i hb
  show qt (atI (b.m.set b.holder.toNat {atI b.m b.holder with broken:=true}) i)=_
  rw[Ztk h (Zb8 h hb.1).1 _ hi]
  split
  ·rename_i e;rw[←e];rfl
  ·rfl
 ·rfl
theorem Zwj {n:Int} {b:GBus} (h:BusI n b) {i:Int} (hi:Za b.conf i=true):qt (atI (Zh b).2.m i)=qt (atI b.m i):=by
 have hp:=Zdh h
 unfold Zh
 split
 ·show qt (atI (Zu b).2.2.m i)=_
  rw[hp.m]
 ·rename_i hx
  rcases hp.who with h2|h2
  ·exact absurd (show (Zu b).1 < 0 by rw[h2];decide) hx
  ·show qt (atI ((Zu b).2.2.m.set (Zu b).1.toNat (Y6 (atI (Zu b).2.2.m (Zu b).1))) i)=_
   rw[hp.m,Ztk h h2.1 _ hi]
   have hs:=Zxf (atI b.m (Zu b).1)
   split
   ·rename_i e
    unfold qt;rw[hs.1,hs.2.1,hs.2.2.1,hs.2.2.2.1,e]
   ·rfl
theorem Ydl {n:Int} {b:GBus} (h:BusI n b) (s:GScript) (hd:b.data_=GBeat.z0) {i:Int} (hi:Za b.conf i=true):qt (atI (Wu b s).2.m i)=qt (atI b.m i):=by
 have h2:=(Zqa h s hd).2
 have e1:=Zdv b
 have e2:=J3 (Zr b) s
 unfold Wu
 rw[Zwj h2 (by rw[e2.2.1,e1.2.2.2.2.1];exact hi),Zrd,Zrr h hi]
theorem Zu4 {b:GBus} (hP:BusP b) (s:GScript) {i:Int} (hi:Za b.conf i=true):qt (atI (Zq b s).1.m i)=if b.data_.who=i then finT b.data_ (atI (Zc b s).m i) else qt (atI (Zc b s).m i):=by
 have e:=Xs b s
 have hf:=Z2f hP s
 have hfn:=Zbs (Zc b s) s
 have h1:=Z23 s (Zoh hP s) (i:=i) (by rw[e.2.1];exact hi)
 rw[e.2.2.2.2.2.2.1] at h1
 rw[←h1,Ze4]
 by_cases hr:rdyG b.data_=true
 ·rw[if_pos hr]
  exact Ydl hf.1 s (hf.2 hr) (by rw[hfn.2.2,e.2.1];exact hi)
 ·rw[if_neg hr]
theorem Zsb {b:GBus} (s:GScript):(Zb b s).1.splits=if (b.data_.live&&rdyG b.data_)=true∧b.data_.resp=3 then b.splits.set b.data_.who.toNat (Jr b.conf s b.picks) else b.splits:=by
 unfold Zb
 by_cases hd:b.data_.live=false
 ·rw[if_pos hd,if_neg (by simp[hd])]
 ·have hd2:b.data_.live=true:=by simpa using hd
  rw[if_neg hd]
  by_cases hl:b.data_.left > 0
  ·have hE:¬((b.data_.live&&rdyG b.data_)=true∧b.data_.resp=3):=by simp[Zi0 hd2 (.inl hl)]
   rw[if_pos hl,if_neg hE]
  ·rw[if_neg hl]
   by_cases h2:b.data_.resp≠0∧b.data_.second=false
   ·have hE:¬((b.data_.live&&rdyG b.data_)=true∧b.data_.resp=3):=by simp[Zi0 hd2 (.inr h2)]
    rw[if_pos h2,if_neg hE]
    by_cases ha:b.addr.live=true
    ·rw[if_pos ha];exact (Wa _ _).2.1
    ·rw[if_neg ha]
   ·have hr:=Zuy hl h2
    rw[if_neg h2]
    by_cases h3:b.data_.resp=2
    ·have hE:¬((b.data_.live&&rdyG b.data_)=true∧b.data_.resp=3):=by simp[h3]
     rw[if_pos h3,if_neg hE];exact (Wa _ _).2.1
    ·rw[if_neg h3]
     by_cases h4:b.data_.resp=3
     ·rw[if_pos h4,if_pos ⟨by simp[hd2,hr],h4⟩];exact (Wa _ _).2.1
     ·have hE:¬((b.data_.live&&rdyG b.data_)=true∧b.data_.resp=3):=fun hx=>h4 hx.2
      rw[if_neg h4,if_neg hE];rfl
theorem Zv9 (b:GBus) (s:GScript):(Zc b s).splits=b.splits.map fun n=>max (n - 1) 0:=by
 have h3:=Zar b (Xq s b.now)
 unfold Zc Qd
 split
 ·show (Z7 _).splits=_
  unfold Z7
  dsimp only
  rw[h3.2.2.2.2.2.2.2.2.2.1]
 ·show (Z7 _).splits=_
  unfold Z7
  dsimp only
  rw[h3.2.2.2.2.2.2.2.2.2.1]
theorem Zvk {b:GBus} (hP:BusP b) (s:GScript) {i:Int} (hi:Za b.conf i=true):atI (Zq b s).1.splits i=if ((b.data_.live&&rdyG b.data_)=true∧b.data_.resp=3)∧b.data_.who=i then Jr b.conf s b.picks else max (atI b.splits i - 1) 0:=by
 have e:=Xs b s
 have hf:=Z2f hP s
 have hbi:=Z3 hi
 have h1:=Zsb (b:=Zc b s) s
 rw[e.2.2.2.2.2.2.1,Zv9,e.2.1,e.2.2.1] at h1
 have h2:(Zq b s).1.splits=(Zb (Zc b s) s).1.splits:=by
  rw[Ze4]
  by_cases hr:rdyG b.data_=true
  ·rw[if_pos hr]
   exact (Z8w hf.1 s (hf.2 hr)).splits
  ·rw[if_neg hr]
 rw[h2,h1]
 by_cases hx:(b.data_.live&&rdyG b.data_)=true∧b.data_.resp=3
 ·have hd:b.data_.live=true:=by
   have:=hx.1
   rw[Bool.and_eq_true] at this
   exact this.1
  have hw:=Z3 (Xd hP.i hd)
  have hsl:=hP.sl
  rw[if_pos hx,Zqw _ hw.1 (by simp;omega) hbi.1]
  by_cases ew:i=b.data_.who
  ·rw[if_pos ew,if_pos ⟨hx,ew.symm⟩]
  ·rw[if_neg ew,if_neg (fun h=>ew h.2.symm),Zxs (fun n=>max (n - 1) 0) hbi.1 (by omega)]
 ·have hsl:=hP.sl
  rw[if_neg hx,if_neg (fun h=>hx h.1),Zxs (fun n=>max (n - 1) 0) hbi.1 (by omega)]
theorem Z8e {w:GWrr} {c:GConf} {wants:List Bool} (ha:0≤w.at_∧w.at_ < (wants.length:Int)):∀(r:Nat) (k:Int),1≤k→(Jt w c wants r k).2=-1→∀j:Nat,j < r→atI wants ((w.at_+(k+j)) % (wants.length:Int))=false:=by
 intro r
 induction r with
 | zero=>intro k _ _ j hj;omega
 | succ r ih=>
  intro k hk h j hj
  simp only[Jt] at h
  split at h
  ·have h0:0≤(w.at_+k) % (wants.length:Int):=Int.emod_nonneg _ (by omega)
   exact absurd h (by show (w.at_+k) % (wants.length:Int)≠-1;omega)
  ·rename_i hq
   cases j with
   | zero=>simpa using hq
   | succ j=>
    have:=ih (k+1) (by omega) h j (by omega)
    rw[show w.at_+(k+1+(j:Int))=w.at_+(k+((j+1:Nat):Int)) by omega] at this
    exact this
theorem Zx1 {w:GWrr} {c:GConf} {wants:List Bool} (h:wrrG w c=true) (hn:wants.length=c.masters.length) (hp:(X6 w c wants).2=-1) {i:Int} (h0:0≤i) (h1:i < (wants.length:Int)):atI wants i=false:=by
 obtain⟨hc,hm,-,-⟩:=Zab h
 have hb:=Z3 hm
 unfold X6 at hp
 split at hp
 ·exact absurd hp (by show w.at_≠-1;omega)
 ·have key:=Z8e (c:=c) (wants:=wants) (w:=w) ⟨hb.1,by omega⟩ wants.length 1 (by omega) hp
  by_cases hi:w.at_ < i
  ·have:=key (i - w.at_ - 1).toNat (by omega)
   rw[show w.at_+(1+(((i - w.at_ - 1).toNat:Nat):Int))=i by omega,Int.emod_eq_of_lt h0 h1] at this
   exact this
  ·have:=key (i+wants.length - w.at_ - 1).toNat (by omega)
   rw[show w.at_+(1+(((i+wants.length - w.at_ - 1).toNat:Nat):Int))=i+wants.length by omega,Int.add_emod_right,Int.emod_eq_of_lt h0 h1] at this
   exact this
section
variable {c:GConf} {b:GBus} {s:GScript}
theorem Z9i {d:GBeat} (h:Yd d=true):d.live=true∧rdyG d=true∧d.resp≠2∧d.resp≠3:=by
 simpa [Yd,Bool.and_eq_true,and_assoc] using h
end
def sumI:Nat→(Int→Int)→Int
 | 0,_=>0
 | n+1,f=>sumI n f+f (n:Int)
theorem Zso {f g:Int→Int}:∀{n:Nat},(∀i:Int,0≤i→i < (n:Int)→f i=g i)→sumI n f=sumI n g:=by
 intro n
 induction n with
 | zero=>intro _;rfl
 | succ n ih=>
  intro h
  simp only[sumI]
  rw[ih (fun i h0 h1=>h i h0 (by omega)),h n (by omega) (by omega)]
theorem Zpi {f g:Int→Int}:∀{n:Nat},(∀i:Int,0≤i→i < (n:Int)→f i≤g i)→sumI n f≤sumI n g:=by
 intro n
 induction n with
 | zero=>intro _;exact Int.le_refl _
 | succ n ih=>
  intro h
  simp only[sumI]
  have:=ih (fun i h0 h1=>h i h0 (by omega))
  have:=h n (by omega) (by omega)
  omega
theorem Yd1 {f g:Int→Int}:∀(n:Nat),sumI n (fun i=>f i+g i)=sumI n f+sumI n g:=by
 intro n
 induction n with
 | zero=>rfl
 | succ n ih=>simp only[sumI,ih];omega
theorem Zr2 (k:Int):∀(n:Nat),sumI n (fun _=>k)=n*k:=by
 intro n
 induction n with
 | zero=>simp[sumI]
 | succ n ih=>
  simp only[sumI,ih]
  rw[show ((n+1:Nat):Int)=(n:Int)+1 by omega,Int.add_mul]
  omega
theorem Zlw {f:Int→Int} {n:Nat} (h:∀i:Int,0≤i→i < (n:Int)→0≤f i):0≤sumI n f:=by
 have:=Zpi (f:=fun _=>0) (g:=f) h
 rw[Zr2] at this
 omega
theorem Zry {f g:Int→Int} {j:Int}:∀{n:Nat},0≤j→j < (n:Int)→(∀i:Int,0≤i→i < (n:Int)→i≠j→f i=g i)→sumI n g=sumI n f+(g j - f j):=by
 intro n
 induction n with
 | zero=>intro h0 h1;omega
 | succ n ih=>
  intro h0 h1 h
  simp only[sumI]
  by_cases e:j=(n:Int)
  ·subst e
   rw[Zso (f:=f) (g:=g) (fun i h2 h3=>h i h2 (by omega) (by omega))]
   omega
  ·rw[ih h0 (by omega) (fun i h2 h3 h4=>h i h2 (by omega) h4),h n (by omega) (by omega) (fun h=>e h.symm)]
   omega
def Zw (c:GConf):Int:=8*c.maxRetry+18
def Y2 (c:GConf):Int:=if Zo c=0 then 1 else (Zo c:Int)
def Za1 (c:GConf) (m:GMConf) (k:GBucket):Int:=if m.prio=true then 2*Y2 c*Zw c*k.tokens+max 0 (k.count - (m.every - 2*Y2 c*Zw c)) else 0
structure Plain (c:GConf):Prop where
 ok:Z8 c=true
 retry:0≤c.maxRetry∧c.maxRetry≤1
 wait:c.maxWait=0
 lock:1≤c.lockMost∧c.lockMost≤2
 turn:∀i,Za c i=true→Jv c i=1
theorem Plain.cost {c:GConf} (h:Plain c):Xh c=(c.maxRetry+2)*6∧Zz c=2*Xh c+c.lockMost∧Zw c≤Zz c:=by
 have h1:Xh c=(c.maxRetry+2)*6:=by
  unfold Xh
  rw[if_pos ⟨⟨h.retry.1,by have:=h.retry;omega⟩,by rw[h.wait];omega,by rw[h.wait];omega⟩,h.wait]
  omega
 have h2:Zz c=2*Xh c+c.lockMost:=by
  unfold Zz
  have hr:=h.retry
  have hl:=h.lock
  rw[if_neg (by omega),if_pos (by omega)]
 have hr:=h.retry
 have hl:=h.lock
 refine⟨h1,h2,?_⟩
 unfold Zw
 omega
theorem Plain.unit {c:GConf} (h:Plain c):(c.maxRetry=0∧Zw c=18)∨(c.maxRetry=1∧Zw c=26):=by
 have:=h.retry
 unfold Zw
 omega
theorem Zrj (c:GConf):1≤Y2 c∧(Zo c:Int)≤Y2 c:=by unfold Y2;split<;>omega
theorem Plain.every {c:GConf} (h:Plain c) {i:Int} (hi:Za c i=true) (hp:(atI c.masters i).prio=true):2*Y2 c*Zw c≤(atI c.masters i).every∧1≤(atI c.masters i).cap∧Zo c≠0:=by
 have hm:=Zbb h.ok hi
 unfold Xv at hm
 rw[hp] at hm
 simp only[Bool.and_eq_true,decide_eq_true_eq,if_true] at hm
 have hn:Zo c≠0:=by
  have:0 < c.masters.countP (·.prio):=List.countP_pos_iff.2 ⟨_,Zen (Z3 hi).1 (Z3 hi).2,hp⟩
  unfold Zo;omega
 refine⟨?_,hm.2.2.1,hn⟩
 have e:Y2 c=(Zo c:Int):=by unfold Y2;rw[if_neg hn]
 have h1:=hm.2.1.1
 have h2:=h.cost.2.2
 have h3:0≤(Zo c:Int):=by omega
 have h4:=Int.mul_le_mul_of_nonneg_left h2 h3
 rw[e]
 have e1:2*(Zo c:Int)*Zw c=2*((Zo c:Int)*Zw c):=by rw[Int.mul_assoc]
 have e2:2*Zz c*(Zo c:Int)=2*((Zo c:Int)*Zz c):=by rw[Int.mul_assoc,Int.mul_comm (Zz c)]
 rw[e2] at h1
 rw[e1]
 omega
theorem Znz {c:GConf} (h:Plain c):1≤2*Y2 c*Zw c:=by
 have h1:=(Zrj c).1
 have h2:1≤Zw c:=by have:=h.retry;unfold Zw;omega
 have:=Int.mul_le_mul h1 h2 (by omega) (by omega)
 rw[Int.mul_assoc]
 omega
theorem Z2h {c:GConf} (h:Plain c) {i:Int} (hi:Za c i=true) {k:GBucket} (hk:Z5 k (atI c.masters i)=true):0≤Za1 c (atI c.masters i) k∧Za1 c (atI c.masters i) k≤if (atI c.masters i).prio=true then 2*Y2 c*Zw c*((atI c.masters i).cap+1) else 0:=by
 unfold Za1
 by_cases hp:(atI c.masters i).prio=true
 ·have he:=h.every hi hp
  have hu:=Znz h
  unfold Z5 at hk
  rw[hp] at hk
  simp only[Bool.and_eq_true,decide_eq_true_eq,if_true] at hk
  rw[if_pos hp,if_pos hp]
  generalize 2*Y2 c*Zw c=U at*
  have a1:0≤U*k.tokens:=Int.mul_nonneg (by omega) hk.1.1
  have a2:U*k.tokens≤U*(atI c.masters i).cap:=Int.mul_le_mul_of_nonneg_left hk.1.2 (by omega)
  rw[Int.mul_add]
  omega
 ·rw[if_neg hp,if_neg hp];exact⟨Int.le_refl 0,Int.le_refl 0⟩
theorem Ybg {c:GConf} (h:Plain c) {i:Int} (hi:Za c i=true) {k:GBucket} (hk:Z5 k (atI c.masters i)=true):Za1 c (atI c.masters i) (Zgt k (atI c.masters i))≤Za1 c (atI c.masters i) k+(if (atI c.masters i).prio=true then 1 else 0):=by
 unfold Za1
 by_cases hp:(atI c.masters i).prio=true
 ·have he:=h.every hi hp
  have hu:=Znz h
  have hk2:=hk
  unfold Z5 at hk2
  rw[hp] at hk2
  simp only[Bool.and_eq_true,decide_eq_true_eq,if_true] at hk2
  simp only[if_pos hp]
  unfold Zgt
  rw[if_pos (by simp[hp,hk])]
  generalize 2*Y2 c*Zw c=U at*
  by_cases hc:k.count+1=(atI c.masters i).every
  ·rw[if_pos hc]
   dsimp only
   have a1:U*min (k.tokens+1) (atI c.masters i).cap≤U*(k.tokens+1):=Int.mul_le_mul_of_nonneg_left (by omega) (by omega)
   rw[Int.mul_add] at a1
   omega
  ·rw[if_neg hc]
   dsimp only
   omega
 ·simp only[if_neg hp];exact Int.le_refl 0
theorem Ya7 {c:GConf} {m:GMConf} {k:GBucket} (ht:(Zeb k m).2=true):Za1 c m (Zeb k m).1+2*Y2 c*Zw c=Za1 c m k:=by
 unfold Zeb at ht ⊢
 split at ht
 ·rename_i hx
  simp only[Bool.and_eq_true,decide_eq_true_eq] at hx
  rw[if_pos (by simp[hx.1.1,hx.1.2,hx.2])]
  unfold Za1
  rw[if_pos hx.1.1,if_pos hx.1.1]
  dsimp only
  rw[Int.mul_sub]
  omega
 ·cases ht
theorem Ya8 {c:GConf} (h:Plain c) (m:GMConf) (k:GBucket):Za1 c m (Zhp k m)≤Za1 c m k+2*Y2 c*Zw c:=by
 have hu:=Znz h
 unfold Zhp
 split
 ·rename_i hx
  simp only[Bool.and_eq_true] at hx
  unfold Za1
  rw[if_pos hx.1,if_pos hx.1]
  dsimp only
  generalize 2*Y2 c*Zw c=U at*
  have a1:U*min (k.tokens+1) m.cap≤U*(k.tokens+1):=Int.mul_le_mul_of_nonneg_left (by omega) (by omega)
  rw[Int.mul_add] at a1
  omega
 ·omega
theorem Yav (xs:List GMConf):sumI xs.length (fun i=>if (atI xs i).prio=true then 1 else 0)=(xs.countP (·.prio):Int):=by
 have key:∀(n:Nat),n≤xs.length→sumI n (fun i=>if (atI xs i).prio=true then 1 else 0)=((xs.take n).countP (·.prio):Int):=by
  intro n
  induction n with
  | zero=>intro _;simp[sumI]
  | succ n ih=>
   intro hn
   have hlt:n < xs.length:=by omega
   simp only[sumI]
   rw[ih (by omega),List.take_succ_eq_append_getElem hlt,List.countP_append,Yh hlt]
   by_cases hp:xs[n].prio=true<;>simp[hp]
 have:=key xs.length (Nat.le_refl _)
 rw[List.take_length] at this
 exact this
def Zc3 (M:Int) (a:GWrr) (w:Int):Int:=
 if a.at_=w then (if a.credit > 0 then 0 else M - 1) else (if a.at_ < w then w - a.at_ - 1 else M+w - a.at_ - 1)+(if a.credit > 0 then 1 else 0)
theorem Ycy {M w:Int} {a:GWrr} (ha:0≤a.at_∧a.at_ < M) (hw:0≤w∧w < M):0≤Zc3 M a w∧Zc3 M a w≤M - 1:=by
 unfold Zc3
 repeat' split
 all_goals omega
theorem Z0p {M x k:Int} (h0:0≤x) (h1:x < M) (h2:1≤k) (h3:k≤M):(x+k) % M=if x+k < M then x+k else x+k - M:=by
 split
 ·rename_i h;exact Int.emod_eq_of_lt (by omega) h
 ·rename_i h
  have:(x+k) % M=(x+k - M) % M:=by rw[Int.sub_emod_right]
  rw[this]
  exact Int.emod_eq_of_lt (by omega) (by omega)
theorem Zvy {w:GWrr} {c:GConf} {wants:List Bool}:∀(r:Nat) (k:Int),(Jt w c wants r k).2=-1∨∃k':Int,k≤k'∧k' < k+r∧Jt w c wants r k=(⟨(w.at_+k') % (wants.length:Int),Jv c ((w.at_+k') % (wants.length:Int)) - 1⟩,(w.at_+k') % (wants.length:Int))∧∀i:Int,k≤i→i < k'→atI wants ((w.at_+i) % (wants.length:Int))=false:=by
 intro r
 induction r with
 | zero=>intro k;exact .inl rfl
 | succ r ih=>
  intro k
  simp only[Jt]
  split
  ·exact .inr ⟨k,Int.le_refl _,by omega,rfl,fun i h1 h2=>by omega⟩
  ·rename_i hq
   rcases ih (k+1) with h|⟨k',h1,h2,h3,h4⟩
   ·exact .inl h
   ·refine .inr ⟨k',by omega,by omega,h3,fun i h5 h6=>?_⟩
    by_cases e:i=k
    ·subst e;simpa using hq
    ·exact h4 i (by omega) h6
theorem Z9l {a:GWrr} {c:GConf} {wants:List Bool} {w:Int} (hp:Plain c) (h:wrrG a c=true) (hn:wants.length=c.masters.length) (hw:Za c w=true) (hq:atI wants w=true):
  (X6 a c wants).2≠-1∧(X6 a c wants).1.at_=(X6 a c wants).2∧((X6 a c wants).2≠w→Zc3 (c.masters.length:Int) (X6 a c wants).1 w≤Zc3 (c.masters.length:Int) a w - 1):=by
 obtain⟨hc,hm,c0,c1⟩:=Zab h
 have hb:=Z3 hm
 have hbw:=Z3 hw
 rw[hp.turn _ hm] at c1
 have hne:(X6 a c wants).2≠-1:=by
  intro h1
  have:=Zx1 h hn h1 hbw.1 (by omega)
  rw[hq] at this;cases this
 refine⟨hne,?_⟩
 unfold X6 at hne ⊢
 split
 ·rename_i h3
  simp only[Bool.and_eq_true,decide_eq_true_eq] at h3
  refine⟨rfl,fun hx=>?_⟩
  have hx:a.at_≠w:=hx
  unfold Zc3
  dsimp only
  rw[if_neg hx,if_neg hx]
  repeat' split
  all_goals omega
 ·rename_i h3
  rw[if_neg h3] at hne
  rcases Zvy (w:=a) (c:=c) (wants:=wants) wants.length 1 with h4|⟨k',k1,k2,k3,k4⟩
  ·exact absurd h4 hne
  ·rw[k3]
   refine⟨rfl,fun hx=>?_⟩
   have hx:(a.at_+k') % (wants.length:Int)≠w:=hx
   have hpl:=Z0p (M:=(wants.length:Int)) hb.1 (by omega) k1 (by omega)
   have hmm:Za c ((a.at_+k') % (wants.length:Int))=true:=by
    simp only[Za,decide_eq_true_eq]
    rw[hpl];split<;>omega
   have ht:=hp.turn _ hmm
   by_cases e:a.at_=w
   ·have hcr:¬0 < a.credit:=fun h5=>h3 (by rw[e];simp[h5,hq])
    unfold Zc3
    dsimp only
    rw[if_pos e,if_neg hx,ht]
    rw[hpl] at hx ⊢
    repeat' split
    all_goals omega
   ·have hkw:¬((if a.at_ < w then w - a.at_ else (wants.length:Int)+w - a.at_) < k'):=fun h5=>by
     have h6:=k4 (if a.at_ < w then w - a.at_ else (wants.length:Int)+w - a.at_) (by split<;>omega) h5
     have h7:(a.at_+(if a.at_ < w then w - a.at_ else (wants.length:Int)+w - a.at_)) % (wants.length:Int)=w:=by
      rw[Z0p hb.1 (by omega) (by split<;>omega) (by split<;>omega)]
      repeat' split
      all_goals omega
     rw[h7,hq] at h6
     cases h6
    unfold Zc3
    dsimp only
    rw[if_neg e,if_neg hx,ht]
    rw[hpl] at hx ⊢
    split at hkw<;>repeat' split
    all_goals omega
theorem Zx0 {a:GWrr} {c:GConf} {w:Int} (hp:Plain c) (h:wrrG a c=true) (hw:Za c w=true) (who:Int):Zc3 (c.masters.length:Int) (Zc6 a c who) w≤Zc3 (c.masters.length:Int) a w+(if who=w then 0 else 1)∧(a.at_=w→who=w→Zc3 (c.masters.length:Int) (Zc6 a c who) w=0):=by
 obtain⟨hc,hm,c0,c1⟩:=Zab h
 have hb:=Z3 hm
 have hbw:=Z3 hw
 have ht:=hp.turn _ hm
 rw[ht] at c1
 unfold Zc6
 by_cases e:a.at_=who
 ·rw[if_pos e]
  subst e
  rw[ht]
  unfold Zc3
  dsimp only
  constructor
  ·repeat' split
   all_goals omega
  ·intro h1 _
   rw[if_pos h1,if_pos (by omega)]
 ·rw[if_neg e]
  refine⟨by split<;>omega,fun h1 h2=>absurd (h1.trans h2.symm) e⟩
def Wd (c:GConf):Int:=2*Y2 c*Zw c
def sumV (b:GBus):Int:=sumI b.conf.masters.length (fun j=>Za1 b.conf (atI b.conf.masters j) (atI b.buckets j))
def Yt (x:GBeat):Int:=if x.live=true∧x.by_=1 then 1 else 0
def tokF (b:GBus):Int:=Yt b.data_+Yt b.addr
def tokV (b:GBus):Int:=sumV b+Wd b.conf*tokF b
theorem Zpf {b c:GBus} (h1:c.conf=b.conf) (h2:c.buckets=b.buckets):sumV c=sumV b:=by unfold sumV;rw[h1,h2]
def Y0 (b:GBus):Option GBeat:=
 if b.data_.live=false∨b.data_.left > 0 then none
 else if b.data_.resp≠0∧b.data_.second=false then (if b.addr.live=true then some b.addr else none)
 else if b.data_.resp=2∨b.data_.resp=3 then some b.data_ else none
def Z2e (b:GBus):GWrr:=match Y0 b with|some x=>if x.by_=2 then Zc6 b.arb b.conf x.who else b.arb|none=>b.arb
def Zub (b:GBus):List GBucket:=match Y0 b with|some x=>if x.by_=1 then b.buckets.set x.who.toNat (Zhp (atI b.buckets x.who) (atI b.conf.masters x.who)) else b.buckets|none=>b.buckets
theorem Zt3 (d:GBus) (x:GBeat):(Yj d x).arb=(if x.by_=2 then Zc6 d.arb d.conf x.who else d.arb)∧(Yj d x).buckets=(if x.by_=1 then d.buckets.set x.who.toNat (Zhp (atI d.buckets x.who) (atI d.conf.masters x.who)) else d.buckets):=by
 unfold Yj
 by_cases h1:x.by_=1
 ·rw[if_pos h1,if_pos h1,if_neg (by omega)];exact⟨rfl,rfl⟩
 ·by_cases h2:x.by_=2
  ·rw[if_neg h1,if_pos h2,if_pos h2,if_neg h1];exact⟨rfl,rfl⟩
  ·rw[if_neg h1,if_neg h2,if_neg h2,if_neg h1];exact⟨rfl,rfl⟩
theorem Z3m (b:GBus) (s:GScript):(Zb b s).1.arb=Z2e b∧(Zb b s).1.buckets=Zub b:=by
 unfold Z2e Zub
 unfold Zb
 by_cases hd:b.data_.live=false
 ·have e:Y0 b=none:=by unfold Y0;rw[if_pos (.inl hd)]
  rw[if_pos hd,e];exact⟨rfl,rfl⟩
 ·rw[if_neg hd]
  by_cases hl:b.data_.left > 0
  ·have e:Y0 b=none:=by unfold Y0;rw[if_pos (.inr hl)]
   rw[if_pos hl,e];exact⟨rfl,rfl⟩
  ·have hn:¬(b.data_.live=false∨b.data_.left > 0):=fun h=>h.elim hd hl
   rw[if_neg hl]
   by_cases h2:b.data_.resp≠0∧b.data_.second=false
   ·rw[if_pos h2]
    by_cases ha:b.addr.live=true
    ·have e:Y0 b=some b.addr:=by unfold Y0;rw[if_neg hn,if_pos h2,if_pos ha]
     rw[if_pos ha,e]
     exact Zt3 _ _
    ·have e:Y0 b=none:=by unfold Y0;rw[if_neg hn,if_pos h2,if_neg ha]
     rw[if_neg ha,e];exact⟨rfl,rfl⟩
   ·rw[if_neg h2]
    by_cases h3:b.data_.resp=2
    ·have e:Y0 b=some b.data_:=by unfold Y0;rw[if_neg hn,if_neg h2,if_pos (.inl h3)]
     rw[if_pos h3,e]
     exact Zt3 _ _
    ·rw[if_neg h3]
     by_cases h4:b.data_.resp=3
     ·have e:Y0 b=some b.data_:=by unfold Y0;rw[if_neg hn,if_neg h2,if_pos (.inr h4)]
      rw[if_pos h4,e]
      exact Zt3 _ _
     ·have e:Y0 b=none:=by unfold Y0;rw[if_neg hn,if_neg h2,if_neg (by omega)]
      rw[if_neg h4,e];exact⟨rfl,rfl⟩
theorem Zud (b:GBus) (s:GScript) (hd:b.data_.live=true):
  (b.data_.left > 0→(Zb b s).1.data_={b.data_ with left:=b.data_.left - 1}∧(Zb b s).1.addr=b.addr)∧
  (¬b.data_.left > 0→b.data_.resp≠0∧b.data_.second=false→(Zb b s).1.data_={b.data_ with second:=true}∧(Zb b s).1.addr.live=false)∧
  (¬b.data_.left > 0→¬(b.data_.resp≠0∧b.data_.second=false)→(Zb b s).1.data_=GBeat.z0∧(Zb b s).1.addr=b.addr):=by
 refine⟨fun hl=>?_,fun hl h2=>?_,fun hl h2=>?_⟩
 ·unfold Zb
  rw[if_neg (by simp[hd]),if_pos hl]
  exact⟨rfl,rfl⟩
 ·unfold Zb
  rw[if_neg (by simp[hd]),if_neg hl,if_pos h2]
  by_cases ha:b.addr.live=true
  ·rw[if_pos ha]
   exact⟨(Wa _ _).2.2.2.2,rfl⟩
  ·rw[if_neg ha]
   exact⟨rfl,by simpa using ha⟩
 ·unfold Zb
  rw[if_neg (by simp[hd]),if_neg hl,if_neg h2]
  by_cases h3:b.data_.resp=2
  ·rw[if_pos h3]
   exact⟨(Wa _ _).2.2.2.2,Zld _ _⟩
  ·rw[if_neg h3]
   by_cases h4:b.data_.resp=3
   ·rw[if_pos h4]
    exact⟨(Wa _ _).2.2.2.2,Zld _ _⟩
   ·rw[if_neg h4];exact⟨rfl,rfl⟩
section
variable {n:Int} {b:GBus} {s:GScript}
theorem Z4z (hI:BusI n b) {d:GBus} (hc:d.conf=b.conf) {w:Int} (hw:Za b.conf w=true) (k:GBucket) (hb:d.buckets=b.buckets.set w.toNat k):sumV d=sumV b+(Za1 b.conf (atI b.conf.masters w) k - Za1 b.conf (atI b.conf.masters w) (atI b.buckets w)):=by
 have hbw:=Z3 hw
 have hbl:=hI.bl
 unfold sumV
 rw[hc,hb]
 have:=Zry (f:=fun j=>Za1 b.conf (atI b.conf.masters j) (atI b.buckets j)) (g:=fun j=>Za1 b.conf (atI b.conf.masters j) (atI (b.buckets.set w.toNat k) j)) (n:=b.conf.masters.length) hbw.1 hbw.2 (fun i h0 h1 hne=>by
  rw[Zpt k hbw.1 h0 (fun h=>hne h.symm)])
 rw[this]
 rw[Zex k hbw.1 (by omega)]
theorem Zyq (x:GBeat):0≤Yt x∧Yt x≤1:=by unfold Yt;split<;>omega
theorem tick_V (hI:BusI n b) (hp:Plain b.conf):tokV (Z7 b)≤tokV b+(Zo b.conf:Int):=by
 have h1:sumV (Z7 b)≤sumV b+(Zo b.conf:Int):=by
  unfold sumV
  have e:Zo b.conf=b.conf.masters.countP (·.prio):=rfl
  rw[show (Z7 b).conf=b.conf from rfl,e,←Yav,←Yd1]
  refine Zpi fun i h0 h1=>?_
  have hi:Za b.conf i=true:=by simp only[Za,decide_eq_true_eq];omega
  have hbl:=hI.bl
  show Za1 b.conf (atI b.conf.masters i) (atI (List.zipWith Zgt b.buckets b.conf.masters) i)≤_
  rw[Ycg Zgt h0 (by omega) h1]
  exact Ybg hp hi (hI.mst i hi).bucket
 unfold tokV
 have h2:tokF (Z7 b)=tokF b:=rfl
 rw[h2,show (Z7 b).conf=b.conf from rfl]
 omega
theorem open_V (hP:BusP b) (hp:Plain b.conf):tokV (Zc b s)≤tokV b+(Zo b.conf:Int):=by
 have h3:=Zar b (Xq s b.now)
 have hI:=Zj2 hP.i (Xq s b.now)
 have h1:=tick_V hI (by rw[h3.1];exact hp)
 have e1:tokV (Z2 b (Xq s b.now))=tokV b:=by
  unfold tokV sumV tokF
  rw[h3.1,h3.2.2.2.2.2.2.2.1,h3.2.2.2.2.2.2.2.2.1,h3.2.2.2.2.2.2.2.2.2.2.1]
 have e2:tokV (Zc b s)=tokV (Z7 (Z2 b (Xq s b.now))):=by
  unfold Zc Qd
  split<;>rfl
 rw[e2]
 rw[e1,h3.1] at h1
 exact h1
theorem Yb2 (hI:BusI n b) (hp:Plain b.conf) {x:GBeat} (hw:Za b.conf x.who=true) {d:GBus} (hc:d.conf=b.conf) (hb:d.buckets=if x.by_=1 then b.buckets.set x.who.toNat (Zhp (atI b.buckets x.who) (atI b.conf.masters x.who)) else b.buckets):sumV d≤sumV b+(if x.by_=1 then Wd b.conf else 0):=by
 by_cases h1:x.by_=1
 ·rw[if_pos h1] at hb ⊢
  rw[Z4z hI hc hw _ hb]
  have:=Ya8 hp (atI b.conf.masters x.who) (atI b.buckets x.who)
  unfold Wd
  omega
 ·rw[if_neg h1] at hb ⊢
  rw[Zpf hc hb];omega
theorem fin_V (hI:BusI n b) (hp:Plain b.conf):tokV (Zb b s).1≤tokV b - (if Yd b.data_=true∧b.data_.by_=1 then Wd b.conf else 0):=by
 have hfn:=Zbs b s
 have hab:=(Z3m b s).2
 have hU:=Znz hp
 have hU:1≤Wd b.conf:=hU
 by_cases hd:b.data_.live=false
 ·have e:Zb b s=(b,true,0):=by unfold Zb;rw[if_pos hd]
  rw[e,if_neg (by simp[Yd,hd])]
  show tokV b≤_
  omega
 ·have hd2:b.data_.live=true:=by simpa using hd
  obtain⟨f1,f2,f3⟩:=Zud b s hd2
  have hwd:=Xd hI hd2
  unfold Zub at hab
  by_cases hl:b.data_.left > 0
  ·have hE:¬(Yd b.data_=true∧b.data_.by_=1):=by simp[Yd,Zi0 hd2 (.inl hl)]
   have e:Y0 b=none:=by unfold Y0;rw[if_pos (.inr hl)]
   rw[e] at hab
   rw[if_neg hE]
   unfold tokV tokF
   rw[Zpf hfn.2.2 hab,(f1 hl).1,(f1 hl).2,hfn.2.2]
   have:Yt {b.data_ with left:=b.data_.left - 1}=Yt b.data_:=rfl
   rw[this];omega
  ·have hn:¬(b.data_.live=false∨b.data_.left > 0):=fun h=>h.elim hd hl
   by_cases h2:b.data_.resp≠0∧b.data_.second=false
   ·have hE:¬(Yd b.data_=true∧b.data_.by_=1):=by simp[Yd,Zi0 hd2 (.inr h2)]
    rw[if_neg hE]
    have g:=f2 hl h2
    have t1:tokF (Zb b s).1=Yt b.data_:=by
     unfold tokF
     rw[g.1]
     have:Yt (Zb b s).1.addr=0:=by unfold Yt;rw[if_neg (by simp[g.2])]
     rw[this]
     show Yt b.data_+0=_
     omega
    unfold tokV
    rw[t1,hfn.2.2]
    by_cases ha:b.addr.live=true
    ·have e:Y0 b=some b.addr:=by unfold Y0;rw[if_neg hn,if_pos h2,if_pos ha]
     rw[e] at hab
     have:=Yb2 hI hp (Qg hI ha) hfn.2.2 hab
     have t2:Yt b.addr=if b.addr.by_=1 then 1 else 0:=by unfold Yt;simp[ha]
     unfold tokF
     rw[t2,Int.mul_add]
     by_cases h1:b.addr.by_=1
     ·rw[if_pos h1] at this ⊢;omega
     ·rw[if_neg h1] at this ⊢;omega
    ·have e:Y0 b=none:=by unfold Y0;rw[if_neg hn,if_pos h2,if_neg ha]
     rw[e] at hab
     have t2:Yt b.addr=0:=by unfold Yt;simp[ha]
     rw[Zpf hfn.2.2 hab]
     unfold tokF
     rw[t2,Int.add_zero]
     omega
   ·have g:=f3 hl h2
    have t1:tokF (Zb b s).1=Yt b.addr:=by
     unfold tokF
     rw[g.1,g.2]
     have:Yt GBeat.z0=0:=rfl
     rw[this];omega
    have t2:Yt b.data_=if b.data_.by_=1 then 1 else 0:=by unfold Yt;simp[hd2]
    have hr:=Zuy hl h2
    unfold tokV
    rw[t1,hfn.2.2]
    unfold tokF
    rw[t2,Int.mul_add]
    by_cases h3:b.data_.resp=2∨b.data_.resp=3
    ·have hE:¬(Yd b.data_=true∧b.data_.by_=1):=by rcases h3 with h3|h3<;>simp[Yd,h3]
     have e:Y0 b=some b.data_:=by unfold Y0;rw[if_neg hn,if_neg h2,if_pos h3]
     rw[e] at hab
     have:=Yb2 hI hp hwd hfn.2.2 hab
     rw[if_neg hE]
     by_cases h1:b.data_.by_=1
     ·rw[if_pos h1] at this ⊢;omega
     ·rw[if_neg h1] at this ⊢;omega
    ·have he:Yd b.data_=true:=by
      simp only[Yd,hd2,hr,decide_eq_true (show b.data_.resp≠2∧b.data_.resp≠3 by omega)]
      rfl
     have e:Y0 b=none:=by unfold Y0;rw[if_neg hn,if_neg h2,if_neg h3]
     rw[e] at hab
     rw[Zpf hfn.2.2 hab]
     by_cases h1:b.data_.by_=1
     ·rw[if_pos h1,if_pos ⟨he,h1⟩];omega
     ·rw[if_neg h1,if_neg (fun h=>h1 h.2)];omega
theorem Z74:tokV (Zr b)=tokV b:=by
 unfold Zr
 split<;>rfl
theorem Z7v (hd:b.data_.live=false):tokV (Z1 b s)=tokV b:=by
 unfold Z1
 split
 ·rename_i ha
  show sumV _+Wd _*(Yt {b.addr with left:=(Yu b s b.addr).2,resp:=(Yu b s b.addr).1}+Yt GBeat.z0)=_
  have t1:Yt {b.addr with left:=(Yu b s b.addr).2,resp:=(Yu b s b.addr).1}=Yt b.addr:=rfl
  have t2:Yt b.data_=0:=by unfold Yt;simp[hd]
  unfold tokV tokF
  rw[t1,t2,show Yt GBeat.z0=0 from rfl,Int.zero_add,Int.add_zero]
  rfl
 ·rfl
theorem Z7x (hI:BusI n b) (hp:Plain b.conf) (ha:b.addr.live=false):tokV (Zh b).2=tokV b:=by
 have t0:Yt b.addr=0:=by unfold Yt;simp[ha]
 have hp1:=Zdh hI
 have key:(∀(h:(Zu b).2.1=1),sumV (Zu b).2.2+Wd b.conf=sumV b)∧((Zu b).2.1≠1→sumV (Zu b).2.2=sumV b)∧((Zu b).1 < 0→(Zu b).2.1≠1):=by
  unfold Zu
  split
  ·exact⟨fun h=>absurd (show (3:Int)=1 from h) (by decide),fun _=>rfl,fun _=>show (3:Int)≠1 by decide⟩
  ·split
   ·rename_i k hk
    have hk1:=List.find?_some hk
    have hkr:=List.mem_range.1 (List.mem_of_find?_eq_some hk)
    have hm:Za b.conf (k:Int)=true:=mas (by have:=hI.ml;omega)
    refine⟨fun _=>?_,fun h=>absurd rfl h,fun h=>absurd (show (k:Int) < 0 from h) (by omega)⟩
    unfold Zc1 at hk1
    rw[Bool.and_eq_true] at hk1
    have hs:=Ya7 (c:=b.conf) hk1.2
    have:=Z4z hI (d:={b with buckets:=b.buckets.set k (Zeb (atI b.buckets (k:Int)) (atI b.conf.masters (k:Int))).1}) rfl hm _ rfl
    rw[this]
    unfold Wd
    omega
   ·split
    ·exact⟨fun h=>absurd (show (0:Int)=1 from h) (by decide),fun _=>rfl,fun _=>show (0:Int)≠1 by decide⟩
    ·exact⟨fun h=>absurd (show (2:Int)=1 from h) (by decide),fun _=>rfl,fun _=>show (2:Int)≠1 by decide⟩
 unfold Zh
 split
 ·rename_i hx
  show tokV (Zu b).2.2=_
  unfold tokV tokF
  rw[key.2.1 (key.2.2 hx),hp1.conf,hp1.data,hp1.addr]
 ·rename_i hx
  show sumV (Kk (Zu b).2.2 (Zu b).1 (Zu b).2.1)+Wd (Zu b).2.2.conf*(Yt (Zu b).2.2.data_+Yt (Kk (Zu b).2.2 (Zu b).1 (Zu b).2.1).addr)=_
  have e1:sumV (Kk (Zu b).2.2 (Zu b).1 (Zu b).2.1)=sumV (Zu b).2.2:=rfl
  have e2:Yt (Kk (Zu b).2.2 (Zu b).1 (Zu b).2.1).addr=if (Zu b).2.1=1 then 1 else 0:=by
   unfold Yt Kk
   simp
  rw[e1,e2,hp1.conf,hp1.data]
  unfold tokV tokF
  rw[t0,Int.add_zero,Int.mul_add]
  by_cases h:(Zu b).2.1=1
  ·rw[if_pos h]
   have:=key.1 h
   omega
  ·rw[if_neg h,key.2.1 h]
   omega
end
section
variable {n:Int} {b:GBus} {s:GScript}
structure Granted (b e:GBus):Prop where
 live:e.addr.live=true
 who:Za b.conf e.addr.who=true
 want:W4 b e.addr.who=true
 free:(e.holder=b.holder∧e.held=b.held)∨(b.holder=-1∧e.holder=e.addr.who∧e.held=0)
 how:(e.addr.by_=1∧b.holder=-1∧e.arb=b.arb)∨(e.addr.by_=2∧b.holder=-1∧e.arb=(X6 b.arb b.conf (We b)).1∧e.addr.who=(X6 b.arb b.conf (We b)).2)∨(e.addr.by_=3∧b.holder≠-1∧e.addr.who=b.holder∧e.arb=b.arb∧e.holder=b.holder∧e.held=b.held)
theorem Z97 (b:GBus) (w y:Int):(Kk b w y).addr.live=true∧(Kk b w y).addr.who=w∧(Kk b w y).addr.by_=y∧(Kk b w y).arb=b.arb∧(((Kk b w y).holder=b.holder∧(Kk b w y).held=b.held)∨(b.holder=-1∧(Kk b w y).holder=w∧(Kk b w y).held=0))∧(b.holder≠-1→(Kk b w y).holder=b.holder∧(Kk b w y).held=b.held):=by
 refine⟨rfl,rfl,rfl,rfl,?_,fun h=>?_⟩
 ·unfold Kk
  dsimp only
  by_cases h:Zy (atI b.m w)=true∧b.holder=-1
  ·rw[if_pos h,if_pos h];exact .inr ⟨h.2,rfl,rfl⟩
  ·rw[if_neg h,if_neg h];exact .inl ⟨rfl,rfl⟩
 ·unfold Kk
  dsimp only
  rw[if_neg (fun hx=>h hx.2),if_neg (fun hx=>h hx.2)]
  exact⟨rfl,rfl⟩
theorem Z0y (hI:BusI n b) (ha:b.addr.live=false):
  ((Zh b).2.addr.live=false∧(Zh b).2.holder=b.holder∧(Zh b).2.held=b.held∧(b.holder=-1→∀i,Za b.conf i=true→W4 b i=false)∧(b.holder≠-1→(Zh b).2.arb=b.arb))∨Granted b (Zh b).2:=by
 have hp:=Zdh hI
 have hwk:=Z2m hI.arb (wants:=We b) (by rw[Kz];exact hI.ml)
 have ways:((Zu b).1=-1∧(b.holder=-1→∀i,Za b.conf i=true→W4 b i=false)∧(b.holder≠-1→(Zu b).2.2.arb=b.arb))∨
   (0≤(Zu b).1∧(((Zu b).2.1=1∧b.holder=-1∧(Zu b).2.2.arb=b.arb)∨((Zu b).2.1=2∧b.holder=-1∧(Zu b).2.2.arb=(X6 b.arb b.conf (We b)).1∧(Zu b).1=(X6 b.arb b.conf (We b)).2)∨((Zu b).2.1=3∧b.holder≠-1∧(Zu b).1=b.holder∧(Zu b).2.2.arb=b.arb))):=by
  unfold Zu
  split
  ·rename_i h1
   have hb:Za b.conf b.holder=true:=(Zb8 hI h1.1).1
   exact .inr ⟨(Z3 hb).1,.inr (.inr ⟨rfl,h1.1,rfl,rfl⟩)⟩
  ·rename_i h1
   split
   ·rename_i k hk
    have hk1:=List.find?_some hk
    unfold Zc1 at hk1
    rw[Bool.and_eq_true] at hk1
    have hw:=Zm2 hk1.1
    have hh:b.holder=-1:=by
     rcases hw.2.2 with h2|h2
     ·exact h2
     ·by_cases e:b.holder=-1
      ·exact e
      ·exact absurd ⟨e,by rw[h2];exact hk1.1⟩ h1
    exact .inr ⟨by show (0:Int)≤(k:Int);omega,.inl ⟨rfl,hh,rfl⟩⟩
   ·rename_i hk
    split
    ·rename_i h2
     exact .inl ⟨rfl,fun h=>absurd h h2,fun _=>rfl⟩
    ·rename_i h2
     have h2:b.holder=-1:=by
      by_cases e:b.holder=-1
      ·exact e
      ·exact absurd e h2
     rcases hwk.2 with h3|h3
     ·refine .inl ⟨h3,fun _ i hi=>?_,fun h=>absurd h2 h⟩
      have hb:=Z3 hi
      have:=Zx1 hI.arb (by rw[Kz];exact hI.ml) h3 hb.1 (by rw[Kz,hI.ml];exact hb.2)
      rw[Zmc hI hi] at this
      exact this
     ·exact .inr ⟨(Z3 h3.1).1,.inr (.inl ⟨rfl,h2,rfl,rfl⟩)⟩
 unfold Zh
 rcases ways with h1|h1
 ·rw[if_pos (by rw[h1.1];decide)]
  exact .inl ⟨by show (Zu b).2.2.addr.live=false;rw[hp.addr];exact ha,hp.holder,hp.held,h1.2.1,h1.2.2⟩
 ·rw[if_neg (by omega)]
  refine .inr ?_
  have hwho:Za b.conf (Zu b).1=true∧W4 b (Zu b).1=true:=by
   rcases hp.who with h2|h2
   ·omega
   ·exact⟨h2.1,h2.2.1⟩
  have g:=Z97 (Zu b).2.2 (Zu b).1 (Zu b).2.1
  rw[hp.holder,hp.held] at g
  dsimp only
  refine⟨g.1,by rw[g.2.1];exact hwho.1,by rw[g.2.1];exact hwho.2,by rw[g.2.1];exact g.2.2.2.2.1,?_⟩
  rw[g.2.1,g.2.2.1,g.2.2.2.1]
  rcases h1.2 with h2|h2|h2
  ·exact .inl h2
  ·exact .inr (.inl h2)
  ·have:=g.2.2.2.2.2 h2.2.1
   exact .inr (.inr ⟨h2.1,h2.2.1,h2.2.2.1,h2.2.2.2,this.1,this.2⟩)
def Zc2 (b:GBus):Int:=if b.holder=-1 then b.held else min (b.held+1) b.conf.lockMost
theorem Zmh (b:GBus) (s:GScript):(Zc b s).held=Zc2 b∧(Zc b s).arb=b.arb:=by
 have h3:=Zar b (Xq s b.now)
 have e2:=Zte (Z2 b (Xq s b.now))
 unfold Zc Qd Zc2
 rw[e2.2.2.2.2.2.2.2.2,h3.2.2.2.2.2.1]
 by_cases h:b.holder=-1
 ·rw[if_pos h,if_pos h]
  exact⟨h3.2.2.2.2.2.2.1,h3.2.2.2.2.2.2.2.2.2.2.2.1⟩
 ·rw[if_neg h,if_neg h]
  refine⟨?_,h3.2.2.2.2.2.2.2.2.2.2.2.1⟩
  show min ((Z2 b (Xq s b.now)).held+1) (Z2 b (Xq s b.now)).conf.lockMost=_
  rw[h3.2.2.2.2.2.2.1,h3.1]
theorem Zm4 (b:GBus) (s:GScript):((Zb b s).1.holder=b.holder∧(Zb b s).1.held=b.held)∨((Zb b s).1.holder=-1∧(Zb b s).1.held=0∧Yd b.data_=true∧b.data_.who=b.holder∧(atI b.m b.data_.who).done+1=Ze (atI b.m b.data_.who)):=by
 unfold Zb
 by_cases hd:b.data_.live=false
 ·rw[if_pos hd];exact .inl ⟨rfl,rfl⟩
 ·have hd2:b.data_.live=true:=by simpa using hd
  rw[if_neg hd]
  by_cases hl:b.data_.left > 0
  ·rw[if_pos hl];exact .inl ⟨rfl,rfl⟩
  ·rw[if_neg hl]
   by_cases h2:b.data_.resp≠0∧b.data_.second=false
   ·rw[if_pos h2]
    by_cases ha:b.addr.live=true
    ·rw[if_pos ha];exact .inl ⟨(Wa _ _).2.2.1,(Wa _ _).2.2.2.1⟩
    ·rw[if_neg ha];exact .inl ⟨rfl,rfl⟩
   ·rw[if_neg h2]
    by_cases h3:b.data_.resp=2
    ·rw[if_pos h3];exact .inl ⟨(Wa _ _).2.2.1,(Wa _ _).2.2.2.1⟩
    ·rw[if_neg h3]
     by_cases h4:b.data_.resp=3
     ·rw[if_pos h4];exact .inl ⟨(Wa _ _).2.2.1,(Wa _ _).2.2.2.1⟩
     ·rw[if_neg h4]
      have he:Yd b.data_=true:=by
       simp only[Yd,hd2,Zuy hl h2,decide_eq_true (show b.data_.resp≠2∧b.data_.resp≠3 from⟨h3,h4⟩)]
       rfl
      unfold Zb1
      dsimp only
      by_cases hx:b.holder=b.data_.who∧(atI b.m b.data_.who).done+1=Ze (atI b.m b.data_.who)
      ·rw[if_pos hx,if_pos hx];exact .inr ⟨rfl,rfl,he,hx.1.symm,hx.2⟩
      ·rw[if_neg hx,if_neg hx];exact .inl ⟨rfl,rfl⟩
theorem Zt9 (b:GBus):((Zr b).holder=-1∧(b.holder≠-1→b.held=b.conf.lockMost))∨((Zr b).holder=b.holder∧(Zr b).held=b.held∧b.holder≠-1∧b.held≠b.conf.lockMost):=by
 unfold Zr
 by_cases h:b.holder≠-1∧b.held=b.conf.lockMost
 ·rw[if_pos h];exact .inl ⟨rfl,fun _=>h.2⟩
 ·rw[if_neg h]
  by_cases e:b.holder=-1
  ·exact .inl ⟨e,fun h=>absurd e h⟩
  ·exact .inr ⟨rfl,rfl,e,fun h2=>h ⟨e,h2⟩⟩
theorem Z0s (b:GBus):(Zr b).arb=b.arb∧(Zr b).splits=b.splits:=by
 unfold Zr;split<;>exact⟨rfl,rfl⟩
theorem Zxz (b:GBus) (s:GScript):(Z1 b s).arb=b.arb∧(Z1 b s).held=b.held:=by
 unfold Z1;split<;>exact⟨rfl,rfl⟩
structure LockI (b:GBus):Prop where
 l1:b.holder≠-1→b.held=0→b.addr.live=true∧b.addr.who=b.holder∧b.addr.by_≠3
 l2:b.addr.live=true→b.addr.by_=3→b.holder=b.addr.who∧1≤b.held∧b.data_.live=true∧b.data_.who=b.addr.who
 l3:b.data_.live=true→b.data_.by_=3→b.data_.resp=1∧(atI b.m b.data_.who).tries=0∧(atI b.m b.data_.who).parted=false
 l4:b.addr.live=true→b.addr.by_=2→b.arb.at_=b.addr.who
theorem Zqx (hP:BusP b) (s:GScript) {i:Int} (hi:Za b.conf i=true):(atI (Zc b s).m i).tries=(atI b.m i).tries∧(atI (Zc b s).m i).parted=(atI b.m i).parted:=by
 obtain⟨l,e⟩:=Z3x hP s hi
 rw[e];exact⟨rfl,rfl⟩
structure Stations (b:GBus) (s:GScript) (f k g:GBus):Prop where
 ef:f=(Zb (Zc b s) s).1
 ek:k=Zr f
 eg:g=Z1 k s
 fI:BusI (b.now+1) f
 kI:BusI (b.now+1) k
 gI:BusI (b.now+1) g
 fz:f.data_=GBeat.z0
 kz:k.data_=GBeat.z0
 gz:g.addr=GBeat.z0
 fa:f.addr=b.addr
 ka:k.addr=b.addr
 conf:f.conf=b.conf∧k.conf=b.conf∧g.conf=b.conf
 e:(Zq b s).1={(Zh g).2 with now:=b.now+1}
theorem Zr8 (hP:BusP b) (s:GScript) (hr:rdyG b.data_=true):∃f k g,Stations b s f k g:=by
 have e:=Xs b s
 have hf:=Z2f hP s
 have hd:=hf.2 hr
 have hfn:=Zbs (Zc b s) s
 have hfa:(Zb (Zc b s) s).1.addr=b.addr:=by rw[Ydd s (by rw[e.2.2.2.2.2.2.1];exact hr),e.2.2.2.2.2.1]
 have e1:=Zdv (Zb (Zc b s) s).1
 have hb:=Zqa hf.1 s hd
 have hz:=(Zsq hb.1 s (by rw[e1.1];exact hd)).2
 have e2:=J3 (Zr (Zb (Zc b s) s).1) s
 have hc:(Zb (Zc b s) s).1.conf=b.conf:=by rw[hfn.2.2,e.2.1]
 refine⟨_,_,_,rfl,rfl,rfl,hf.1,hb.1,hb.2,hd,by rw[e1.1];exact hd,hz,hfa,by rw[e1.2.1];exact hfa,⟨hc,by rw[e1.2.2.2.2.1];exact hc,by rw[e2.2.1,e1.2.2.2.2.1];exact hc⟩,?_⟩
 rw[Ze4,if_pos hr]
 rfl
theorem Zt5 (hP:BusP b) (hp:Plain b.conf) (hL:LockI b) (s:GScript) (hn:b.now < 4000):LockI (Zq b s).1:=by
 have e:=Xs b s
 have om:=Zmh b s
 have hO:=Zoh hP s
 have hst:=Zu7 hP s hn
 have hlk:=hp.lock
 have hH:=hP.held
 have hup:b.holder≠-1→1≤Zc2 b∧(1≤b.held→Zc2 b=b.conf.lockMost)∧(Zc2 b≠b.conf.lockMost→b.held=0):=fun hh=>by
  unfold Za3 at hH
  have h2:=hH.2
  rw[if_neg hh] at h2
  unfold Zc2
  rw[if_neg hh]
  omega
 have hqs:∀i,Za b.conf i=true→qt (atI (Zq b s).1.m i)=if b.data_.who=i then finT b.data_ (atI (Zc b s).m i) else qt (atI (Zc b s).m i):=fun i hi=>Zu4 hP s hi
 have hpar:∀i,Za b.conf i=true→(atI (Zc b s).m i).tries=(atI b.m i).tries∧(atI (Zc b s).m i).parted=(atI b.m i).parted:=fun i hi=>Zqx hP s hi
 by_cases hr:rdyG b.data_=true
 ·obtain⟨f,k,g,S⟩:=Zr8 hP s hr
  have hfh:=Zm4 (Zc b s) s
  rw[←S.ef,e.2.2.2.2.2.2.2,om.1,e.2.2.2.2.2.2.1] at hfh
  have hbk:=Zt9 f
  rw[←S.ek,S.conf.1] at hbk
  have hgm:=Zxz k s
  rw[←S.eg] at hgm
  have hgd:=J3 k s
  rw[←S.eg] at hgd
  have hg:=Z0y S.gI (by rw[S.gz])
  have hga:=Zgv S.gI
  have hgh:g.holder≠-1→g.holder=b.holder∧g.held=Zc2 b∧b.held=0:=by
   intro hh
   rw[hgd.2.2.2.2.2.2.1] at hh
   rcases hbk with h1|h1
   ·exact absurd h1.1 hh
   ·rcases hfh with h2|h2
    ·have hb1:b.holder≠-1:=by rw[←h2.1];exact h1.2.2.1
     refine⟨by rw[hgd.2.2.2.2.2.2.1,h1.1,h2.1],by rw[hgm.2,h1.2.1,h2.2],(hup hb1).2.2 (by rw[←h2.2];exact h1.2.2.2)⟩
    ·exact absurd h2.1 h1.2.2.1
  have hdl:g.data_.live=b.addr.live∧(b.addr.live=true→g.data_.who=b.addr.who∧g.data_.by_=b.addr.by_):=by
   rw[S.eg]
   unfold Z1
   by_cases ha:b.addr.live=true
   ·rw[if_pos (by rw[S.ka];exact ha),S.ka]
    exact⟨rfl,fun _=>⟨rfl,rfl⟩⟩
   ·rw[if_neg (by rw[S.ka];exact ha),S.kz]
    exact⟨by rw[show b.addr.live=false by simpa using ha],fun h=>absurd h ha⟩
  rw[S.e]
  have hl3:(Zh g).2.data_.live=true→(Zh g).2.data_.by_=3→(Zh g).2.data_.resp=1∧(atI (Zh g).2.m (Zh g).2.data_.who).tries=0∧(atI (Zh g).2.m (Zh g).2.data_.who).parted=false:=by
   rw[hga.2.2.2.2.2]
   intro hl hb3
   have ha:b.addr.live=true:=by rw[←hdl.1];exact hl
   rw[(hdl.2 ha).2] at hb3
   rw[(hdl.2 ha).1]
   obtain⟨k1,k2,k3,k4⟩:=hL.l2 ha hb3
   have hwa:=Qg hP.i ha
   have hne2:¬b.data_.second=true:=fun hx=>by
    have hD:=hP.data
    unfold X9 at hD
    rw[if_pos k3] at hD
    have:=(hD.2.2.2 hx).2.2
    rw[ha] at this;cases this
   have hrp:=Z0f hr k3
   have hr0:b.data_.resp=0:=by
    by_cases h0:b.data_.resp=0
    ·exact h0
    ·exact absurd ⟨h0,by simpa using hne2⟩ hrp.2
   have he:Yd b.data_=true:=by
    simp only[Yd,k3,hr,hr0]
    decide
   have hlast:¬((atI (Zc b s).m b.data_.who).done+1=Ze (atI (Zc b s).m b.data_.who)):=fun hx=>by
    have hao:(Zc b s).addr.live=true:=by rw[e.2.2.2.2.2.1];exact ha
    have hdo:(Zc b s).data_.live=true:=by rw[e.2.2.2.2.2.2.1];exact k3
    have hab:=Ziv hO hao
    have hA:=hO.addr
    unfold Wt at hA
    rw[if_pos hao] at hA
    have hfl:=hO.fly b.addr.who (by rw[e.2.1];exact hwa)
    unfold flyG at hfl
    rw[e.2.2.2.2.2.1,e.2.2.2.2.2.2.1,if_pos ⟨ha,rfl⟩,if_pos ⟨k3,k4⟩] at hfl
    rw[e.2.2.2.2.2.1] at hab hA
    rw[k4] at hx
    omega
   have hfh2:f.holder=b.holder∧f.held=Zc2 b:=by
    rcases hfh with h2|h2
    ·exact h2
    ·exact absurd h2.2.2.2.2 hlast
   have hbh:b.holder≠-1:=by rw[k1];have:=Z3 hwa;omega
   have hbrk:(atI k.m b.addr.who).broken=true:=by
    rw[S.ek]
    unfold Zr
    rw[if_pos ⟨by rw[hfh2.1];exact hbh,by rw[hfh2.2,S.conf.1];exact (hup hbh).2.1 k2⟩]
    show (atI (f.m.set f.holder.toNat {atI f.m f.holder with broken:=true}) b.addr.who).broken=true
    have hwf:Za f.conf b.addr.who=true:=by rw[S.conf.1];exact hwa
    rw[S.fI.at_m (by rw[hfh2.1,k1];exact hwf) _ hwf,if_pos (by rw[hfh2.1,k1])]
   have hresp:g.data_.resp=1:=by
    rw[S.eg]
    unfold Z1
    rw[if_pos (by rw[S.ka];exact ha),S.ka]
    show (Yu k s b.addr).1=1
    unfold Yu
    rw[if_pos (.inl hbrk)]
   have hq:=hqs b.addr.who hwa
   rw[S.e] at hq
   rw[if_pos k4] at hq
   unfold finT at hq
   rw[if_pos he] at hq
   exact⟨hresp,congrArg (·.2.2.1) hq,congrArg (·.2.2.2) hq⟩
  rcases hg with h1|h1
  ·refine⟨fun hh h0=>?_,fun hl=>?_,hl3,fun hl=>?_⟩
   ·have hh:(Zh g).2.holder≠-1:=hh
    have h0:(Zh g).2.held=0:=h0
    rw[h1.2.1] at hh
    rw[h1.2.2.1] at h0
    have:=hgh hh
    have:=(hup (by rw[←this.1];exact hh)).1
    omega
   ·have hl:(Zh g).2.addr.live=true:=hl
    rw[h1.1] at hl;cases hl
   ·have hl:(Zh g).2.addr.live=true:=hl
    rw[h1.1] at hl;cases hl
  ·refine⟨fun hh h0=>?_,fun hl hb3=>?_,hl3,fun hl hb2=>?_⟩
   ·have hh:(Zh g).2.holder≠-1:=hh
    have h0:(Zh g).2.held=0:=h0
    show (Zh g).2.addr.live=true∧(Zh g).2.addr.who=(Zh g).2.holder∧(Zh g).2.addr.by_≠3
    rcases h1.free with h2|h2
    ·rw[h2.1] at hh
     rw[h2.2] at h0
     have:=hgh hh
     have:=(hup (by rw[←this.1];exact hh)).1
     omega
    ·refine⟨h1.live,h2.2.1.symm,fun h3=>?_⟩
     rcases h1.how with h4|h4|h4
     ·omega
     ·omega
     ·exact h4.2.1 h2.1
   ·have hb3:(Zh g).2.addr.by_=3:=hb3
    show (Zh g).2.holder=(Zh g).2.addr.who∧1≤(Zh g).2.held∧(Zh g).2.data_.live=true∧(Zh g).2.data_.who=(Zh g).2.addr.who
    rcases h1.how with h4|h4|h4
    ·omega
    ·omega
    ·have h5:=hgh h4.2.1
     have hbh:b.holder≠-1:=by rw[←h5.1];exact h4.2.1
     have h6:=hL.l1 hbh h5.2.2
     rw[hga.2.2.2.2.2,h4.2.2.2.2.1,h4.2.2.2.2.2,h4.2.2.1,hdl.1,(hdl.2 h6.1).1,h5.2.1]
     exact⟨rfl,(hup hbh).1,h6.1,by rw[h6.2.1,h5.1]⟩
   ·have hb2:(Zh g).2.addr.by_=2:=hb2
    show (Zh g).2.arb.at_=(Zh g).2.addr.who
    rcases h1.how with h4|h4|h4
    ·omega
    ·rw[h4.2.2.1,h4.2.2.2]
     have hne:(X6 g.arb g.conf (We g)).2≠-1:=by
      have:=Z3 h1.who
      rw[←h4.2.2.2];omega
     revert hne
     unfold X6
     split
     ·intro _;rfl
     ·rcases Zvy (w:=g.arb) (c:=g.conf) (wants:=We g) (We g).length 1 with h5|⟨k',_,_,h5,_⟩
      ·intro h;exact absurd h5 h
      ·intro _;rw[h5]
    ·omega
 ·have hr:rdyG b.data_=false:=by simpa using hr
  obtain⟨q1,q2,q3,q4,q5,q6⟩:=Zw8 hP s hr
  have hfh:=Zm4 (Zc b s) s
  have es:(Zq b s).1={(Zb (Zc b s) s).1 with now:=b.now+1}:=by rw[Ze4,if_neg (by simp[hr])]
  rw[e.2.2.2.2.2.2.2,om.1,e.2.2.2.2.2.2.1] at hfh
  have hh:(Zq b s).1.holder=b.holder∧(Zq b s).1.held=Zc2 b:=by
   rw[es]
   rcases hfh with h2|h2
   ·exact h2
   ·have:=h2.2.2.1
    unfold Yd at this
    rw[hr] at this
    simp at this
  have hby:(Zq b s).1.data_.by_=b.data_.by_:=by
   rw[es]
   obtain⟨f1,f2,f3⟩:=Zud (Zc b s) s (by rw[e.2.2.2.2.2.2.1];exact q1)
   rw[e.2.2.2.2.2.2.1] at f1 f2 f3
   rcases q6 with q6|q6
   ·show (Zb (Zc b s) s).1.data_.by_=_
    rw[(f1 q6.1).1]
   ·show (Zb (Zc b s) s).1.data_.by_=_
    rw[(f2 (by omega) ⟨q6.2.1,q6.2.2.1⟩).1]
  have harb:b.data_.left > 0→(Zq b s).1.arb=b.arb:=fun hl=>by
   rw[es]
   show (Zb (Zc b s) s).1.arb=_
   rw[(Z3m _ s).1]
   unfold Z2e
   have eb:Y0 (Zc b s)=none:=by
    unfold Y0
    rw[e.2.2.2.2.2.2.1,if_pos (.inr hl)]
   rw[eb]
   exact om.2
  refine⟨fun h1 h0=>?_,fun hl hb3=>?_,fun hl hb3=>?_,fun hl hb2=>?_⟩
  ·rw[hh.1] at h1
   rw[hh.2] at h0
   have:=(hup h1).1
   omega
  ·rcases q6 with q6|q6
   ·rw[q6.2.1] at hl hb3 ⊢
    have h2:=hL.l2 hl hb3
    have hbh:b.holder≠-1:=by rw[h2.1];have:=Z3 (Qg hP.i hl);omega
    rw[hh.1,hh.2,q3]
    exact⟨h2.1,(hup hbh).1,q2,h2.2.2.2⟩
   ·rw[q6.2.2.2.1] at hl;cases hl
  ·rw[hby] at hb3
   have h3:=hL.l3 q1 hb3
   have hwd:=Xd hP.i q1
   have hq:=hqs b.data_.who hwd
   rw[if_pos rfl,Zom (by simp[hr])] at hq
   have hpp:=hpar b.data_.who hwd
   rw[q5,q3]
   exact⟨h3.1,by rw[show (atI (Zq b s).1.m b.data_.who).tries=_ from congrArg (·.2.2.1) hq];exact hpp.1.trans h3.2.1,by rw[show (atI (Zq b s).1.m b.data_.who).parted=_ from congrArg (·.2.2.2) hq];exact hpp.2.trans h3.2.2⟩
  ·rcases q6 with q6|q6
   ·rw[q6.2.1] at hl hb2 ⊢
    rw[harb q6.1]
    exact hL.l4 hl hb2
   ·rw[q6.2.2.2.1] at hl;cases hl
theorem Yel (c:GConf):LockI (newG c):=⟨fun h=>absurd rfl h,fun h=>absurd h (by simp[newG,GBus.z0,GBeat.z0]),fun h=>absurd h (by simp[newG,GBus.z0,GBeat.z0]),fun h=>absurd h (by simp[newG,GBus.z0,GBeat.z0])⟩
end
def lenM (c:GConf):Int:=(c.masters.length:Int)
def attG (c:GConf) (m:GMst):Int:=8*((c.maxRetry - m.tries)+(if m.parted=true then 0 else 1))
def phG (x:GBeat):Int:=if x.second=true then 1 else x.left+(if x.resp=0 then 1 else 3)
def bsG (c:GConf) (x:GBeat):Int:=if x.by_=2 then Zw c else 0
def pdG (c:GConf) (x:GBeat):Int:=if x.by_=3 then phG x else bsG c x+phG x - (if x.resp≤1 then 10 else 8)
def paG (c:GConf) (x:GBeat):Int:=if x.by_=3 then 3 else bsG c x - 1
def owG (c:GConf):Int:=Zw c+4
def Zv (w:Int) (b:GBus):Int:=Zc3 (lenM b.conf) b.arb w*Zw b.conf
def sumA (w:Int) (b:GBus):Int:=sumI b.conf.masters.length (fun j=>if j=w then 0 else attG b.conf (atI b.m j))
def othD (w:Int) (b:GBus):Int:=if b.data_.live=true∧b.data_.who≠w then pdG b.conf b.data_ else 0
def othA (w:Int) (b:GBus):Int:=if b.addr.live=true∧b.addr.who≠w then paG b.conf b.addr else 0
def ownG (w:Int) (b:GBus):Int:=
 if b.data_.live=true∧b.data_.who=w then phG b.data_
 else if b.addr.live=true∧b.addr.who=w then owG b.conf - 1+(if b.addr.by_=1 then Zv w b else 0)
 else owG b.conf+Zv w b
def Jk (w:Int) (b:GBus):Int:=sumA w b+othD w b+othA w b+ownG w b
def xrG (c:GConf):Int:=owG c+(lenM c - 1)*Zw c
def ksG (c:GConf):Int:=(lenM c - 1)*(8*c.maxRetry+8)+2*Zw c - 4+xrG c
def xsG (c:GConf):Int:=c.maxSplit+ksG c
def Kp (w:Int) (b:GBus):Int:=(b.conf.maxRetry - (atI b.m w).tries)*xrG b.conf
def Jx (w:Int) (b:GBus):Int:=if (atI b.m w).parted=true then 0 else xsG b.conf
def Z9 (w:Int) (b:GBus):Int:=Kp w b+Jx w b+(if atI b.splits w > 0 then atI b.splits w+ksG b.conf else Jk w b)
structure Pend (w:Int) (b:GBus):Prop where
 mas:Za b.conf w=true
 ne:(atI b.m w).queue≠[]
 one:Ze (atI b.m w)=1
 lock:(atI (atI b.m w).queue 0).lock=false
 mem:Ye (Ya (atI b.m w) 0)=1∨Ye (Ya (atI b.m w) 0)=2
section
variable {n w:Int} {b:GBus} {s:GScript}
theorem Pend.done (h:Pend w b) (hI:BusI n b):(atI b.m w).done=0∧0≤(atI b.m w).beat∧(atI b.m w).beat≤1:=by
 have:=(hI.mst w h.mas).right.some h.ne
 have:=h.one
 omega
theorem Pend.holder (h:Pend w b) (hI:BusI n b):b.holder≠w:=by
 intro e
 have hb:=Z3 h.mas
 have:=(Zb8 hI (by omega)).2.1
 rw[e] at this
 unfold Zy at this
 rw[h.lock] at this
 simp at this
theorem Pend.phase (h:Pend w b) (hI:BusI n b):¬((b.data_.live=true∧b.data_.who=w)∧(b.addr.live=true∧b.addr.who=w)):=by
 rintro⟨hd,ha⟩
 have:=h.done hI
 have hf:=hI.fly w h.mas
 unfold flyG at hf
 rw[if_pos ha,if_pos hd] at hf
 omega
theorem Zzx (hI:BusI n b) {i:Int} (hi:Za b.conf i=true):0≤attG b.conf (atI b.m i)∧attG b.conf (atI b.m i)≤8*b.conf.maxRetry+8:=by
 have h1:=(hI.mst i hi).tries
 have h2:=(hI.mst i hi).right.tries
 unfold attG
 split<;>omega
theorem Zhv {c:GConf} {i:Int} (h0:0≤i) (h1:i < (c.masters.length:Int)):Za c i=true:=by simp only[Za,decide_eq_true_eq];omega
theorem Zrs (hI:BusI n b) (hw:Za b.conf w=true):0≤sumA w b∧sumA w b≤(lenM b.conf - 1)*(8*b.conf.maxRetry+8):=by
 have hbw:=Z3 hw
 constructor
 ·refine Zlw fun i h0 h1=>?_
  split
  ·exact Int.le_refl 0
  ·exact (Zzx hI (Zhv h0 h1)).1
 ·have h1:sumA w b≤sumI b.conf.masters.length (fun j=>if j=w then 0 else 8*b.conf.maxRetry+8):=by
   refine Zpi fun i h0 h1=>?_
   split
   ·exact Int.le_refl 0
   ·exact (Zzx hI (Zhv h0 h1)).2
  have h2:=Zry (f:=fun _=>8*b.conf.maxRetry+8) (g:=fun j=>if j=w then 0 else 8*b.conf.maxRetry+8) (n:=b.conf.masters.length) hbw.1 hbw.2 (fun i _ _ hne=>by rw[if_neg hne])
  rw[Zr2] at h2
  rw[if_pos rfl] at h2
  unfold lenM
  rw[Int.sub_mul]
  omega
theorem Zwf {c:GBus} (hc:c.conf=b.conf) {j:Int} (hj:Za b.conf j=true) (hm:∀i,Za b.conf i=true→i≠j→attG b.conf (atI c.m i)=attG b.conf (atI b.m i)):sumA w c=sumA w b+(if j=w then 0 else attG b.conf (atI c.m j) - attG b.conf (atI b.m j)):=by
 have hbj:=Z3 hj
 unfold sumA
 rw[hc]
 have:=Zry (f:=fun j=>if j=w then 0 else attG b.conf (atI b.m j)) (g:=fun j=>if j=w then 0 else attG b.conf (atI c.m j)) (n:=b.conf.masters.length) hbj.1 hbj.2 (fun i h0 h1 hne=>by
  split
  ·rfl
  ·exact (hm i (Zhv h0 h1) hne).symm)
 rw[this]
 by_cases e:j=w
 ·rw[if_pos e,if_pos e,if_pos e];omega
 ·rw[if_neg e,if_neg e,if_neg e]
theorem Zi3 {c:GBus} (hc:c.conf=b.conf) (hm:∀i,Za b.conf i=true→attG b.conf (atI c.m i)=attG b.conf (atI b.m i)):sumA w c=sumA w b:=by
 unfold sumA
 rw[hc]
 refine Zso fun i h0 h1=>?_
 rw[hm i (Zhv h0 h1)]
theorem Zok {c:GConf} {m m':GMst} (h:qt m'=qt m):attG c m'=attG c m:=by
 have e3:m'.tries=m.tries:=congrArg (·.2.2.1) h
 have e4:m'.parted=m.parted:=congrArg (·.2.2.2) h
 unfold attG;rw[e3,e4]
theorem Zis (hI:BusI n b) (hp:Plain b.conf) (hw:Za b.conf w=true):0≤Zv w b∧Zv w b≤(lenM b.conf - 1)*Zw b.conf:=by
 have h1:=Z3 (Zab hI.arb).2.1
 have h2:=Ycy (M:=lenM b.conf) h1 (Z3 hw)
 have hu:0≤Zw b.conf:=by have:=hp.retry;unfold Zw;omega
 unfold Zv
 exact⟨Int.mul_nonneg h2.1 hu,Int.mul_le_mul_of_nonneg_right h2.2 hu⟩
theorem Zb6 (h1:¬(b.data_.live=true∧b.data_.who=w)) (h2:¬(b.addr.live=true∧b.addr.who=w)):ownG w b=owG b.conf+Zv w b:=by
 unfold ownG;rw[if_neg h1,if_neg h2]
theorem Zb3 (h1:b.data_.live=true∧b.data_.who=w):ownG w b=phG b.data_:=by
 unfold ownG;rw[if_pos h1]
theorem Zwr (h1:¬(b.data_.live=true∧b.data_.who=w)) (h2:b.addr.live=true∧b.addr.who=w):ownG w b=owG b.conf - 1+(if b.addr.by_=1 then Zv w b else 0):=by
 unfold ownG;rw[if_neg h1,if_pos h2]
theorem Z4s {c:GBus} (h1:¬(b.data_.live=true∧b.data_.who=w)) (h2:¬(c.data_.live=true∧c.data_.who=w)) (ha:c.addr=b.addr) (hc:c.conf=b.conf) (hk:Zv w c=Zv w b):ownG w c=ownG w b:=by
 unfold ownG
 rw[if_neg h2,if_neg h1,ha,hc,hk]
theorem Yce (hI:BusI n b) (hp:Plain b.conf) (hw:Za b.conf w=true) {c:GBus} (hc:c.conf=b.conf) {x:GBeat} (ha:c.arb=if x.by_=2 then Zc6 b.arb b.conf x.who else b.arb) (hx:x.who≠w):Zv w c≤Zv w b+bsG b.conf x:=by
 have hu:0≤Zw b.conf:=by have:=hp.retry;unfold Zw;omega
 have hk:=Zx0 hp hI.arb hw x.who
 unfold Zv bsG
 rw[hc,ha]
 by_cases h2:x.by_=2
 ·rw[if_pos h2,if_pos h2]
  rw[if_neg hx] at hk
  have:=Int.mul_le_mul_of_nonneg_right hk.1 hu
  rw[Int.add_mul] at this
  unfold lenM
  omega
 ·rw[if_neg h2,if_neg h2];omega
theorem Ydk {c:GBus} (hc:c.conf=b.conf) (ht:(atI c.m w).tries=(atI b.m w).tries+1):Kp w c=Kp w b - xrG b.conf:=by
 unfold Kp
 rw[hc,ht]
 have:b.conf.maxRetry - ((atI b.m w).tries+1)=(b.conf.maxRetry - (atI b.m w).tries) - 1:=by omega
 rw[this,Int.sub_mul]
 omega
theorem Zg9 {c:GBus} (hc:c.conf=b.conf) (hq:qt (atI c.m w)=qt (atI b.m w)):Kp w c=Kp w b∧Jx w c=Jx w b:=by
 have e3:(atI c.m w).tries=(atI b.m w).tries:=congrArg (·.2.2.1) hq
 have e4:(atI c.m w).parted=(atI b.m w).parted:=congrArg (·.2.2.2) hq
 unfold Kp Jx
 rw[hc,e3,e4]
 exact⟨rfl,rfl⟩
theorem Kc (h:atI b.splits w=0):Z9 w b=Kp w b+Jx w b+Jk w b:=by
 unfold Z9
 rw[if_neg (by omega)]
theorem fin_W (hI:BusI b.now b) (hn0:0≤b.now) (hp:Plain b.conf) (hP:Pend w b) (hz:atI b.splits w=0) (hd:b.data_.live=true) (hn:¬(Yd b.data_=true∧b.data_.who=w))
  (l2:b.addr.live=true→b.addr.by_=3→b.holder=b.addr.who)
  (l3:b.data_.by_=3→b.data_.resp=1∧(atI b.m b.data_.who).tries=0∧(atI b.m b.data_.who).parted=false)
  (l4:b.addr.live=true→b.addr.by_=2→b.arb.at_=b.addr.who):
  Z9 w (Zb b s).1≤Z9 w b - 1+(if Yd b.data_=true∧b.data_.by_=1 then Zw b.conf else 0):=by
 have hfn:=(Zbs b s).2.2
 have hq:=fun i hi=>Z23 (i:=i) s hI hi
 have hab:=(Z3m b s).1
 have hsp:=Zsb (b:=b) s
 obtain⟨f1,f2,f3⟩:=Zud b s hd
 have hwd:=Xd hI hd
 have hbw:=Z3 hP.mas
 have hD:=hI.data
 unfold X9 at hD
 rw[if_pos hd] at hD
 have hby:=(hI.dlive hd).2.1
 have hu:=hp.unit
 have hrt:=hp.retry
 have hal:=Zis hI hp hP.mas
 have hex:=hP.phase hI
 have hG:Zw b.conf=8*b.conf.maxRetry+18:=rfl
 rw[Kc hz]
 unfold Z2e at hab
 have hnr:(b.data_.live&&rdyG b.data_)=false→∀i,Za b.conf i=true→qt (atI (Zb b s).1.m i)=qt (atI b.m i):=fun hx i hi=>by
  rw[hq i hi,Zom hx,Z4n]
 have hsz:¬((b.data_.live&&rdyG b.data_)=true∧b.data_.resp=3∧b.data_.who=w)→atI (Zb b s).1.splits w=0:=fun hx=>by
  rw[hsp]
  split
  ·rename_i h3
   have hbd:=Z3 hwd
   rw[Zpt _ hbd.1 hbw.1 (fun e=>hx ⟨h3.1,h3.2,e⟩)]
   exact hz
  ·exact hz
 by_cases hl:b.data_.left > 0
 ·
  have hnrd:=Zi0 hd (.inl hl)
  have hE:¬(Yd b.data_=true∧b.data_.by_=1):=by simp[Yd,hnrd]
  have hsec:¬b.data_.second=true:=fun h=>by have:=(hD.2.2.2 h).1;omega
  have eb:Y0 b=none:=by unfold Y0;rw[if_pos (.inr hl)]
  rw[eb] at hab
  have hqs:=hnr (by simp[hnrd])
  have ht:=Zg9 (w:=w) hfn (hqs w hP.mas)
  rw[if_neg hE,Kc (hsz (by simp[hnrd])),ht.1,ht.2]
  have hA:sumA w (Zb b s).1=sumA w b:=Zi3 hfn (fun i hi=>Zok (hqs i hi))
  have hph:phG {b.data_ with left:=b.data_.left - 1}=phG b.data_ - 1:=by
   unfold phG
   dsimp only
   rw[if_neg hsec,if_neg hsec];omega
  have hph2:pdG b.conf {b.data_ with left:=b.data_.left - 1}=pdG b.conf b.data_ - 1:=by
   unfold pdG
   rw[hph]
   dsimp only[bsG]
   split<;>omega
  have haw:Zv w (Zb b s).1=Zv w b:=by unfold Zv;rw[hfn,hab]
  unfold Jk
  rw[hA]
  have hoA:othA w (Zb b s).1=othA w b:=by unfold othA;rw[(f1 hl).2,hfn]
  rw[hoA]
  by_cases hw:b.data_.who=w
  ·have e1:othD w (Zb b s).1=0:=by unfold othD;rw[(f1 hl).1,if_neg (fun h=>h.2 hw)]
   have e2:othD w b=0:=by unfold othD;rw[if_neg (fun h=>h.2 hw)]
   have e3:ownG w (Zb b s).1=phG b.data_ - 1:=by rw[Zb3 (by rw[(f1 hl).1];exact⟨hd,hw⟩),(f1 hl).1,hph]
   have e4:ownG w b=phG b.data_:=Zb3 ⟨hd,hw⟩
   rw[e1,e2,e3,e4];omega
  ·have e1:othD w (Zb b s).1=pdG b.conf b.data_ - 1:=by unfold othD;rw[(f1 hl).1,if_pos ⟨hd,hw⟩,hfn,hph2]
   have e2:othD w b=pdG b.conf b.data_:=by unfold othD;rw[if_pos ⟨hd,hw⟩]
   have e3:ownG w (Zb b s).1=ownG w b:=Z4s (fun h=>hw h.2) (by rw[(f1 hl).1];exact fun h=>hw h.2) (f1 hl).2 hfn haw
   rw[e1,e2,e3];omega
 ·have hl0:b.data_.left=0:=by omega
  have hnl:¬(b.data_.live=false∨b.data_.left > 0):=fun h=>h.elim (by simp[hd]) hl
  by_cases h2:b.data_.resp≠0∧b.data_.second=false
  ·
   have hnrd:=Zi0 hd (.inr h2)
   have hE:¬(Yd b.data_=true∧b.data_.by_=1):=by simp[Yd,hnrd]
   have hqs:=hnr (by simp[hnrd])
   have ht:=Zg9 (w:=w) hfn (hqs w hP.mas)
   have g:=f2 hl h2
   rw[if_neg hE,Kc (hsz (by simp[hnrd])),ht.1,ht.2]
   have hA:sumA w (Zb b s).1=sumA w b:=Zi3 hfn (fun i hi=>Zok (hqs i hi))
   have hph0:phG b.data_=3:=by
    unfold phG
    rw[if_neg (by simp[h2.2]),if_neg h2.1,hl0];rfl
   have hph:phG {b.data_ with second:=true}=1:=by unfold phG;rw[if_pos rfl]
   have hoA:othA w (Zb b s).1=0:=by unfold othA;rw[if_neg (by simp[g.2])]
   unfold Jk
   rw[hA,hoA]
   by_cases hw:b.data_.who=w
   ·have e1:othD w (Zb b s).1=0:=by unfold othD;rw[g.1,if_neg (fun h=>h.2 hw)]
    have e2:othD w b=0:=by unfold othD;rw[if_neg (fun h=>h.2 hw)]
    have e3:ownG w (Zb b s).1=1:=by rw[Zb3 (by rw[g.1];exact⟨hd,hw⟩),g.1,hph]
    have e4:ownG w b=3:=by rw[Zb3 ⟨hd,hw⟩,hph0]
    have e5:-1≤othA w b:=by
     unfold othA paG bsG
     repeat' split
     all_goals omega
    rw[e1,e2,e3,e4];omega
   ·have e1:othD w (Zb b s).1+2=othD w b:=by
     unfold othD
     rw[g.1,if_pos ⟨hd,hw⟩,if_pos ⟨hd,hw⟩,hfn]
     unfold pdG
     rw[hph,hph0]
     dsimp only[bsG]
     split<;>omega
    have e3:ownG w (Zb b s).1=owG b.conf+Zv w (Zb b s).1:=by
     rw[Zb6 (by rw[g.1];exact fun h=>hw h.2) (by rw[g.2];simp),hfn]
    rw[e3]
    by_cases ha:b.addr.live=true
    ·have eb:Y0 b=some b.addr:=by unfold Y0;rw[if_neg hnl,if_pos h2,if_pos ha]
     rw[eb] at hab
     by_cases haw:b.addr.who=w
     ·have e4:othA w b=0:=by unfold othA;rw[if_neg (fun h=>h.2 haw)]
      have e5:=Zwr (fun h=>hw h.2) ⟨ha,haw⟩
      have e6:Zv w (Zb b s).1≤(if b.addr.by_=1 then Zv w b else 0):=by
       by_cases h1:b.addr.by_=1
       ·have hab:(Zb b s).1.arb=if b.addr.by_=2 then Zc6 b.arb b.conf b.addr.who else b.arb:=hab
        rw[if_neg (by omega)] at hab
        rw[if_pos h1]
        unfold Zv
        rw[hfn,hab]
        exact Int.le_refl _
       ·have hb2:b.addr.by_=2:=by
         have:=(hI.alive ha).2.1
         have:b.addr.by_≠3:=fun h3=>hP.holder hI (by rw[l2 ha h3,haw])
         omega
        have hab:(Zb b s).1.arb=if b.addr.by_=2 then Zc6 b.arb b.conf b.addr.who else b.arb:=hab
        rw[if_pos hb2] at hab
        have hk:=(Zx0 hp hI.arb hP.mas b.addr.who).2 (by rw[l4 ha hb2,haw]) haw
        rw[if_neg h1]
        unfold Zv lenM
        rw[hfn,hab,hk]
        omega
      rw[e4,e5];omega
     ·have hk:=Yce hI hp hP.mas (c:=(Zb b s).1) hfn hab haw
      have e4:othA w b=paG b.conf b.addr:=by unfold othA;rw[if_pos ⟨ha,haw⟩]
      have e5:ownG w b=owG b.conf+Zv w b:=Zb6 (fun h=>hw h.2) (fun h=>haw h.2)
      have e6:bsG b.conf b.addr - 1≤paG b.conf b.addr:=by
       unfold paG
       by_cases h3:b.addr.by_=3
       ·rw[if_pos h3]
        unfold bsG
        rw[if_neg (by omega)];omega
       ·rw[if_neg h3];omega
      rw[e4,e5];omega
    ·have eb:Y0 b=none:=by unfold Y0;rw[if_neg hnl,if_pos h2,if_neg ha]
     rw[eb] at hab
     have hk:Zv w (Zb b s).1=Zv w b:=by unfold Zv;rw[hfn,hab]
     have e4:othA w b=0:=by unfold othA;rw[if_neg (fun h=>ha h.1)]
     have e5:ownG w b=owG b.conf+Zv w b:=Zb6 (fun h=>hw h.2) (fun h=>ha h.1)
     rw[hk,e4,e5];omega
  ·
   have hr:=Zuy hl h2
   have hlr:(b.data_.live&&rdyG b.data_)=true:=by simp[hd,hr]
   have g:=f3 hl h2
   have hph:phG b.data_=1:=by
    unfold phG
    by_cases hs:b.data_.second=true
    ·rw[if_pos hs]
    ·have h0:b.data_.resp=0:=by
      by_cases h0:b.data_.resp=0
      ·exact h0
      ·exact absurd ⟨h0,by simpa using hs⟩ h2
     rw[if_neg hs,if_pos h0,hl0];rfl
   have e1:othD w (Zb b s).1=0:=by unfold othD;rw[g.1,if_neg (by simp[GBeat.z0])]
   have hoA:othA w (Zb b s).1=othA w b:=by unfold othA;rw[g.2,hfn]
   have hown:ownG w (Zb b s).1=if b.addr.live=true∧b.addr.who=w then owG b.conf - 1+(if b.addr.by_=1 then Zv w (Zb b s).1 else 0) else owG b.conf+Zv w (Zb b s).1:=by
    unfold ownG
    rw[g.1,g.2,hfn,if_neg (by simp[GBeat.z0])]
   by_cases h3:b.data_.resp=2∨b.data_.resp=3
   ·have hE:¬(Yd b.data_=true∧b.data_.by_=1):=by rcases h3 with h3|h3<;>simp[Yd,h3]
    have hne:¬Yd b.data_=true:=by rcases h3 with h3|h3<;>simp[Yd,h3]
    have hsec:b.data_.second=true:=by simpa using fun hx=>h2 ⟨by omega,hx⟩
    have hna:¬b.addr.live=true:=by rw[(hD.2.2.2 hsec).2.2];simp
    have hb3:b.data_.by_≠3:=fun h=>by have:=(l3 h).1;omega
    have eb:Y0 b=some b.data_:=by unfold Y0;rw[if_neg hnl,if_neg h2,if_pos h3]
    rw[eb] at hab
    have hoA0:othA w b=0:=by unfold othA;rw[if_neg (fun h=>hna h.1)]
    rw[if_neg (fun h=>hna h.1)] at hown
    rw[if_neg hE]
    by_cases hw:b.data_.who=w
    ·
     have e2:othD w b=0:=by unfold othD;rw[if_neg (fun h=>h.2 hw)]
     have e4:ownG w b=1:=by rw[Zb3 ⟨hd,hw⟩,hph]
     have hA:sumA w (Zb b s).1=sumA w b:=by
      rw[Zwf hfn (j:=w) hP.mas (fun i hi hne=>?_),if_pos rfl]
      ·omega
      ·rw[Zok]
       rw[hq i hi,if_neg (by rw[hw];exact fun h=>hne h.symm)]
     have hsA:=(Zrs hI hP.mas).1
     have hqw:=hq w hP.mas
     rw[if_pos hw] at hqw
     unfold finT at hqw
     rw[if_neg hne] at hqw
     rcases h3 with h3|h3
     ·rw[if_pos ⟨hlr,h3⟩] at hqw
      have t1:(atI (Zb b s).1.m w).tries=(atI b.m w).tries+1:=congrArg (·.2.2.1) hqw
      have t2:(atI (Zb b s).1.m w).parted=(atI b.m w).parted:=congrArg (·.2.2.2) hqw
      have p1:Jx w (Zb b s).1=Jx w b:=by unfold Jx;rw[t2,hfn]
      rw[Kc (hsz (fun h=>by omega)),Ydk hfn t1,p1]
      have hkI:Zv w (Zb b s).1≤(lenM b.conf - 1)*Zw b.conf:=by
       have:=Zis (w:=w) (b:=(Zb b s).1) (Zp8 s hn0 hI).1 (by rw[hfn];exact hp) (by rw[hfn];exact hP.mas)
       rw[hfn] at this
       exact this.2
      unfold Jk
      rw[hA,e1,hoA,hoA0,hown,e2,e4]
      unfold xrG
      omega
     ·rw[if_neg (fun h=>by have:=h.2;omega),if_pos ⟨hlr,h3⟩] at hqw
      have t1:(atI (Zb b s).1.m w).tries=(atI b.m w).tries:=congrArg (·.2.2.1) hqw
      have t2:(atI (Zb b s).1.m w).parted=true:=congrArg (·.2.2.2) hqw
      have t3:=(hD.2.2.1 h3).1
      rw[hw] at t3
      have p1:Kp w (Zb b s).1=Kp w b:=by unfold Kp;rw[t1,hfn]
      have p2:Jx w (Zb b s).1=0:=by unfold Jx;rw[if_pos t2]
      have p3:Jx w b=xsG b.conf:=by unfold Jx;rw[if_neg (by simp[t3])]
      have hss:atI (Zb b s).1.splits w=Jr b.conf s b.picks:=by
       rw[hsp,if_pos ⟨hlr,h3⟩,hw,Zex _ hbw.1 (by have:=hI.sl;omega)]
      have hsl:1≤Jr b.conf s b.picks∧Jr b.conf s b.picks≤b.conf.maxSplit:=by
       have:=Xe hI.conf
       unfold Jr
       omega
      unfold Z9
      rw[hss,if_pos (by omega),p1,p2,p3,hfn]
      unfold Jk
      rw[e2,e4,hoA0]
      unfold xsG
      omega
    ·
     have e2:othD w b=bsG b.conf b.data_ - 7:=by
      unfold othD
      rw[if_pos ⟨hd,hw⟩]
      unfold pdG
      rw[if_neg hb3,hph,if_neg (by omega)];omega
     have e5:ownG w b=owG b.conf+Zv w b:=Zb6 (fun h=>hw h.2) (fun h=>hna h.1)
     have hk:=Yce hI hp hP.mas (c:=(Zb b s).1) hfn hab hw
     have hqw:=hq w hP.mas
     rw[if_neg hw] at hqw
     have ht:=Zg9 (w:=w) hfn hqw
     have hqd:=hq b.data_.who hwd
     rw[if_pos rfl] at hqd
     unfold finT at hqd
     rw[if_neg hne] at hqd
     have hatt:attG b.conf (atI (Zb b s).1.m b.data_.who)=attG b.conf (atI b.m b.data_.who) - 8:=by
      rcases h3 with h3|h3
      ·rw[if_pos ⟨hlr,h3⟩] at hqd
       have t1:(atI (Zb b s).1.m b.data_.who).tries=(atI b.m b.data_.who).tries+1:=congrArg (·.2.2.1) hqd
       have t2:(atI (Zb b s).1.m b.data_.who).parted=(atI b.m b.data_.who).parted:=congrArg (·.2.2.2) hqd
       unfold attG
       rw[t1,t2];omega
      ·rw[if_neg (fun h=>by have:=h.2;omega),if_pos ⟨hlr,h3⟩] at hqd
       have t1:(atI (Zb b s).1.m b.data_.who).tries=(atI b.m b.data_.who).tries:=congrArg (·.2.2.1) hqd
       have t2:(atI (Zb b s).1.m b.data_.who).parted=true:=congrArg (·.2.2.2) hqd
       have t3:=(hD.2.2.1 h3).1
       unfold attG
       rw[t1,t2,t3]
       simp;omega
     have hA:sumA w (Zb b s).1=sumA w b - 8:=by
      rw[Zwf hfn (j:=b.data_.who) hwd (fun i hi hne=>Zok (by rw[hq i hi,if_neg (fun h=>hne h.symm)])),if_neg hw,hatt]
      omega
     rw[Kc (hsz (fun h=>hw h.2.2)),ht.1,ht.2]
     unfold Jk
     rw[hA,e1,hoA,hown,e2,e5]
     omega
   ·have hresp:b.data_.resp≤1:=by omega
    have he:Yd b.data_=true:=by
     simp only[Yd,hd,hr,decide_eq_true (show b.data_.resp≠2∧b.data_.resp≠3 by omega)]
     rfl
    have hw:b.data_.who≠w:=fun h=>hn ⟨he,h⟩
    have eb:Y0 b=none:=by unfold Y0;rw[if_neg hnl,if_neg h2,if_neg h3]
    rw[eb] at hab
    have hk:Zv w (Zb b s).1=Zv w b:=by unfold Zv;rw[hfn,hab]
    have e5:ownG w (Zb b s).1=ownG w b:=Z4s (fun h=>hw h.2) (by rw[g.1];simp[GBeat.z0]) g.2 hfn hk
    have hqw:=hq w hP.mas
    rw[if_neg hw] at hqw
    have ht:=Zg9 (w:=w) hfn hqw
    have hqd:=hq b.data_.who hwd
    rw[if_pos rfl] at hqd
    unfold finT at hqd
    rw[if_pos he] at hqd
    have t1:(atI (Zb b s).1.m b.data_.who).tries=0:=congrArg (·.2.2.1) hqd
    have t2:(atI (Zb b s).1.m b.data_.who).parted=false:=congrArg (·.2.2.2) hqd
    have hatt:attG b.conf (atI (Zb b s).1.m b.data_.who)=8*b.conf.maxRetry+8:=by
     unfold attG
     rw[t1,t2]
     simp;omega
    have hA:sumA w (Zb b s).1=sumA w b+(8*b.conf.maxRetry+8 - attG b.conf (atI b.m b.data_.who)):=by
     rw[Zwf hfn (j:=b.data_.who) hwd (fun i hi hne=>Zok (by rw[hq i hi,if_neg (fun h=>hne h.symm)])),if_neg hw,hatt]
    have hab0:=Zzx hI hwd
    rw[Kc (hsz (fun h=>by have:=h.2.1;omega)),ht.1,ht.2]
    unfold Jk
    rw[hA,e1,hoA,e5]
    have e2:othD w b=pdG b.conf b.data_:=by unfold othD;rw[if_pos ⟨hd,hw⟩]
    rw[e2]
    unfold pdG
    rw[hph,if_pos hresp]
    by_cases hb3:b.data_.by_=3
    ·have h33:=l3 hb3
     have:attG b.conf (atI b.m b.data_.who)=8*b.conf.maxRetry+8:=by
      unfold attG
      rw[h33.2.1,h33.2.2]
      simp;omega
     rw[if_pos hb3,if_neg (fun h=>by have:=h.2;omega)]
     omega
    ·rw[if_neg hb3]
     unfold bsG
     by_cases hb1:b.data_.by_=1
     ·rw[if_neg (by omega),if_pos ⟨he,hb1⟩];omega
     ·rw[if_pos (by omega),if_neg (fun h=>hb1 h.2)];omega
end
section
variable {n w:Int} {b:GBus} {s:GScript}
theorem Pend.keep {c:GBus} (h:Pend w b) (hc:c.conf=b.conf) (hq:(atI c.m w).queue=(atI b.m w).queue):Pend w c:=by
 refine⟨by rw[hc];exact h.mas,by rw[hq];exact h.ne,?_,by rw[hq];exact h.lock,?_⟩
 ·unfold Ze
  rw[hq]
  exact h.one
 ·rw[Z7n hq];exact h.mem
theorem Pend.open (h:Pend w b) (hP:BusP b):Pend w (Zc b s):=by
 have e:=Xs b s
 obtain⟨l,el⟩:=Z3x hP s h.mas
 have hx:=Ydy l h.ne 0
 refine⟨by rw[e.2.1];exact h.mas,by rw[el];simp[h.ne],by rw[el,hx.1];exact h.one,by rw[el];show (atI ((atI b.m w).queue++l) 0).lock=false;rw[hx.2.2];exact h.lock,by rw[el,hx.2.1];exact h.mem⟩
theorem Ygh (hI:BusI n b) (hw:Za b.conf w=true):Z9 w (Zr b)=Z9 w b:=by
 have e:=Zdv b
 have ea:=Z0s b
 have hq:=fun i hi=>Zrr (i:=i) hI hi
 have ht:=Zg9 (w:=w) e.2.2.2.2.1 (hq w hw)
 have hA:sumA w (Zr b)=sumA w b:=Zi3 e.2.2.2.2.1 (fun i hi=>Zok (hq i hi))
 have hk:Zv w (Zr b)=Zv w b:=by unfold Zv;rw[e.2.2.2.2.1,ea.1]
 unfold Z9 Jk othD othA ownG
 rw[ht.1,ht.2,hA,hk,ea.2,e.1,e.2.1,e.2.2.2.2.1]
theorem do_le1 (m:GModel) (w:Bool) (a z v:Int):(Zce m w a z v).2.2≤1:=by
 unfold Zce
 repeat' split
 all_goals simp
theorem Z3i (hp:Plain b.conf) (x:GBeat):0≤(Yu b s x).2∧(Yu b s x).2≤2∧(1 < (Yu b s x).1→(Yu b s x).2=0)∧(Ye (Ya (atI b.m x.who) x.beat)=1∨Ye (Ya (atI b.m x.who) x.beat)=2→(Yu b s x).2=0)∧((atI b.m x.who).broken=true→(Yu b s x).1=1∧(Yu b s x).2=0):=by
 have hw:=Zz5 hp.ok s b.picks
 rw[hp.wait] at hw
 have hw0:Zkz b.conf s b.picks=0:=by omega
 have hdo:=do_le1 b.model (atI (atI b.m x.who).queue 0).write (Ya (atI b.m x.who) x.beat) (atI (atI b.m x.who).queue 0).size (Znn (atI b.m x.who) x.beat)
 have hdo:(doG b x).2.2≤1:=hdo
 unfold Yu
 split
 ·refine⟨by simp,by simp,by simp,by simp,by simp⟩
 ·rename_i h0
  dsimp only
  rw[hw0]
  refine⟨by split<;>omega,by split<;>omega,fun h=>?_,fun h=>by rw[if_neg (by omega)],fun h=>absurd (.inl h) h0⟩
  split at h
  ·rename_i h1
   rw[if_neg h1.2.1]
  ·split at h
   ·rename_i h1 h2
    rw[if_neg (by omega)]
   ·omega
theorem Yf1 (hI:BusI n b) (hp:Plain b.conf) (hP:Pend w b) (hz:atI b.splits w=0) (hd:b.data_=GBeat.z0) (ha:b.addr.live=true) (hb3:b.addr.by_=3→(atI b.m b.addr.who).broken=true):
  (b.addr.who=w→Z9 w (Z1 b s)≤Z9 w b - Zw b.conf)∧(b.addr.who≠w→Z9 w (Z1 b s)≤Z9 w b - (if b.addr.by_=3 then 0 else 4))∧(Z1 b s).data_.who=b.addr.who:=by
 have e:=J3 b s
 have em:=Zxz b s
 have hA:=hI.addr
 unfold Wt at hA
 rw[if_pos ha] at hA
 have hbeat:=Ziv hI ha
 have hsh:=Z3i (b:=b) (s:=s) hp b.addr
 have hal:=Zis hI hp hP.mas
 have hby:=(hI.alive ha).2.1
 have hG:=hp.unit
 have ht:=Zg9 (w:=w) (c:=Z1 b s) e.2.1 (by rw[Zrd])
 have hsA:sumA w (Z1 b s)=sumA w b:=Zi3 e.2.1 (fun i hi=>by rw[Zrd])
 have hk:Zv w (Z1 b s)=Zv w b:=by unfold Zv;rw[e.2.1,em.1]
 have ed:(Z1 b s).data_={b.addr with left:=(Yu b s b.addr).2,resp:=(Yu b s b.addr).1}:=by unfold Z1;rw[if_pos ha]
 have ea:(Z1 b s).addr=GBeat.z0:=by unfold Z1;rw[if_pos ha]
 have hph:phG (Z1 b s).data_=(Yu b s b.addr).2+(if (Yu b s b.addr).1=0 then 1 else 3):=by
  rw[ed]
  unfold phG
  dsimp only
  rw[if_neg (by simp[hA.2.2.2])]
 have hdl:¬b.data_.live=true:=by rw[hd];simp[GBeat.z0]
 have oA:othA w (Z1 b s)=0:=by unfold othA;rw[ea,if_neg (by simp[GBeat.z0])]
 have oD:othD w b=0:=by unfold othD;rw[if_neg (fun h=>hdl h.1)]
 have hz2:atI (Z1 b s).splits w=0:=by rw[e.2.2.2.2.2.1];exact hz
 refine⟨fun hw=>?_,fun hw=>?_,by rw[ed]⟩
 ·rw[Kc hz2,Kc hz,ht.1,ht.2]
  have hb0:b.addr.beat=0:=by
   have:=hP.one
   rw[hw] at hbeat
   omega
  have hm:=hP.mem
  have hl0:(Yu b s b.addr).2=0:=hsh.2.2.2.1 (by rw[hw,hb0];exact hm)
  have o1:ownG w (Z1 b s)≤3:=by
   rw[Zb3 (by rw[ed];exact⟨ha,hw⟩),hph,hl0]
   split<;>omega
  have o2:owG b.conf - 1≤ownG w b:=by
   rw[Zwr (fun h=>hdl h.1) ⟨ha,hw⟩]
   split<;>omega
  have o3:othD w (Z1 b s)=0:=by unfold othD;rw[ed,if_neg (fun h=>h.2 hw)]
  have o4:othA w b=0:=by unfold othA;rw[if_neg (fun h=>h.2 hw)]
  unfold Jk
  rw[hsA,oA,oD,o3,o4]
  unfold owG at o2
  omega
 ·rw[Kc hz2,Kc hz,ht.1,ht.2]
  have o1:ownG w (Z1 b s)=ownG w b:=by
   rw[Zb6 (by rw[ed];exact fun h=>hw h.2) (by rw[ea];simp[GBeat.z0]),Zb6 (fun h=>hdl h.1) (fun h=>hw h.2),hk,e.2.1]
  have o3:othD w (Z1 b s)=pdG b.conf (Z1 b s).data_:=by unfold othD;rw[if_pos (by rw[ed];exact⟨ha,hw⟩),e.2.1]
  have o4:othA w b=paG b.conf b.addr:=by unfold othA;rw[if_pos ⟨ha,hw⟩]
  unfold Jk
  rw[hsA,oA,oD,o3,o4,o1]
  unfold pdG paG
  rw[hph]
  have eb:(Z1 b s).data_.by_=b.addr.by_:=by rw[ed]
  have er:(Z1 b s).data_.resp=(Yu b s b.addr).1:=by rw[ed]
  have ebs:bsG b.conf (Z1 b s).data_=bsG b.conf b.addr:=by unfold bsG;rw[eb]
  rw[eb,er,ebs]
  by_cases h3:b.addr.by_=3
  ·rw[if_pos h3,if_pos h3,if_pos h3]
   have:=hsh.2.2.2.2 (hb3 h3)
   rw[this.1,this.2]
   simp
  ·rw[if_neg h3,if_neg h3,if_neg h3]
   have h23:=hsh.2.2.1
   by_cases hr:(Yu b s b.addr).1≤1
   ·rw[if_pos hr]
    split<;>omega
   ·rw[if_neg hr,h23 (by omega),if_neg (by omega)]
    omega
theorem Zty (hI:BusI n b):(Zh b).2.splits=b.splits:=by
 have hp:=Zdh hI
 unfold Zh
 split
 ·exact hp.splits
 ·exact hp.splits
theorem Ygm (hI:BusI n b) (hp:Plain b.conf) (hP:Pend w b) (hz:atI b.splits w=0) (ha:b.addr=GBeat.z0):
  ((Zh b).2.addr.live=false→Z9 w (Zh b).2=Z9 w b∧(b.holder≠-1∨(b.data_.live=true∧b.data_.who=w)))∧
  ((Zh b).2.addr.live=true→(Zh b).2.addr.by_=3→b.holder≠-1∧Z9 w (Zh b).2≤Z9 w b+3)∧
  ((Zh b).2.addr.live=true→(Zh b).2.addr.by_≠3→Z9 w (Zh b).2≤Z9 w b+(if b.data_.live=true∧b.data_.who=w then Zw b.conf - 1 else -1)):=by
 have hga:=Zgv hI
 have hq:=fun i hi=>Zwj (i:=i) hI hi
 have hsp:=Zty hI
 have ht:=Zg9 (w:=w) (c:=(Zh b).2) hga.2.1 (hq w hP.mas)
 have hsA:sumA w (Zh b).2=sumA w b:=Zi3 hga.2.1 (fun i hi=>Zok (hq i hi))
 have hz2:atI (Zh b).2.splits w=0:=by rw[hsp];exact hz
 have hal:b.addr.live=false:=by rw[ha]
 have hnA:¬b.addr.live=true:=by simp[hal]
 have oA:othA w b=0:=by unfold othA;rw[if_neg (fun h=>hnA h.1)]
 have oD:othD w (Zh b).2=othD w b:=by unfold othD;rw[hga.2.2.2.2.2,hga.2.1]
 have hmo:=hP.one
 have hdn:=hP.done hI
 have hfl:=hI.fly w hP.mas
 unfold flyG at hfl
 rw[if_neg (fun h=>hnA h.1)] at hfl
 have hwant:b.holder=-1→¬(b.data_.live=true∧b.data_.who=w)→W4 b w=true:=fun hh hd=>by
  rw[if_neg hd] at hfl
  unfold W4 Zoc
  rw[hz,hh]
  simp;omega
 have hnw:W4 b w=true→¬(b.data_.live=true∧b.data_.who=w):=fun h hd=>by
  rw[if_pos hd] at hfl
  have:=(Zm2 h).1
  omega
 have hkI:=Zis hI hp hP.mas
 rw[Kc hz2,Kc hz,ht.1,ht.2]
 unfold Jk
 rw[hsA,oD,oA]
 have own_e:∀(hx:¬((Zh b).2.addr.live=true∧(Zh b).2.addr.who=w)),Zv w (Zh b).2=Zv w b→ownG w (Zh b).2=ownG w b:=fun hx hk=>by
  unfold ownG
  rw[hga.2.2.2.2.2,hga.2.1,hk]
  by_cases hd:b.data_.live=true∧b.data_.who=w
  ·rw[if_pos hd,if_pos hd]
  ·rw[if_neg hd,if_neg hd,if_neg hx,if_neg (fun h=>hnA h.1)]
 rcases Z0y hI hal with h1|h1
 ·refine⟨fun _=>?_,fun h=>(by rw[h1.1] at h;cases h),fun h=>(by rw[h1.1] at h;cases h)⟩
  have oA2:othA w (Zh b).2=0:=by unfold othA;rw[if_neg (by simp[h1.1])]
  rw[oA2]
  by_cases hh:b.holder=-1
  ·have hno:=h1.2.2.2.1 hh w hP.mas
   have hd:b.data_.live=true∧b.data_.who=w:=by
    by_cases hd:b.data_.live=true∧b.data_.who=w
    ·exact hd
    ·rw[hwant hh hd] at hno;cases hno
   have e1:ownG w (Zh b).2=ownG w b:=by rw[Zb3 hd,Zb3 (by rw[hga.2.2.2.2.2];exact hd),hga.2.2.2.2.2]
   rw[e1]
   exact⟨rfl,.inr hd⟩
  ·have hk:Zv w (Zh b).2=Zv w b:=by unfold Zv;rw[hga.2.1,h1.2.2.2.2 hh]
   rw[own_e (by simp[h1.1]) hk]
   exact⟨rfl,.inl hh⟩
 ·refine⟨fun h=>(by rw[h1.live] at h;cases h),fun _ hb3=>?_,fun _ hb3=>?_⟩
  ·rcases h1.how with h4|h4|h4
   ·omega
   ·omega
   ·have hne:(Zh b).2.addr.who≠w:=by rw[h4.2.2.1];exact hP.holder hI
    have hk:Zv w (Zh b).2=Zv w b:=by unfold Zv;rw[hga.2.1,h4.2.2.2.1]
    have oA2:othA w (Zh b).2=3:=by
     unfold othA
     rw[if_pos ⟨h1.live,hne⟩]
     unfold paG
     rw[if_pos hb3]
    rw[own_e (fun h=>hne h.2) hk,oA2]
    exact⟨h4.2.1,by omega⟩
  ·by_cases hew:(Zh b).2.addr.who=w
   ·have hw:=h1.want
    rw[hew] at hw
    have hnd:=hnw hw
    rw[if_neg hnd]
    have oA2:othA w (Zh b).2=0:=by unfold othA;rw[if_neg (fun h=>h.2 hew)]
    have e1:=Zwr (w:=w) (b:=(Zh b).2) (by rw[hga.2.2.2.2.2];exact hnd) ⟨h1.live,hew⟩
    have e2:ownG w b=owG b.conf+Zv w b:=Zb6 hnd (fun h=>hnA h.1)
    rw[oA2,e1,e2,hga.2.1]
    rcases h1.how with h4|h4|h4
    ·have hk:Zv w (Zh b).2=Zv w b:=by unfold Zv;rw[hga.2.1,h4.2.2]
     rw[if_pos h4.1,hk];omega
    ·rw[if_neg (by omega)];omega
    ·exact absurd h4.1 hb3
   ·have oA2:othA w (Zh b).2=bsG b.conf (Zh b).2.addr - 1:=by
     unfold othA
     rw[if_pos ⟨h1.live,hew⟩,hga.2.1]
     unfold paG
     rw[if_neg hb3]
    rw[oA2]
    rcases h1.how with h4|h4|h4
    ·have hk:Zv w (Zh b).2=Zv w b:=by unfold Zv;rw[hga.2.1,h4.2.2]
     rw[own_e (fun h=>hew h.2) hk]
     unfold bsG
     rw[if_neg (by omega)]
     have hu:=hp.unit
     split<;>omega
    ·have eb:bsG b.conf (Zh b).2.addr=Zw b.conf:=by unfold bsG;rw[if_pos h4.1]
     rw[eb]
     by_cases hd:b.data_.live=true∧b.data_.who=w
     ·rw[if_pos hd]
      have e1:ownG w (Zh b).2=ownG w b:=by rw[Zb3 hd,Zb3 (by rw[hga.2.2.2.2.2];exact hd),hga.2.2.2.2.2]
      rw[e1];omega
     ·rw[if_neg hd]
      have hww:=hwant h4.2.1 hd
      have hpk:=Z9l hp hI.arb (wants:=We b) (by rw[Kz];exact hI.ml) hP.mas (by rw[Zmc hI hP.mas];exact hww)
      have h5:=hpk.2.2 (by rw[←h4.2.2.2];exact hew)
      rw[←h4.2.2.1] at h5
      have hu:0≤Zw b.conf:=by have:=hp.unit;omega
      have h6:=Int.mul_le_mul_of_nonneg_right h5 hu
      rw[Int.sub_mul] at h6
      have hk:Zv w (Zh b).2≤Zv w b - Zw b.conf:=by
       unfold Zv lenM
       rw[hga.2.1]
       omega
      have e1:ownG w (Zh b).2=owG b.conf+Zv w (Zh b).2:=by rw[Zb6 (by rw[hga.2.2.2.2.2];exact hd) (fun h=>hew h.2),hga.2.1]
      have e2:ownG w b=owG b.conf+Zv w b:=Zb6 hd (fun h=>hnA h.1)
      rw[e1,e2];omega
    ·exact absurd h4.1 hb3
theorem Z8s (hP:BusP b) (hp:Plain b.conf) {f k g:GBus} (S:Stations b s f k g) (hh:g.holder≠-1):b.holder≠-1∧b.held=0:=by
 have e:=Xs b s
 have om:=Zmh b s
 have hlk:=hp.lock
 have hH:=hP.held
 have hfh:=Zm4 (Zc b s) s
 rw[←S.ef,e.2.2.2.2.2.2.2,om.1,e.2.2.2.2.2.2.1] at hfh
 have hbk:=Zt9 f
 rw[←S.ek,S.conf.1] at hbk
 have hgd:=J3 k s
 rw[←S.eg] at hgd
 rw[hgd.2.2.2.2.2.2.1] at hh
 rcases hbk with h1|h1
 ·exact absurd h1.1 hh
 ·rcases hfh with h2|h2
  ·have hb1:b.holder≠-1:=by rw[←h2.1];exact h1.2.2.1
   refine⟨hb1,?_⟩
   unfold Za3 at hH
   have h3:=hH.2
   rw[if_neg hb1] at h3
   have h4:=h1.2.2.2
   rw[h2.2] at h4
   unfold Zc2 at h4
   rw[if_neg hb1] at h4
   omega
  ·exact absurd h2.1 h1.2.2.1
end
section
variable {n w:Int} {b:GBus} {s:GScript}
theorem Z89 (hP:BusP b) (hL:LockI b) (s:GScript):
  ((Zc b s).addr.live=true→(Zc b s).addr.by_=3→(Zc b s).holder=(Zc b s).addr.who)∧
  ((Zc b s).data_.live=true→(Zc b s).data_.by_=3→(Zc b s).data_.resp=1∧(atI (Zc b s).m (Zc b s).data_.who).tries=0∧(atI (Zc b s).m (Zc b s).data_.who).parted=false)∧
  ((Zc b s).addr.live=true→(Zc b s).addr.by_=2→(Zc b s).arb.at_=(Zc b s).addr.who):=by
 have e:=Xs b s
 have om:=Zmh b s
 rw[e.2.2.2.2.2.1,e.2.2.2.2.2.2.1,e.2.2.2.2.2.2.2,om.2]
 refine⟨fun h1 h2=>(hL.l2 h1 h2).1,fun h1 h2=>?_,hL.l4⟩
 have h3:=hL.l3 h1 h2
 have hq:=Zqx hP s (Xd hP.i h1)
 rw[hq.1,hq.2]
 exact h3
theorem Z7a (hP:BusP b) (hp:Plain b.conf) (hL:LockI b) (hW:Pend w (Zc b s)) (hz:atI (Zc b s).splits w=0) (hn:¬(Yd b.data_=true∧b.data_.who=w)):
  ∃x:Int,Z9 w (Zq b s).1≤Z9 w (Zc b s) - 1+x*Zw b.conf∧tokV (Zq b s).1≤tokV (Zc b s) - x*Wd b.conf:=by
 have e:=Xs b s
 have hO:=Zoh hP s
 have hlo:=Z89 hP hL s
 have hoc:(Zc b s).conf=b.conf:=e.2.1
 have hnow:0≤(Zc b s).now:=by rw[e.1];exact hP.now.1
 have hpo:Plain (Zc b s).conf:=by rw[hoc];exact hp
 have hG:=hp.unit
 have hfn:=(Zbs (Zc b s) s).2.2
 have hV:=fin_V (s:=s) hO hpo
 rw[e.2.2.2.2.2.2.1,hoc] at hV
 have hfin:b.data_.live=true→Z9 w (Zb (Zc b s) s).1≤Z9 w (Zc b s) - 1+(if Yd b.data_=true∧b.data_.by_=1 then Zw b.conf else 0):=fun hd=>by
  have:=fin_W (s:=s) hO hnow hpo hW hz (by rw[e.2.2.2.2.2.2.1];exact hd) (by rw[e.2.2.2.2.2.2.1];exact hn) hlo.1 (hlo.2.1 (by rw[e.2.2.2.2.2.2.1];exact hd)) hlo.2.2
  rw[e.2.2.2.2.2.2.1,hoc] at this
  exact this
 let x:Int:=if Yd b.data_=true∧b.data_.by_=1 then 1 else 0
 have hx1:(if Yd b.data_=true∧b.data_.by_=1 then Zw b.conf else 0)=x*Zw b.conf:=by
  show _=(if Yd b.data_=true∧b.data_.by_=1 then 1 else 0)*Zw b.conf
  split<;>simp
 have hx2:(if Yd b.data_=true∧b.data_.by_=1 then Wd b.conf else 0)=x*Wd b.conf:=by
  show _=(if Yd b.data_=true∧b.data_.by_=1 then 1 else 0)*Wd b.conf
  split<;>simp
 rw[hx2] at hV
 have hx0:b.data_.live=false→x=0:=fun hd=>by
  show (if Yd b.data_=true∧b.data_.by_=1 then (1:Int) else 0)=0
  rw[if_neg (by simp[Yd,hd])]
 by_cases hr:rdyG b.data_=true
 ·obtain⟨f,k,g,S⟩:=Zr8 hP s hr
  have hfc:=S.conf.1
  have hfq:=fun i hi=>Z23 (i:=i) s hO hi
  have hdw:¬(Yd (Zc b s).data_=true∧(Zc b s).data_.who=w):=by rw[e.2.2.2.2.2.2.1];exact hn
  have hqf:(atI f.m w).queue=(atI (Zc b s).m w).queue:=by
   rw[S.ef]
   have:=hfq w hW.mas
   rw[show (atI (Zb (Zc b s) s).1.m w).queue=(qt (atI (Zb (Zc b s) s).1.m w)).1 from rfl,this]
   by_cases hw:(Zc b s).data_.who=w
   ·rw[if_pos hw]
    unfold finT
    rw[if_neg (fun h=>hdw ⟨h,hw⟩)]
    repeat' split
    all_goals rfl
   ·rw[if_neg hw];rfl
  have hWf:Pend w f:=hW.keep (by rw[hfc,hoc]) hqf
  have hqk:(atI k.m w).queue=(atI f.m w).queue:=by
   rw[S.ek]
   exact congrArg (·.1) (Zrr S.fI hWf.mas)
  have hWk:Pend w k:=hWf.keep (by rw[S.conf.2.1,hfc]) hqk
  have hWg:Pend w g:=hWk.keep (by rw[S.conf.2.2,S.conf.2.1]) (by rw[S.eg,Zrd])
  have hXk:Z9 w k=Z9 w f:=by rw[S.ek];exact Ygh S.fI hWf.mas
  have hTk:tokV k=tokV f:=by rw[S.ek];exact Z74
  have hTg:tokV g=tokV k:=by rw[S.eg];exact Z7v (by rw[S.kz])
  have hTe:tokV (Zh g).2=tokV g:=Z7x S.gI (by rw[S.conf.2.2];exact hp) (by rw[S.gz])
  have hspk:k.splits=f.splits:=by rw[S.ek];exact (Z0s f).2
  have hspg:g.splits=k.splits:=by rw[S.eg];exact (J3 k s).2.2.2.2.2.1
  have hspe:=Zty S.gI
  rw[S.e]
  show ∃x:Int,Z9 w (Zh g).2≤_∧tokV (Zh g).2≤_
  rw[hTe,hTg,hTk]
  by_cases hs0:atI f.splits w=0
  ·have hzk:atI k.splits w=0:=by rw[hspk];exact hs0
   have hzg:atI g.splits w=0:=by rw[hspg];exact hzk
   have hgr:=Ygm (w:=w) S.gI (by rw[S.conf.2.2];exact hp) hWg hzg S.gz
   have hhf:=fun h=>Z8s hP hp S h
   rw[S.conf.2.2] at hgr
   have hrest:Z9 w (Zh g).2≤Z9 w k - (if b.data_.live=true then 0 else 1):=by
    by_cases ha:b.addr.live=true
    ·have hka:k.addr.live=true:=by rw[S.ka];exact ha
     have hbr3:k.addr.by_=3→(atI k.m k.addr.who).broken=true:=by
      intro hb3
      rw[S.ka] at hb3 ⊢
      obtain⟨k1,k2,k3,k4⟩:=hL.l2 ha hb3
      have hwa:=Qg hP.i ha
      have hne1:b.holder≠-1:=by rw[k1];have:=Z3 hwa;omega
      have om:=Zmh b s
      have hfh:=Zm4 (Zc b s) s
      rw[←S.ef,e.2.2.2.2.2.2.2,om.1,e.2.2.2.2.2.2.1] at hfh
      have hH:=hP.held
      unfold Za3 at hH
      have h3:=hH.2
      rw[if_neg hne1] at h3
      have hlk:=hp.lock
      have hup:Zc2 b=b.conf.lockMost:=by unfold Zc2;rw[if_neg hne1];omega
      have hlast:¬((atI (Zc b s).m b.data_.who).done+1=Ze (atI (Zc b s).m b.data_.who)):=fun hx=>by
       have hao:(Zc b s).addr.live=true:=by rw[e.2.2.2.2.2.1];exact ha
       have hab:=Ziv hO hao
       have hA:=hO.addr
       unfold Wt at hA
       rw[if_pos hao] at hA
       have hfl:=hO.fly b.addr.who (by rw[e.2.1];exact hwa)
       unfold flyG at hfl
       rw[e.2.2.2.2.2.1,e.2.2.2.2.2.2.1,if_pos ⟨ha,rfl⟩,if_pos ⟨k3,k4⟩] at hfl
       rw[e.2.2.2.2.2.1] at hab hA
       rw[k4] at hx
       omega
      have hfh2:f.holder=b.holder∧f.held=Zc2 b:=by
       rcases hfh with h2|h2
       ·exact h2
       ·exact absurd h2.2.2.2.2 hlast
      rw[S.ek]
      unfold Zr
      rw[if_pos ⟨by rw[hfh2.1];exact hne1,by rw[hfh2.2,S.conf.1];exact hup⟩]
      show (atI (f.m.set f.holder.toNat {atI f.m f.holder with broken:=true}) b.addr.who).broken=true
      have hwf:Za f.conf b.addr.who=true:=by rw[S.conf.1];exact hwa
      rw[S.fI.at_m (by rw[hfh2.1,k1];exact hwf) _ hwf,if_pos (by rw[hfh2.1,k1])]
     have hbg:=Yf1 (w:=w) (s:=s) S.kI (by rw[S.conf.2.1];exact hp) hWk hzk S.kz hka hbr3
     rw[←S.eg,S.conf.2.1,S.ka] at hbg
     have hgl:g.data_.live=true:=by
      rw[S.eg]
      unfold Z1
      rw[if_pos hka]
      exact hka
     by_cases hw:b.addr.who=w
     ·have h1:=hbg.1 hw
      cases hel:(Zh g).2.addr.live with
      | false=>have:=(hgr.1 hel).1;split<;>omega
      | true=>
       by_cases h3:(Zh g).2.addr.by_=3
       ·have:=(hgr.2.1 hel h3).2;split<;>omega
       ·have:=hgr.2.2 hel h3
        split at this<;>split<;>omega
     ·have h1:=hbg.2.1 hw
      have hnd:¬(g.data_.live=true∧g.data_.who=w):=by rw[hbg.2.2];exact fun h=>hw h.2
      cases hel:(Zh g).2.addr.live with
      | false=>
       have h2:=(hgr.1 hel).1
       by_cases hb3:b.addr.by_=3
       ·rw[if_pos hb3] at h1
        rw[if_pos (hL.l2 ha hb3).2.2.1];omega
       ·rw[if_neg hb3] at h1
        split<;>omega
      | true=>
       by_cases h3:(Zh g).2.addr.by_=3
       ·have h4:=hgr.2.1 hel h3
        have h5:=hhf h4.1
        have h6:=(hL.l1 h5.1 h5.2).2.2
        rw[if_neg h6] at h1
        split<;>omega
       ·have h4:=hgr.2.2 hel h3
        rw[if_neg hnd] at h4
        split at h1<;>split<;>omega
    ·have hka:¬k.addr.live=true:=by rw[S.ka];exact ha
     have hgk:g=k:=by
      rw[S.eg]
      unfold Z1
      rw[if_neg hka]
     have hnd:¬(g.data_.live=true∧g.data_.who=w):=by rw[hgk,S.kz];simp[GBeat.z0]
     have hnh:¬g.holder≠-1:=fun h=>by
      have h5:=hhf h
      exact ha (hL.l1 h5.1 h5.2).1
     cases hel:(Zh g).2.addr.live with
     | false=>
      have h2:=hgr.1 hel
      rcases h2.2 with h3|h3
      ·exact absurd h3 hnh
      ·exact absurd h3 hnd
     | true=>
      by_cases h3:(Zh g).2.addr.by_=3
      ·exact absurd (hgr.2.1 hel h3).1 hnh
      ·have h4:=hgr.2.2 hel h3
       rw[if_neg hnd,hgk] at h4
       rw[hgk]
       split<;>omega
   refine⟨x,?_,by rw[S.ef];exact hV⟩
   by_cases hd:b.data_.live=true
   ·have h1:=hfin hd
    rw[←S.ef,hx1] at h1
    rw[if_pos hd] at hrest
    omega
   ·have hd2:b.data_.live=false:=by simpa using hd
    have hfe:f=Zc b s:=by
     rw[S.ef]
     unfold Zb
     rw[if_pos (by rw[e.2.2.2.2.2.2.1];exact hd2)]
    rw[hx0 hd2]
    rw[if_neg hd,hXk,hfe] at hrest
    omega
  ·
   have hge:atI f.splits w > 0:=by
    have:=(S.fI.mst w hWf.mas).split
    omega
   have hdl:b.data_.live=true:=by
    cases hd:b.data_.live with
    | true=>rfl
    | false=>
     exfalso
     apply hs0
     rw[S.ef,Zsb,if_neg (by rw[e.2.2.2.2.2.2.1];simp[hd])]
     exact hz
   have hsame:Z9 w (Zh g).2=Z9 w f:=by
    have hq:qt (atI (Zh g).2.m w)=qt (atI f.m w):=by
     rw[Zwj S.gI hWg.mas,S.eg,Zrd,S.ek,Zrr S.fI hWf.mas]
    have hcf:(Zh g).2.conf=f.conf:=by rw[(Zgv S.gI).2.1,S.conf.2.2,S.conf.1]
    have ht:=Zg9 (w:=w) hcf hq
    have hsp:(Zh g).2.splits=f.splits:=by rw[hspe,hspg,hspk]
    unfold Z9
    rw[ht.1,ht.2,hsp,if_pos hge,if_pos hge,hcf]
   refine⟨x,?_,by rw[S.ef];exact hV⟩
   have h1:=hfin hdl
   rw[←S.ef,hx1] at h1
   omega
 ·have hr2:rdyG b.data_=false:=by simpa using hr
  have es:(Zq b s).1={(Zb (Zc b s) s).1 with now:=b.now+1}:=by rw[Ze4,if_neg hr]
  have hd:b.data_.live=true:=(Zw8 hP s hr2).1
  rw[es]
  show ∃x:Int,Z9 w (Zb (Zc b s) s).1≤_∧tokV (Zb (Zc b s) s).1≤_
  have h1:=hfin hd
  rw[hx1] at h1
  exact⟨x,h1,hV⟩
theorem Z92 (hP:BusP b) (hp:Plain b.conf) (hw:Za b.conf w=true) (hz:atI (Zc b s).splits w > 0) (hnd:¬(b.data_.live=true∧b.data_.who=w)) (hsp:atI (Zq b s).1.splits w=atI (Zc b s).splits w):
  Z9 w (Zq b s).1=Z9 w (Zc b s)∧tokV (Zq b s).1≤tokV (Zc b s):=by
 have e:=Xs b s
 have hO:=Zoh hP s
 have hpo:Plain (Zc b s).conf:=by rw[e.2.1];exact hp
 have hc:(Zq b s).1.conf=(Zc b s).conf:=by
  rw[Ze4]
  by_cases hr:rdyG b.data_=true
  ·obtain⟨f,k,g,S⟩:=Zr8 hP s hr
   have:=(Zgv S.gI).2.1
   rw[if_pos hr]
   have h2:=S.e
   rw[Ze4,if_pos hr] at h2
   have h3:=congrArg GBus.conf h2
   rw[h3]
   show (Zh g).2.conf=_
   rw[this,S.conf.2.2,e.2.1]
  ·rw[if_neg hr]
   exact (Zbs (Zc b s) s).2.2
 have hq:=Zu4 hP s hw
 have hq2:qt (atI (Zq b s).1.m w)=qt (atI (Zc b s).m w):=by
  rw[hq]
  split
  ·rename_i h1
   exact Zom (by
    have:¬b.data_.live=true:=fun h=>hnd ⟨h,h1⟩
    simp[this])
  ·rfl
 refine⟨?_,?_⟩
 ·have ht:=Zg9 (w:=w) hc hq2
  unfold Z9
  rw[ht.1,ht.2,hsp,if_pos hz,if_pos hz,hc]
 ·have hV:=fin_V (s:=s) hO hpo
  have hU:1≤Wd (Zc b s).conf:=Znz hpo
  have hV2:tokV (Zb (Zc b s) s).1≤tokV (Zc b s):=by
   split at hV<;>omega
  by_cases hr:rdyG b.data_=true
  ·obtain⟨f,k,g,S⟩:=Zr8 hP s hr
   have hTk:tokV k=tokV f:=by rw[S.ek];exact Z74
   have hTg:tokV g=tokV k:=by rw[S.eg];exact Z7v (by rw[S.kz])
   have hTe:tokV (Zh g).2=tokV g:=Z7x S.gI (by rw[S.conf.2.2];exact hp) (by rw[S.gz])
   rw[S.e]
   show tokV (Zh g).2≤_
   rw[hTe,hTg,hTk,S.ef]
   exact hV2
  ·rw[Ze4,if_neg hr]
   exact hV2
end
section
variable {n w:Int} {b:GBus} {s:GScript}
theorem Zuf (hI:BusI n b) (hp:Plain b.conf) (hd:b.data_.live=true):1≤phG b.data_∧phG b.data_≤5:=by
 have hD:=hI.data
 unfold X9 at hD
 rw[if_pos hd,hp.wait] at hD
 unfold phG
 split
 ·omega
 ·split<;>omega
theorem Yd4 (hI:BusI n b) (hp:Plain b.conf) (hP:Pend w b):Jk w b≤ksG b.conf:=by
 have hG:=hp.unit
 have hA:=Zrs hI hP.mas
 have hk:=Zis hI hp hP.mas
 have h1:othD w b≤Zw b.conf - 3:=by
  unfold othD pdG bsG
  split
  ·rename_i h
   have:=Zuf hI hp h.1
   repeat' split
   all_goals omega
  ·omega
 have h2:othA w b≤Zw b.conf - 1:=by
  unfold othA paG bsG
  repeat' split
  all_goals omega
 have h3:ownG w b≤xrG b.conf:=by
  unfold ownG xrG owG
  split
  ·rename_i h
   have:=Zuf hI hp h.1
   omega
  ·split
   ·split<;>omega
   ·omega
 unfold Jk ksG
 omega
theorem Yfb (hI:BusI n b):1≤lenM b.conf:=by
 have:=Xo hI.conf
 unfold lenM;omega
theorem Ye4 (hI:BusI n b) (hp:Plain b.conf) (hP:Pend w b) (h1:¬(b.data_.live=true∧b.data_.who=w)) (h2:¬(b.addr.live=true∧b.addr.who=w)):Jk w b+Zw b.conf*tokF b≤ksG b.conf:=by
 have hG:=hp.unit
 have hA:=Zrs hI hP.mas
 have hk:=Zis hI hp hP.mas
 have d1:othD w b+Zw b.conf*Yt b.data_≤Zw b.conf - 3:=by
  unfold othD Yt
  by_cases hd:b.data_.live=true
  ·have:=Zuf hI hp hd
   rw[if_pos ⟨hd,fun h=>h1 ⟨hd,h⟩⟩]
   unfold pdG bsG
   have hby:=(hI.dlive hd).2.1
   by_cases hb:b.data_.by_=1
   ·rw[if_pos (show b.data_.live=true∧b.data_.by_=1 from⟨hd,hb⟩)]
    repeat' split
    all_goals omega
   ·rw[if_neg (show ¬(b.data_.live=true∧b.data_.by_=1) from fun h=>hb h.2)]
    repeat' split
    all_goals omega
  ·rw[if_neg (fun h=>hd h.1),if_neg (fun h=>hd h.1)];omega
 have d2:othA w b+Zw b.conf*Yt b.addr≤Zw b.conf - 1:=by
  unfold othA Yt
  by_cases hd:b.addr.live=true
  ·rw[if_pos ⟨hd,fun h=>h2 ⟨hd,h⟩⟩]
   unfold paG bsG
   have hby:=(hI.alive hd).2.1
   by_cases hb:b.addr.by_=1
   ·rw[if_pos (show b.addr.live=true∧b.addr.by_=1 from⟨hd,hb⟩)]
    repeat' split
    all_goals omega
   ·rw[if_neg (show ¬(b.addr.live=true∧b.addr.by_=1) from fun h=>hb h.2)]
    repeat' split
    all_goals omega
  ·rw[if_neg (fun h=>hd h.1),if_neg (fun h=>hd h.1)];omega
 have d3:ownG w b≤xrG b.conf:=by
  rw[Zb6 h1 h2]
  unfold xrG;omega
 unfold Jk ksG tokF
 rw[Int.mul_add]
 omega
def Zjo (w:Int) (b:GBus):Int:=2*Y2 b.conf*Z9 w b+tokV b
theorem Yfd (hI:BusI n b) (hp:Plain b.conf) (hP:Pend w b):0≤Zjo w b:=by
 have hG:=hp.unit
 have hM:=Yfb hI
 have hA:=Zrs hI hP.mas
 have hk:=Zis hI hp hP.mas
 have hlim:=Xe hI.conf
 have hPp:=(Zrj b.conf).1
 have hms:=hI.mst w hP.mas
 have hx:0≤(lenM b.conf - 1)*Zw b.conf:=Int.mul_nonneg (by omega) (by omega)
 have hx2:0≤(lenM b.conf - 1)*(8*b.conf.maxRetry+8):=Int.mul_nonneg (by omega) (by omega)
 have hxr:0≤xrG b.conf:=by unfold xrG owG;omega
 have hks:0≤ksG b.conf:=by unfold ksG;omega
 have ht:0≤Kp w b:=by
  unfold Kp
  exact Int.mul_nonneg (by have:=hms.tries;omega) hxr
 have hpt:0≤Jx w b:=by
  unfold Jx xsG
  split<;>omega
 have hV:0≤sumV b:=by
  unfold sumV
  refine Zlw fun i h0 h1=>?_
  exact (Z2h hp (Zhv h0 h1) (hI.mst i (Zhv h0 h1)).bucket).1
 have hW:0≤Z9 w b+Zw b.conf*tokF b:=by
  have hT:0≤Zw b.conf*tokF b:=by
   have a:=Zyq b.data_
   have c:=Zyq b.addr
   exact Int.mul_nonneg (by omega) (by unfold tokF;omega)
  unfold Z9
  split
  ·omega
  ·have d1:0≤othD w b+Zw b.conf*Yt b.data_:=by
    unfold othD Yt pdG bsG
    by_cases hd:b.data_.live=true
    ·have:=Zuf hI hp hd
     by_cases hb:b.data_.by_=1
     ·rw[if_pos (show b.data_.live=true∧b.data_.by_=1 from⟨hd,hb⟩)]
      repeat' split
      all_goals omega
     ·rw[if_neg (show ¬(b.data_.live=true∧b.data_.by_=1) from fun h=>hb h.2)]
      have hby:=(hI.dlive hd).2.1
      repeat' split
      all_goals omega
    ·rw[if_neg (fun h=>hd h.1),if_neg (fun h=>hd h.1)];omega
   have d2:0≤othA w b+Zw b.conf*Yt b.addr:=by
    unfold othA Yt paG bsG
    by_cases hd:b.addr.live=true
    ·by_cases hb:b.addr.by_=1
     ·rw[if_pos (show b.addr.live=true∧b.addr.by_=1 from⟨hd,hb⟩)]
      repeat' split
      all_goals omega
     ·rw[if_neg (show ¬(b.addr.live=true∧b.addr.by_=1) from fun h=>hb h.2)]
      have hby:=(hI.alive hd).2.1
      repeat' split
      all_goals omega
    ·rw[if_neg (fun h=>hd h.1),if_neg (fun h=>hd h.1)];omega
   have d3:0≤ownG w b:=by
    unfold ownG owG
    split
    ·rename_i h
     have:=Zuf hI hp h.1
     omega
    ·split
     ·split<;>omega
     ·omega
   unfold Jk tokF
   rw[Int.mul_add]
   omega
 have h2:=Int.mul_nonneg (show 0≤2*Y2 b.conf by omega) hW
 rw[Int.mul_add] at h2
 have e1:2*Y2 b.conf*(Zw b.conf*tokF b)=Wd b.conf*tokF b:=by unfold Wd;simp only[Int.mul_assoc]
 rw[e1] at h2
 unfold Zjo tokV
 omega
theorem z_of {P G X Y T U x:Int} (hP:0≤P) (h1:X≤Y - 1+x*G) (h2:T≤U - x*(2*P*G)):2*P*X+T≤2*P*Y+U - 2*P:=by
 have h3:=Int.mul_le_mul_of_nonneg_left h1 (show 0≤2*P by omega)
 rw[Int.mul_add,Int.mul_sub,Int.mul_left_comm] at h3
 omega
theorem Yal (hP:BusP b) (hw:Za b.conf w=true) (s:GScript):Jk w (Zc b s)=Jk w b∧Kp w (Zc b s)=Kp w b∧Jx w (Zc b s)=Jx w b∧atI (Zc b s).splits w=max (atI b.splits w - 1) 0:=by
 have e:=Xs b s
 have om:=Zmh b s
 have hbw:=Z3 hw
 have hsl:=hP.sl
 refine⟨?_,?_,?_,?_⟩
 ·have hA:sumA w (Zc b s)=sumA w b:=Zi3 e.2.1 (fun i hi=>by
   have:=Zqx hP s hi
   unfold attG
   rw[this.1,this.2])
  have hk:Zv w (Zc b s)=Zv w b:=by unfold Zv;rw[e.2.1,om.2]
  unfold Jk othD othA ownG
  rw[hA,hk,e.2.1,e.2.2.2.2.2.1,e.2.2.2.2.2.2.1]
 ·unfold Kp
  rw[e.2.1,(Zqx hP s hw).1]
 ·unfold Jx
  rw[e.2.1,(Zqx hP s hw).2]
 ·rw[Zv9,Zxs (fun n=>max (n - 1) 0) hbw.1 (by omega)]
theorem Ycu (hP:BusP b) (hp:Plain b.conf) (hL:LockI b) (hW:Pend w b) (hn:b.now < 4000) (hnc:¬(Yd b.data_=true∧b.data_.who=w)):
  Pend w (Zq b s).1∧Zjo w (Zq b s).1≤Zjo w b+(Zo b.conf:Int) - 2*Y2 b.conf:=by
 have e:=Xs b s
 have hst:=Zu7 hP s hn
 have hWo:=hW.open (s:=s) hP
 have ho:=Yal hP hW.mas s
 have hV:=open_V (s:=s) hP hp
 have hPp:=(Zrj b.conf).1
 have hq:=Zu4 hP s hW.mas
 have hWs:Pend w (Zq b s).1:=by
  refine hWo.keep (by rw[hst.2.2,e.2.1]) ?_
  rw[show (atI (Zq b s).1.m w).queue=(qt (atI (Zq b s).1.m w)).1 from rfl,hq]
  by_cases hw:b.data_.who=w
  ·rw[if_pos hw]
   unfold finT
   rw[if_neg (fun h=>hnc ⟨h,hw⟩)]
   repeat' split
   all_goals rfl
  ·rw[if_neg hw];rfl
 refine⟨hWs,?_⟩
 unfold Zjo
 rw[hst.2.2]
 have hms:=(hP.mst w hW.mas).split
 have hcyc:atI (Zc b s).splits w=0→Z9 w (Zc b s)≤Z9 w b→2*Y2 b.conf*Z9 w (Zq b s).1+tokV (Zq b s).1≤2*Y2 b.conf*Z9 w b+tokV b+(Zo b.conf:Int) - 2*Y2 b.conf:=fun hz hle=>by
  obtain⟨x,h1,h2⟩:=Z7a hP hp hL hWo hz hnc
  have h3:=z_of (P:=Y2 b.conf) (by omega) (show Z9 w (Zq b s).1≤Z9 w b - 1+x*Zw b.conf by omega) (show tokV (Zq b s).1≤(tokV b+(Zo b.conf:Int)) - x*(2*Y2 b.conf*Zw b.conf) by unfold Wd at h2;omega)
  omega
 by_cases hz:atI b.splits w=0
 ·have hzo:atI (Zc b s).splits w=0:=by rw[ho.2.2.2,hz];rfl
  refine hcyc hzo ?_
  rw[Kc hzo,Kc hz,ho.1,ho.2.1,ho.2.2.1]
  exact Int.le_refl _
 ·have hnd:¬(b.data_.live=true∧b.data_.who=w):=fun h=>by
   have:=(hP.dlive h.1).2.2
   rw[h.2] at this
   exact hz this
  by_cases h1:atI b.splits w=1
  ·have hzo:atI (Zc b s).splits w=0:=by rw[ho.2.2.2,h1];rfl
   refine hcyc hzo ?_
   have hr:=Yd4 (w:=w) (Zoh hP s) (by rw[e.2.1];exact hp) hWo
   rw[Kc hzo,ho.2.1,ho.2.2.1]
   unfold Z9
   rw[if_pos (by omega)]
   rw[e.2.1] at hr
   omega
  ·have hsp:=Zvk hP s hW.mas
   rw[if_neg (fun h=>hnd ⟨by have:=h.1.1;rw[Bool.and_eq_true] at this;exact this.1,h.2⟩)] at hsp
   have hca:=Z92 hP hp hW.mas (s:=s) (by rw[ho.2.2.2];omega) hnd (by rw[hsp,ho.2.2.2])
   have hle:Z9 w (Zq b s).1≤Z9 w b - 1+0*Zw b.conf:=by
    rw[hca.1]
    unfold Z9
    rw[if_pos (by rw[ho.2.2.2];omega),if_pos (by omega),ho.2.1,ho.2.2.1,ho.2.2.2,e.2.1]
    omega
   have h3:=z_of (P:=Y2 b.conf) (by omega) hle (show tokV (Zq b s).1≤(tokV b+(Zo b.conf:Int)) - 0*(2*Y2 b.conf*Zw b.conf) by omega)
   omega
theorem Yde (hP:BusP b) (hp:Plain b.conf) (hL:LockI b) (hW:Pend w b):∀(m:Nat),b.now+m≤4000→(∀i,i < m→¬(Yd (runN b s i).1.data_=true∧(runN b s i).1.data_.who=w))→
  LockI (runN b s m).1∧Pend w (runN b s m).1∧Zjo w (runN b s m).1≤Zjo w b+m*((Zo b.conf:Int) - 2*Y2 b.conf):=by
 intro m
 induction m with
 | zero=>intro _ _;exact⟨hL,hW,by show Zjo w b≤_;simp⟩
 | succ m ih=>
  intro hn hnc
  obtain⟨h1,h2,h3⟩:=ih (by omega) (fun i hi=>hnc i (by omega))
  have hr:=Zda hP s m (by omega)
  have hp2:Plain (runN b s m).1.conf:=by rw[hr.2.2.1];exact hp
  have hst:=Ycu (s:=s) hr.1 hp2 h1 h2 (by rw[hr.2.1];omega) (hnc m (by omega))
  have hl:=Zt5 hr.1 hp2 h1 s (by rw[hr.2.1];omega)
  refine⟨hl,hst.1,?_⟩
  have h4:=hst.2
  rw[hr.2.2.1] at h4
  show Zjo w (Zq (runN b s m).1 s).1≤_
  have e5:((m+1:Nat):Int)*((Zo b.conf:Int) - 2*Y2 b.conf)=(m:Int)*((Zo b.conf:Int) - 2*Y2 b.conf)+((Zo b.conf:Int) - 2*Y2 b.conf):=by
   rw[show ((m+1:Nat):Int)=(m:Int)+1 by omega,Int.add_mul,Int.one_mul]
  rw[e5]
  omega
theorem Ye2 (hP:BusP b) (hp:Plain b.conf) (hL:LockI b):∀(m:Nat),b.now+m≤4000→LockI (runN b s m).1:=by
 intro m
 induction m with
 | zero=>intro _;exact hL
 | succ m ih=>
  intro hn
  have hr:=Zda hP s m (by omega)
  exact Zt5 hr.1 (by rw[hr.2.2.1];exact hp) (ih (by omega)) s (by rw[hr.2.1];omega)
end
def Qq (c:GConf):Int:=sumI c.masters.length (fun j=>if (atI c.masters j).prio=true then (atI c.masters j).cap+1 else 0)
def Yv (c:GConf):Int:=2*(2*(Xh c*lenM c+lenM c*Zz c)+c.maxSplit+Xh c+Zz c*Qq c)+2*Zz c+10
theorem Yec (k:Int) (f:Int→Int):∀(n:Nat),sumI n (fun i=>k*f i)=k*sumI n f:=by
 intro n
 induction n with
 | zero=>simp[sumI]
 | succ n ih=>simp only[sumI,ih,Int.mul_add]
theorem Ydx {c:GConf} (hp:Plain c):0≤Qq c∧(Zo c≠0→2≤Qq c):=by
 have h0:∀i:Int,0≤i→i < (c.masters.length:Int)→0≤(if (atI c.masters i).prio=true then (atI c.masters i).cap+1 else 0):=fun i h1 h2=>by
  split
  ·rename_i h
   have:=(hp.every (Zhv h1 h2) h).2.1
   omega
  ·exact Int.le_refl 0
 refine⟨Zlw h0,fun hn=>?_⟩
 have:0 < c.masters.countP (·.prio):=by unfold Zo at hn;omega
 obtain⟨m,hm,hpm⟩:=List.countP_pos_iff.1 this
 obtain⟨k,hk,rfl⟩:=List.getElem_of_mem hm
 have hmas:Za c (k:Int)=true:=mas hk
 have hpk:(atI c.masters (k:Int)).prio=true:=by rw[Yh hk];exact hpm
 have h1:=(hp.every hmas hpk).2.1
 have h2:=Zry (f:=fun i=>if (atI c.masters i).prio=true then (atI c.masters i).cap+1 else 0) (g:=fun i=>if i=(k:Int) then 0 else if (atI c.masters i).prio=true then (atI c.masters i).cap+1 else 0) (j:=(k:Int)) (n:=c.masters.length) (by omega) (by omega) (fun i _ _ hne=>by rw[if_neg hne])
 have h3:0≤sumI c.masters.length (fun i=>if i=(k:Int) then 0 else if (atI c.masters i).prio=true then (atI c.masters i).cap+1 else 0):=Zlw fun i a1 a2=>by
  split
  ·exact Int.le_refl 0
  ·exact h0 i a1 a2
 rw[if_pos rfl,if_pos hpk] at h2
 unfold Qq
 omega
theorem Ya2 {n:Int} {b:GBus} (hI:BusI n b) (hp:Plain b.conf):sumV b≤Wd b.conf*Qq b.conf:=by
 unfold sumV Qq
 rw[←Yec]
 refine Zpi fun i h0 h1=>?_
 have:=(Z2h hp (Zhv h0 h1) (hI.mst i (Zhv h0 h1)).bucket).2
 unfold Wd
 split at this
 ·rename_i h
  rw[if_pos h];exact this
 ·rename_i h
  rw[if_neg h];omega
theorem Ybb {c:GConf} (hp:Plain c):2*Y2 c*(c.maxRetry*xrG c+xsG c+ksG c)+Wd c*Qq c - 2*Y2 c+Yv c*((Zo c:Int) - 2*Y2 c) < 0:=by
 have hc:=hp.cost
 have hcaps:=Ydx hp
 have hM:1≤lenM c:=by have:=Xo hp.ok;unfold lenM;omega
 have hS:=(Xe hp.ok).2.2.2
 have hl:=hp.lock
 have key:Zo c=0→(c.maxRetry*xrG c+xsG c+ksG c)+Zw c*Qq c≤Yv c - 1:=fun h0=>by
  have hcz:Qq c=0:=by
   unfold Qq
   rw[Zso (g:=fun _=>0) (fun i a1 a2=>?_),Zr2]
   ·simp
   ·rw[if_neg]
    intro h
    exact (hp.every (Zhv a1 a2) h).2.2 h0
  unfold Yv xsG ksG xrG owG
  rw[hc.2.1,hc.1,hcz]
  have hL:c.lockMost=1∨c.lockMost=2:=by omega
  rcases hp.unit with⟨hr,hu⟩|⟨hr,hu⟩
  ·rw[hr,hu];rcases hL with hL|hL<;>rw[hL]<;>omega
  ·rw[hr,hu];rcases hL with hL|hL<;>rw[hL]<;>omega
 by_cases h0:Zo c=0
 ·have key:=key h0
  have hP:Y2 c=1:=by unfold Y2;rw[if_pos h0]
  have hcaps0:0≤Zw c*Qq c:=Int.mul_nonneg (by have:=hp.unit;omega) hcaps.1
  unfold Wd
  rw[hP,h0]
  simp only[Int.mul_one]
  have e1:2*Zw c*Qq c=2*(Zw c*Qq c):=by rw[Int.mul_assoc]
  rw[e1]
  have hb:0≤Yv c:=by
   have:0≤(c.maxRetry*xrG c+xsG c+ksG c)+Zw c*Qq c:=by
    have hx:0≤(lenM c - 1)*Zw c:=Int.mul_nonneg (by omega) (by have:=hp.unit;omega)
    have hx2:0≤(lenM c - 1)*(8*c.maxRetry+8):=Int.mul_nonneg (by omega) (by have:=hp.retry;omega)
    have hxr:0≤xrG c:=by unfold xrG owG;have:=hp.unit;omega
    have hks:0≤ksG c:=by unfold ksG;have:=hp.unit;omega
    have hrx:0≤c.maxRetry*xrG c:=Int.mul_nonneg hp.retry.1 hxr
    unfold xsG
    omega
   omega
  simp only[Int.natCast_zero,Int.ofNat_zero,Int.cast_ofNat_Int] at*
  omega
 ·have hP:Y2 c=(Zo c:Int):=by unfold Y2;rw[if_neg h0]
  have hp1:1≤(Zo c:Int):=by omega
  have hc2:=hcaps.2 h0
  have hlt:2*((c.maxRetry*xrG c+xsG c+ksG c)+Zw c*Qq c) - 1≤Yv c:=by
   unfold Yv xsG ksG xrG owG
   rw[hc.2.1,hc.1]
   have hL:c.lockMost=1∨c.lockMost=2:=by omega
   rcases hp.unit with⟨hr,hu⟩|⟨hr,hu⟩
   ·rw[hr,hu];rcases hL with hL|hL<;>rw[hL]<;>omega
   ·rw[hr,hu];rcases hL with hL|hL<;>rw[hL]<;>omega
  have h5:=Int.mul_le_mul_of_nonneg_left hlt (show 0≤(Zo c:Int) by omega)
  unfold Wd
  rw[hP]
  have e1:Yv c*((Zo c:Int) - 2*(Zo c:Int))=-((Zo c:Int)*Yv c):=by
   rw[show (Zo c:Int) - 2*(Zo c:Int)=-(Zo c:Int) by omega,Int.mul_neg,Int.mul_comm]
  have e2:2*(Zo c:Int)*(c.maxRetry*xrG c+xsG c+ksG c)=(Zo c:Int)*(2*(c.maxRetry*xrG c+xsG c+ksG c)):=by
   rw[Int.mul_comm 2,Int.mul_assoc]
  have e3:2*(Zo c:Int)*Zw c*Qq c=(Zo c:Int)*(2*(Zw c*Qq c)):=by
   rw[Int.mul_comm 2,Int.mul_assoc,Int.mul_assoc]
  rw[e1,e2,e3]
  rw[Int.mul_sub,Int.mul_add,Int.mul_add] at h5
  omega
section
variable {n w:Int} {b:GBus} {s:GScript} {c:GConf}
theorem Z7h (b:GBus) (s:GScript):(Zc b s).m=(Z2 b (Xq s b.now)).m:=by
 have e:=Zus (Z7 (Z2 b (Xq s b.now)))
 have e2:=Zte (Z2 b (Xq s b.now))
 unfold Zc
 rw[e.2.2.2.2.2.1,e2.2.2.2.2.2.1]
theorem Zw0:∀(ps:List GPost) {b:GBus},BusI n b→Za b.conf w=true→(∀p∈ps,p.who≠w)→atI (Z2 b ps).m w=atI b.m w:=by
 intro ps
 induction ps with
 | nil=>intro b _ _ _;rfl
 | cons p ps ih=>
  intro b hI hw hp
  show atI (Z2 (Xk b p) ps).m w=_
  rw[ih (Zsn hI (p:=p)) (by rw[(Zo6 b p).1];exact hw) (fun q hq=>hp q (List.mem_cons_of_mem _ hq))]
  unfold Xk
  split
  ·rename_i h1
   show atI (b.m.set p.who.toNat (Wo (atI b.m p.who) p.req)) w=_
   rw[hI.at_m h1 _ hw,if_neg (fun h=>hp p (List.mem_cons_self ..) h.symm)]
  ·rfl
theorem Z6t (b:GBus) (ps qs:List GPost):Z2 b (ps++qs)=Z2 (Z2 b ps) qs:=by
 unfold Z2
 rw[List.foldl_append]
def Zx6 (w:Int) (b:GBus):Prop:=(atI b.m w).queue=[]∧atI b.splits w=0
theorem Z0x (hP:BusP b) (hS:Zx6 w b) (hw:Za b.conf w=true):¬(b.data_.live=true∧b.data_.who=w)∧¬(b.addr.live=true∧b.addr.who=w):=by
 refine⟨fun h=>?_,fun h=>?_⟩
 ·have:=Ygg hP.i h.1
  rw[h.2] at this
  exact this hS.1
 ·have:=Ygx hP.i h.1
  rw[h.2] at this
  exact this hS.1
theorem Z2s (hP:BusP b) (hS:Zx6 w b) (hw:Za b.conf w=true):qt (atI (Zq b s).1.m w)=qt (atI (Zc b s).m w)∧atI (Zq b s).1.splits w=0:=by
 have ho:=Z0x hP hS hw
 constructor
 ·rw[Zu4 hP s hw]
  split
  ·rename_i h
   have:¬b.data_.live=true:=fun h1=>ho.1 ⟨h1,h⟩
   exact Zom (by simp[this])
  ·rfl
 ·rw[Zvk hP s hw,if_neg (fun h=>ho.1 ⟨by have:=h.1.1;rw[Bool.and_eq_true] at this;exact this.1,h.2⟩),hS.2]
  rfl
theorem Z9s (hP:BusP b) (hS:Zx6 w b) (hw:Za b.conf w=true) (hp:∀p∈Xq s b.now,p.who≠w):Zx6 w (Zq b s).1:=by
 have h1:=Z2s (s:=s) hP hS hw
 refine⟨?_,h1.2⟩
 rw[show (atI (Zq b s).1.m w).queue=(qt (atI (Zq b s).1.m w)).1 from rfl,h1.1]
 show (atI (Zc b s).m w).queue=[]
 rw[Z7h,Zw0 _ hP.i hw hp]
 exact hS.1
theorem Ybl (hP:BusP b) {d:GDone} (hd:d∈b.log):∀(m:Nat),b.now+m≤4000→d∈(runN b s m).1.log:=by
 intro m
 induction m with
 | zero=>intro _;exact hd
 | succ m ih=>
  intro hn
  have h1:=ih (by omega)
  have hr:=Zda hP s m (by omega)
  show d∈(Zq (runN b s m).1 s).1.log
  rw[Z2i hr.1 s]
  split
  ·exact List.mem_append_left _ h1
  ·exact h1
theorem Zxu (b:GBus) (s:GScript) (m n:Nat):(runN b s (m+n)).1=(runN (runN b s m).1 s n).1:=by rw[Yev]
structure OnePost (w t:Int) (r:GReq) (s:GScript):Prop where
 ex:∃A B,s.posts=A++GPost.mk t w r::B∧(∀p∈A,p.who≠w∧p.at_≤t)∧(∀p∈B,p.who≠w∧t < p.at_)
theorem OnePost.other {t:Int} {r:GReq} (h:OnePost w t r s) {u:Int} (hu:u≠t):∀p∈Xq s u,p.who≠w:=by
 obtain⟨A,B,h1,h2,h3⟩:=h.ex
 intro p hp
 unfold Xq at hp
 rw[List.mem_filter,h1] at hp
 have hat:p.at_=u:=by simpa using hp.2
 rcases List.mem_append.1 hp.1 with h4|h4
 ·exact (h2 p h4).1
 ·rcases List.mem_cons.1 h4 with h5|h5
  ·subst h5;exact absurd hat.symm hu
  ·exact (h3 p h5).1
theorem OnePost.this {t:Int} {r:GReq} (h:OnePost w t r s):∃A',Xq s t=A'++[GPost.mk t w r]∧∀p∈A',p.who≠w:=by
 obtain⟨A,B,h1,h2,h3⟩:=h.ex
 refine⟨A.filter fun p=>decide (p.at_=t),?_,fun p hp=>(h2 p (List.mem_filter.1 hp).1).1⟩
 unfold Xq
 rw[h1,List.filter_append,List.filter_cons_of_pos (by simp)]
 congr 1
 have:B.filter (fun p=>decide (p.at_=t))=[]:=by
  rw[List.filter_eq_nil_iff]
  intro p hp
  have:=(h3 p hp).2
  simp;omega
 rw[this]
theorem Z9q {t:Nat} {r:GReq} (hp:Plain c) (hw:Za c w=true) (hr:reqG r=true) (hone:Yo r.burst=1) (hlock:r.lock=false) (hmem:Ye (Ya (Zlp r) 0)=1∨Ye (Ya (Zlp r) 0)=2)
  (hs:OnePost w t r s) (hn:(t:Int)+Yv c+1≤4000) (hb:1≤Yv c):∃d∈(runN (newG c) s (t+(Yv c).toNat+1)).1.log,d.who=w∧(t:Int)≤d.cycle:=by
 have hP0:=Zxg hp.ok
 have hN:(newG c).now=0:=rfl
 have hcN:(newG c).conf=c:=rfl
 have hstill:∀k:Nat,k≤t→Zx6 w (runN (newG c) s k).1:=by
  intro k
  induction k with
  | zero=>
   intro _
   refine⟨by show (atI (newG c).m w).queue=[];(rw[Zx8 c hw];try rfl),?_⟩
   obtain⟨j,rfl,hj⟩:=Zkl hw
   have hlen:j < (newG c).splits.length:=by simpa [newG] using hj
   show atI (newG c).splits (j:Int)=0
   rw[Yh hlen]
   simp[newG]
  | succ k ih=>
   intro hk
   have hrk:=Zda hP0 s k (by rw[hN];omega)
   exact Z9s hrk.1 (ih (by omega)) (by rw[hrk.2.2.1,hcN];exact hw) (hs.other (by rw[hrk.2.1,hN];omega))
 have hrt:=Zda hP0 s t (by rw[hN];omega)
 have hS:=hstill t (Nat.le_refl _)
 have hLt:=Ye2 (s:=s) hP0 hp (Yel c) t (by rw[hN];omega)
 have er1:(runN (newG c) s (t+1)).1=(Zq (runN (newG c) s t).1 s).1:=rfl
 have hsplit:∀m:Nat,(runN (newG c) s (t+1+m)).1=(runN (runN (newG c) s (t+1)).1 s m).1:=fun m=>Zxu _ _ _ _
 generalize hb0:(runN (newG c) s t).1=b0 at*
 have hP:=hrt.1
 have hnow:b0.now=t:=by rw[hrt.2.1,hN];omega
 have hcf:b0.conf=c:=hrt.2.2.1
 have hpb:Plain b0.conf:=by rw[hcf];exact hp
 have hwb:Za b0.conf w=true:=by rw[hcf];exact hw
 have ho:=Z0x hP hS hwb
 have e:=Xs b0 s
 have hz:=(hP.mst w hwb).right.none hS.1
 have hmo:atI (Zc b0 s).m w={atI b0.m w with queue:=[r]}:=by
  obtain⟨A',h1,h2⟩:=hs.this
  have hIA:=Zj2 hP.i A'
  have hcA:=(Zar b0 A').1
  rw[Z7h,hnow,h1,Z6t]
  show atI (Xk (Z2 b0 A') (GPost.mk t w r)).m w=_
  unfold Xk
  rw[if_pos (by rw[hcA];exact hwb)]
  show atI ((Z2 b0 A').m.set w.toNat (Wo (atI (Z2 b0 A').m w) r)) w=_
  rw[hIA.at_m (by rw[hcA];exact hwb) _ (by rw[hcA];exact hwb),if_pos rfl,Zw0 A' hP.i hwb h2]
  unfold Wo
  rw[if_pos ⟨hr,by rw[hS.1];simp⟩,hS.1]
  rfl
 have hmq:∀k,Ya (atI (Zc b0 s).m w) k=Ya (Zlp r) k:=fun k=>Z7n (by rw[hmo];rfl)
 have hWo:Pend w (Zc b0 s):=by
  refine⟨by rw[e.2.1];exact hwb,by rw[hmo];simp,?_,by rw[hmo];exact hlock,by rw[hmq];exact hmem⟩
  have:Ze (atI (Zc b0 s).m w)=Ze (Zlp r):=by
   unfold Ze
   rw[hmo]
   rfl
  rw[this,Z5x,hone]
 have how:=Yal hP hwb s
 have hzo:atI (Zc b0 s).splits w=0:=by rw[how.2.2.2,hS.2];rfl
 have hnc0:¬(Yd b0.data_=true∧b0.data_.who=w):=fun h=>ho.1 ⟨(Z9i h.1).1,h.2⟩
 have hn4:b0.now < 4000:=by rw[hnow];omega
 have hst:=Zu7 hP s hn4
 obtain⟨x,hx1,hx2⟩:=Z7a hP hpb hLt hWo hzo hnc0
 have hPp:=(Zrj c).1
 have hW1:Pend w (Zq b0 s).1:=by
  refine hWo.keep (by rw[hst.2.2,e.2.1]) ?_
  exact congrArg (·.1) (Z2s (s:=s) hP hS hwb).1
 have hL1:=Zt5 hP hpb hLt s hn4
 have hc1:(Zq b0 s).1.conf=c:=by rw[hst.2.2,hcf]
 have hZ1:Zjo w (Zq b0 s).1≤2*Y2 c*(c.maxRetry*xrG c+xsG c+ksG c)+Wd c*Qq c - 2*Y2 c:=by
  have hoc:(Zc b0 s).conf=c:=by rw[e.2.1,hcf]
  have hO:=Zoh hP s
  have hrt2:=Ye4 hO (by rw[hoc];exact hp) hWo (by rw[e.2.2.2.2.2.2.1];exact ho.1) (by rw[e.2.2.2.2.2.1];exact ho.2)
  have hsv:=Ya2 hO (by rw[hoc];exact hp)
  rw[hoc] at hrt2 hsv
  have hwo:Z9 w (Zc b0 s)+Zw c*tokF (Zc b0 s)≤c.maxRetry*xrG c+xsG c+ksG c:=by
   rw[Kc hzo]
   have h1:Kp w (Zc b0 s)=c.maxRetry*xrG c:=by
    unfold Kp
    rw[hoc,hmo]
    show (c.maxRetry - (atI b0.m w).tries)*_=_
    rw[hz.2.2.1,Int.sub_zero]
   have h2:Jx w (Zc b0 s)=xsG c:=by
    unfold Jx
    rw[hoc,hmo]
    show (if (atI b0.m w).parted=true then _ else _)=_
    rw[if_neg (by rw[hz.2.2.2.1];simp)]
   rw[h1,h2];omega
  have h3:=z_of (P:=Y2 c) (by omega) (show Z9 w (Zq b0 s).1≤Z9 w (Zc b0 s) - 1+x*Zw c by rw[hcf] at hx1;exact hx1) (show tokV (Zq b0 s).1≤tokV (Zc b0 s) - x*(2*Y2 c*Zw c) by unfold Wd at hx2;rw[hcf] at hx2;exact hx2)
  have h4:=Int.mul_le_mul_of_nonneg_left hwo (show 0≤2*Y2 c by omega)
  rw[Int.mul_add] at h4
  have h5:2*Y2 c*(Zw c*tokF (Zc b0 s))=Wd c*tokF (Zc b0 s):=by unfold Wd;simp only[Int.mul_assoc]
  rw[h5] at h4
  unfold Zjo
  rw[hc1]
  have h6:tokV (Zc b0 s)=sumV (Zc b0 s)+Wd c*tokF (Zc b0 s):=by unfold tokV;rw[hoc]
  omega
 have hend:∃i,i < (Yv c).toNat∧(Yd (runN (Zq b0 s).1 s i).1.data_=true∧(runN (Zq b0 s).1 s i).1.data_.who=w):=by
  refine Classical.byContradiction fun hno=>?_
  have h1:=Yde (s:=s) hst.1 (by rw[hc1];exact hp) hL1 hW1 (Yv c).toNat (by rw[hst.2.1,hnow];omega) (fun i hi h=>hno ⟨i,hi,h⟩)
  have h2:=Zda hst.1 s (Yv c).toNat (by rw[hst.2.1,hnow];omega)
  have h3:=Yfd h2.1.i (by rw[h2.2.2.1,hc1];exact hp) h1.2.1
  have h4:=h1.2.2
  rw[hc1,show (((Yv c).toNat:Nat):Int)=Yv c by omega] at h4
  have h5:=Ybb hp
  omega
 obtain⟨i,hi,he⟩:=hend
 have hri:=Zda hst.1 s i (by rw[hst.2.1,hnow];omega)
 have hli:=Z2i hri.1 s
 rw[if_pos he.1] at hli
 have hmem2:Zlh {Zc (runN (Zq b0 s).1 s i).1 s with data_:=GBeat.z0} (runN (Zq b0 s).1 s i).1.data_∈(runN (Zq b0 s).1 s (i+1)).1.log:=by
  show _∈(Zq (runN (Zq b0 s).1 s i).1 s).1.log
  rw[hli]
  exact List.mem_append_right _ (List.mem_singleton.2 rfl)
 have hri1:=Zda hst.1 s (i+1) (by rw[hst.2.1,hnow];omega)
 have hk:=Ybl (s:=s) hri1.1 hmem2 ((Yv c).toNat - (i+1)) (by rw[hri1.2.1,hst.2.1,hnow];omega)
 refine⟨Zlh {Zc (runN (Zq b0 s).1 s i).1 s with data_:=GBeat.z0} (runN (Zq b0 s).1 s i).1.data_,?_,he.2,?_⟩
 ·rw[show t+(Yv c).toNat+1=t+1+(Yv c).toNat by omega,hsplit,er1,show (Yv c).toNat=(i+1)+((Yv c).toNat - (i+1)) by omega,Zxu]
  exact hk
 ·show (t:Int)≤(Zc (runN (Zq b0 s).1 s i).1 s).now
  rw[(Xs _ s).1,hri.2.1,hst.2.1,hnow];omega
end
theorem Z9j {c:GConf} (hp:Plain c):Zk6 c=some (Xh c*lenM c+lenM c*Zz c):=by
 have hl:=Xo hp.ok
 have hcl:=Zcc c
 have hsl:=Q5 c
 have hlt:=Ke hp.ok
 unfold Zk6 lenM
 rw[Zac c hlt,Option.bind_some,hp.ok,if_neg (by simp),Zqn,Option.bind_some,Yy (by have:=Int.mul_le_mul hcl.2 hl.2 (by omega) (by omega);have:=Int.mul_nonneg hcl.1 (show (0:Int)≤c.masters.length by omega);omega) (by have:=Int.mul_le_mul hcl.2 hl.2 (by omega) (by omega);omega)]
 have e0:Xh c*(c.masters.length:Int)+((0:Nat):Int)*Zz c=Xh c*(c.masters.length:Int):=by simp
 rw[←e0]
 refine Jl (σ:=Int) (n:=c.masters.length) (by omega) (fun k=>Xh c*(c.masters.length:Int)+(k:Int)*Zz c) (B:=fun κ st i=>Zdm c κ st i) (L:=fun m st i=>Zfp c m st i) (fun m s i=>rfl) (fun k hk κ=>?_) fun κ=>?_
 ·have h1:=Int.mul_le_mul hcl.2 hl.2 (by omega) (by omega)
  have h2:=Int.mul_nonneg hcl.1 (show (0:Int)≤c.masters.length by omega)
  have h3:=Int.mul_le_mul (show (k:Int)≤4 by omega) hsl.2 hsl.1 (by omega)
  have h4:=Int.mul_nonneg (show (0:Int)≤(k:Int) by omega) hsl.1
  unfold Zdm
  rw[if_pos (by simpa using hk),Zk3 c _ hlt,Option.bind_some,Zhw,Option.bind_some,hp.turn _ (mas hk),Yy (by omega) (by omega),Zm (by omega) (by omega)]
  congr 1
  rw[show ((k+1:Nat):Int)=(k:Int)+1 by omega,Int.add_mul]
  omega
 ·unfold Zdm
  rw[if_neg (by simp),e0]
theorem Z81 {c:GConf} (hp:Plain c):Zlm c=some (Xh c*lenM c+lenM c*Zz c):=by
 have hl:=Xo hp.ok
 have hcl:=Zcc c
 have hsl:=Q5 c
 have hlt:=Ke hp.ok
 unfold Zlm lenM
 rw[K6 c hlt,Option.bind_some,hp.ok,if_neg (by simp),Ze2,Option.bind_some,Int.mul_comm (Xh c),Yy (by have:=Int.mul_le_mul hl.2 hcl.2 (by omega) (by omega);have:=Int.mul_nonneg (show (0:Int)≤c.masters.length by omega) hcl.1;omega) (by have:=Int.mul_le_mul hl.2 hcl.2 (by omega) (by omega);omega)]
 have e0:(c.masters.length:Int)*Xh c+((0:Nat):Int)*Zz c=(c.masters.length:Int)*Xh c:=by simp
 rw[←e0]
 refine Jl (σ:=Int) (n:=c.masters.length) (by omega) (fun k=>(c.masters.length:Int)*Xh c+(k:Int)*Zz c) (B:=fun κ st i=>Zel c κ st i) (L:=fun m st i=>Zfe c m st i) (fun m s i=>rfl) (fun k hk κ=>?_) fun κ=>?_
 ·have h1:=Int.mul_le_mul hl.2 hcl.2 (by omega) (by omega)
  have h2:=Int.mul_nonneg (show (0:Int)≤c.masters.length by omega) hcl.1
  have h3:=Int.mul_le_mul (show (k:Int)≤4 by omega) hsl.2 hsl.1 (by omega)
  have h4:=Int.mul_nonneg (show (0:Int)≤(k:Int) by omega) hsl.1
  unfold Zel
  rw[if_pos (by simpa using hk),Zk2 c _ hlt,Option.bind_some,Ze0,Option.bind_some,hp.turn _ (mas hk),Yy (by omega) (by omega),Zm (by omega) (by omega)]
  congr 1
  rw[show ((k+1:Nat):Int)=(k:Int)+1 by omega,Int.add_mul]
  omega
 ·unfold Zel
  rw[if_neg (by simp),e0]
def capS (c:GConf) (k:Nat):Int:=sumI k (fun j=>if (atI c.masters j).prio=true then (atI c.masters j).cap+1 else 0)
theorem Ye7 {c:GConf} (hp:Plain c):∀(k:Nat),k≤c.masters.length→0≤capS c k∧capS c k≤9*k:=by
 intro k
 induction k with
 | zero=>intro _;exact⟨Int.le_refl 0,by simp[capS,sumI]⟩
 | succ k ih=>
  intro hk
  have h1:=ih (by omega)
  have hc:=J9 (Zbb hp.ok (mas (show k < c.masters.length by omega)))
  unfold capS at h1 ⊢
  simp only[sumI]
  split<;>omega
theorem Zt7 {c:GConf} (hp:Plain c) {k:Nat} (hk:k≤c.masters.length):0≤capS c k*Zz c∧capS c k*Zz c≤4680:=by
 have hl:=Xo hp.ok
 have h1:=Ye7 hp k hk
 have hsl:=Q5 c
 have h2:=Int.mul_nonneg h1.1 hsl.1
 have h3:=Int.mul_le_mul (show capS c k≤36 by omega) hsl.2 hsl.1 (by omega)
 omega
theorem Z37 {c:GConf} (hp:Plain c):Zlr c=some (Zz c*Qq c):=by
 have hl:=Xo hp.ok
 have hsl:=Q5 c
 unfold Zlr
 rw[Int.mul_comm]
 have e0:capS c 0*Zz c=0:=by simp[capS,sumI]
 show Zbv c FU 0 0=some (capS c c.masters.length*Zz c)
 have key:=Jl (σ:=Int) (n:=c.masters.length) (r:=some (capS c c.masters.length*Zz c)) (by omega) (fun k=>capS c k*Zz c) (B:=fun κ st i=>Zd4 c κ st i) (L:=fun m st i=>Zbv c m st i) (fun m s i=>rfl) (fun k hk κ=>by
  have h1:=Zt7 hp (show k≤c.masters.length by omega)
  have hc:=J9 (Zbb hp.ok (mas hk))
  rw[Yh hk] at hc
  have h2:=Int.mul_le_mul (show c.masters[k].cap+1≤9 by omega) hsl.2 hsl.1 (by omega)
  have h3:=Int.mul_nonneg (show 0≤c.masters[k].cap+1 by omega) hsl.1
  unfold Zd4
  have e:capS c (k+1)=capS c k+(if c.masters[k].prio=true then c.masters[k].cap+1 else 0):=by
   unfold capS
   simp only[sumI]
   rw[Yh hk]
  rw[if_pos (by simpa using hk),Yi hk,Option.bind_some,e,Int.add_mul]
  by_cases hpr:c.masters[k].prio=true
  ·rw[if_pos hpr,if_pos hpr,Zhw,Option.bind_some,Zm (a:=c.masters[k].cap) (by omega) (by omega),Yy (by omega) (by omega),Zm (by omega) (by omega)]
  ·rw[if_neg hpr,if_neg hpr]
   simp) (fun κ=>by
  unfold Zd4
  rw[if_neg (by simp)])
 rw[e0] at key
 exact key
theorem Yaf {c:GConf} (hp:Plain c):Zla c=some (Zz c*Qq c):=by
 have hl:=Xo hp.ok
 have hsl:=Q5 c
 unfold Zla
 rw[Int.mul_comm]
 have e0:capS c 0*Zz c=0:=by simp[capS,sumI]
 show Zbx c FU 0 0=some (capS c c.masters.length*Zz c)
 have key:=Jl (σ:=Int) (n:=c.masters.length) (r:=some (capS c c.masters.length*Zz c)) (by omega) (fun k=>capS c k*Zz c) (B:=fun κ st i=>Zd5 c κ st i) (L:=fun m st i=>Zbx c m st i) (fun m s i=>rfl) (fun k hk κ=>by
  have h1:=Zt7 hp (show k≤c.masters.length by omega)
  have hc:=J9 (Zbb hp.ok (mas hk))
  rw[Yh hk] at hc
  have h2:=Int.mul_le_mul (show c.masters[k].cap+1≤9 by omega) hsl.2 hsl.1 (by omega)
  have h3:=Int.mul_nonneg (show 0≤c.masters[k].cap+1 by omega) hsl.1
  unfold Zd5
  have e:capS c (k+1)=capS c k+(if c.masters[k].prio=true then c.masters[k].cap+1 else 0):=by
   unfold capS
   simp only[sumI]
   rw[Yh hk]
  rw[if_pos (by simpa using hk),Yi hk,Option.bind_some,e,Int.add_mul]
  by_cases hpr:c.masters[k].prio=true
  ·rw[if_pos hpr,if_pos hpr,Ze0,Option.bind_some,Zm (a:=c.masters[k].cap) (by omega) (by omega),Yy (by omega) (by omega),Zm (by omega) (by omega)]
  ·rw[if_neg hpr,if_neg hpr]
   simp) (fun κ=>by
  unfold Zd5
  rw[if_neg (by simp)])
 rw[e0] at key
 exact key
theorem Zqv {c:GConf} (hp:Plain c):(0≤Xh c*lenM c+lenM c*Zz c∧Xh c*lenM c+lenM c*Zz c≤700)∧(0≤Zz c*Qq c∧Zz c*Qq c≤4680)∧(1≤c.maxSplit∧c.maxSplit≤12):=by
 have hl:=Xo hp.ok
 have hcl:=Zcc c
 have hsl:=Q5 c
 have h1:=Int.mul_le_mul hcl.2 hl.2 (by omega) (by omega)
 have h2:=Int.mul_nonneg hcl.1 (show (0:Int)≤c.masters.length by omega)
 have h3:=Int.mul_le_mul hl.2 hsl.2 hsl.1 (by omega)
 have h4:=Int.mul_nonneg (show (0:Int)≤c.masters.length by omega) hsl.1
 have h5:=Zt7 hp (Nat.le_refl _)
 have e:capS c c.masters.length=Qq c:=rfl
 rw[e,Int.mul_comm] at h5
 exact⟨by unfold lenM;omega,h5,(Xe hp.ok).2.2.2⟩
theorem Z1f {c:GConf} (hp:Plain c):Zao c 1=some (Yv c):=by
 have h:=Zqv hp
 have hcl:=Zcc c
 have hsl:=Q5 c
 unfold Zao Zd3 Yv
 rw[Zac c (Ke hp.ok),Option.bind_some,hp.ok,if_neg (by simp),Ym,Option.bind_some,if_neg (by simp),Z9j hp,Option.bind_some,Zqn,Option.bind_some,Z37 hp,Option.bind_some,Zhw,Option.bind_some]
 rw[Yy (a:=2) (b:=Xh c*lenM c+lenM c*Zz c) (by omega) (by omega),Zm (b:=c.maxSplit) (by omega) (by omega),Zm (b:=Xh c) (by omega) (by omega),Yy (a:=1) (by omega) (by omega),Zm (b:=Zz c*Qq c) (by omega) (by omega),Yy (a:=2) (b:=Zz c) (by omega) (by omega),Yy (a:=2) (by omega) (by omega),Zm (b:=2*Zz c) (by omega) (by omega),Zm (b:=10) (by omega) (by omega),Int.one_mul]
theorem Zsz {c:GConf} (hp:Plain c):Zaj c 1=some (Yv c):=by
 have h:=Zqv hp
 have hcl:=Zcc c
 have hsl:=Q5 c
 unfold Zaj Zdw Yv
 rw[K6 c (Ke hp.ok),Option.bind_some,hp.ok,if_neg (by simp),Yk,Option.bind_some,if_neg (by simp),Z81 hp,Option.bind_some,Ze2,Option.bind_some,Yaf hp,Option.bind_some,Ze0,Option.bind_some]
 rw[Yy (a:=2) (b:=Xh c*lenM c+lenM c*Zz c) (by omega) (by omega),Zm (b:=c.maxSplit) (by omega) (by omega),Zm (b:=Xh c) (by omega) (by omega),Yy (a:=1) (by omega) (by omega),Zm (b:=Zz c*Qq c) (by omega) (by omega),Yy (a:=2) (b:=Zz c) (by omega) (by omega),Yy (a:=2) (by omega) (by omega),Zm (b:=2*Zz c) (by omega) (by omega),Zm (b:=10) (by omega) (by omega),Int.one_mul]
theorem Z76 {c:GConf} (hl:c.masters.length < 1048577) (h:Z8 c=false):Zao c 1=some 0∧Zaj c 1=some 0:=by
 unfold Zao Zaj
 rw[Zac c hl,K6 c hl,h]
 exact⟨rfl,rfl⟩
def Z4c (l:List GDone) (w:Int):Int:=l.foldl (fun m d=>if d.who=w then maxI m d.cycle else m) (-1)
theorem Zzf (l:List GDone) (w:Int) (hl:l.length < 1048577):Zii l w=some (Z4c l w):=by
 unfold Zii
 rw[Zwo (ρ:=Int) l (by omega) (fun (d:GDone) m=>some (.inl (if d.who=w then maxI m d.cycle else m))) (fun m=>some m) (Zci l w) (fun m v i=>?_) (-1)]
 ·exact Yak _ _ (fun m (d:GDone)=>if d.who=w then maxI m d.cycle else m) (fun _ _=>True) (fun a l s _=>⟨rfl,trivial⟩) _ _ trivial
 ·show Zf2 l w _ v i=_
  unfold Zf2
  congr 1;congr 1;funext a
  by_cases h:a.who=w<;>simp[h,goL]
theorem Yeq {l:List GDone} {w u:Int} (h:∀d∈l,d.cycle≤u) (hu:-1≤u):Z4c l w≤u∧∀d∈l,d.who=w→d.cycle≤Z4c l w:=by
 have key:∀(l:List GDone) (m:Int),m≤u→(∀d∈l,d.cycle≤u)→l.foldl (fun m d=>if d.who=w then maxI m d.cycle else m) m≤u∧m≤l.foldl (fun m d=>if d.who=w then maxI m d.cycle else m) m∧∀d∈l,d.who=w→d.cycle≤l.foldl (fun m d=>if d.who=w then maxI m d.cycle else m) m:=by
  intro l
  induction l with
  | nil=>intro m h1 _;exact⟨h1,Int.le_refl _,fun d hd=>absurd hd (by simp)⟩
  | cons a l ih=>
   intro m h1 h2
   have h3:=h2 a (List.mem_cons_self ..)
   have hm:=Znt m a.cycle
   have h4:=ih (if a.who=w then maxI m a.cycle else m) (by split<;>omega) (fun d hd=>h2 d (List.mem_cons_of_mem _ hd))
   rw[List.foldl_cons]
   refine⟨h4.1,?_,fun d hd hw=>?_⟩
   ·have:=h4.2.1
    split at this<;>omega
   ·rcases List.mem_cons.1 hd with e|e
    ·subst e
     have:=h4.2.1
     rw[if_pos hw] at this
     rw[if_pos hw]
     omega
    ·exact h4.2.2 d e hw
 have:=key l (-1) hu h
 exact⟨this.1,this.2.2⟩
theorem Z8t (x0:List Int) (h0:∀y∈x0,(Lit.int .u8 y).wf=true) (hl:x0.length < 1048577) (i:Nat) (hi:i < 100):∃a,Zjj x0 (i:Int)=some a∧0≤a∧a < 256:=by
 unfold Zjj
 by_cases h:i < x0.length
 ·have hu:=u8_ok (h0 _ (List.getElem_mem h))
  rw[if_pos (by simpa using h),Yi h,Option.bind_some,show w64 x0[i]=x0[i] from Ycr (by omega) (by omega)]
  exact⟨_,rfl,by omega,by omega⟩
 ·rw[if_neg (by simpa using h),Yy (by omega) (by omega),Yy (by omega) (by omega),Zm (by omega) (by omega),Kq (by omega)]
  exact⟨_,rfl,Int.emod_nonneg _ (by decide),Int.emod_lt_of_pos _ (by decide)⟩
def Zcy (m:GMConf):GMConf:={m with weight:=1}
def Yl (c:GConf):GConf:=GConf.mk (c.masters.map Zcy) 1 0 (remW c.maxRetry 2) c.maxSplit (addW 1 (remW c.lockMost 2))
theorem Z6s {c:GConf} (hc:Z8 c=true) (h:Z8 (Yl c)=true):Plain (Yl c):=by
 have hl:=Xe hc
 have hr:(Yl c).maxRetry=c.maxRetry % 2:=Kq hl.1.1
 have hk:(Yl c).lockMost=1+c.lockMost % 2:=by
  show addW 1 (remW c.lockMost 2)=_
  rw[Kq (by omega),Zm (by omega) (by omega)]
 refine⟨h,by rw[hr];omega,rfl,by rw[hk];omega,fun i hi=>?_⟩
 unfold Jv
 rw[if_pos ⟨h,hi⟩]
 obtain⟨k,rfl,hk2⟩:=Zkl hi
 unfold Znq
 have hk3:k < c.masters.length:=by simpa [Yl] using hk2
 have:(Yl c).masters[(k:Int).toNat]?=some (Zcy c.masters[k]):=by
  rw[Int.toNat_natCast]
  show (c.masters.map Zcy)[k]?=_
  rw[List.getElem?_map,List.getElem?_eq_getElem hk3]
  rfl
 rw[this]
 rfl
def oneR (a:Int):GReq:=GReq.mk false (mulW (remW a 48) 4) 2 0 false []
theorem Yfk {a:Int} (h0:0≤a) (h1:a < 256):reqG (oneR a)=true∧Yo (oneR a).burst=1∧(Ye (Ya (Zlp (oneR a)) 0)=1∨Ye (Ya (Zlp (oneR a)) 0)=2):=by
 have hr:remW a 48=a % 48:=Kq h0
 have hm:=Int.emod_nonneg a (show (48:Int)≠0 by decide)
 have hm2:=Int.emod_lt_of_pos a (show (0:Int) < 48 by decide)
 have ea:(oneR a).addr=a % 48*4:=by
  show mulW (remW a 48) 4=_
  rw[hr,Yy (by omega) (by omega)]
 generalize hx:a % 48=x at*
 have e:oneR a=GReq.mk false (x*4) 2 0 false []:=by
  unfold oneR
  rw[hr,Yy (by omega) (by omega)]
 rw[e]
 have hx2:∃k:Nat,x=k∧k < 48:=⟨x.toNat,by omega,by omega⟩
 obtain⟨k,rfl,hk⟩:=hx2
 clear e ea hr hx hm hm2
 have:∀k:Fin 48,reqG (GReq.mk false ((k.val:Int)*4) 2 0 false [])=true∧Yo (GReq.mk false ((k.val:Int)*4) 2 0 false []).burst=1∧(Ye (Ya (Zlp (GReq.mk false ((k.val:Int)*4) 2 0 false [])) 0)=1∨Ye (Ya (Zlp (GReq.mk false ((k.val:Int)*4) 2 0 false [])) 0)=2):=by decide +kernel
 exact this ⟨k,hk⟩
theorem Zyx {α:Type} (p:α→Bool) (xs:List α) {k:Nat} (hk:k < xs.length):(xs.take (k+1)).filter p=(xs.take k).filter p++(if p xs[k]=true then [xs[k]] else []):=by
 rw[List.take_succ_eq_append_getElem hk,List.filter_append]
 by_cases h:p xs[k]=true<;>simp[h]
theorem Z13 (x0:List Int) (h0:x0.length≤maxLen∧∀y∈x0,(Lit.int .u8 y).wf=true):Zqf x0=some true:=by
 unfold Zqf
 rw[big_eq,Option.bind_some]
 by_cases hx:(x0.length:Int) > 1048576
 ·rw[if_pos (by simpa using hx)]
 ·rw[if_neg (by simpa using hx)]
  have hxl:x0.length < 1048577:=by omega
  obtain⟨⟨c,s,n⟩,e,hm,hs,hn⟩:=Z5o x0 (by omega)
  dsimp only at hm hs hn
  have hl:c.masters.length < 1048577:=by omega
  rw[e,Option.bind_some]
  dsimp only
  rw[Zep c s hl hs.sm,Option.bind_some]
  by_cases hok:Qy c s=true
  ·rw[if_neg (by simp[hok])]
   have hc:=Zlc hok
   have hlen:=Xo hc
   have hpl:s.posts.length≤20:=(Z4m hok).len
   obtain⟨a0,q0,r0,r1⟩:=Z8t x0 h0.2 hxl 0 (by omega)
   obtain⟨a1,q1,r2,r3⟩:=Z8t x0 h0.2 hxl 1 (by omega)
   obtain⟨a2,q2,r4,r5⟩:=Z8t x0 h0.2 hxl 2 (by omega)
   have hmod0:=Int.emod_nonneg a0 (show ((c.masters.length:Nat):Int)≠0 by omega)
   have hmod1:=Int.emod_lt_of_pos a0 (show 0 < ((c.masters.length:Nat):Int) by omega)
   have hm30:=Int.emod_nonneg a1 (show (30:Int)≠0 by decide)
   have hm31:=Int.emod_lt_of_pos a1 (show (0:Int) < 30 by decide)
   let K:Nat→GConf:=fun k=>{Yl c with masters:=(c.masters.take k).map Zcy++c.masters.drop k}
   refine Jl (σ:=GConf×GScript) (n:=c.masters.length) (by omega) (fun k=>(K k,s)) (B:=fun κ st i=>Zdp x0 (fun x y i=>κ (x,y) i) st.1 st.2 i) (L:=fun m st i=>Zfo x0 m st.1 st.2 i) (fun m s i=>rfl) (fun k hk κ=>?_) fun κ=>?_
   ·have htk:((c.masters.take k).map Zcy).length=k:=by rw[List.length_map,List.length_take];omega
    have hlt:k < (K k).masters.length:=by show k < (_++_:List GMConf).length;rw[List.length_append,htk,List.length_drop];omega
    have hlt2:(K k).masters.length=c.masters.length:=by show (_++_:List GMConf).length=_;rw[List.length_append,htk,List.length_drop];omega
    have hg:(K k).masters[k]=c.masters[k]:=by
     show ((c.masters.take k).map Zcy++c.masters.drop k)[k]'hlt=_
     rw[List.getElem_append_right (by omega)]
     simp only[List.getElem_drop,htk,Nat.sub_self,Nat.add_zero]
    unfold Zdp
    dsimp only
    rw[if_pos (by simp;omega),Yi hlt,hg,Option.bind_some,Qi,Int.toNat_natCast,Option.bind_some]
    have:(K k).masters.set k (Zcy c.masters[k])=(c.masters.take (k+1)).map Zcy++c.masters.drop (k+1):=by
     show ((c.masters.take k).map Zcy++c.masters.drop k).set k (Zcy c.masters[k])=_
     rw[List.set_append_right _ _ (by omega),htk,Nat.sub_self,List.drop_eq_getElem_cons hk,List.set_cons_zero,List.take_succ_eq_append_getElem hk,List.map_append,List.append_assoc]
     rfl
    show κ (GConf.mk ((K k).masters.set k (Zcy c.masters[k])) 1 0 (remW c.maxRetry 2) c.maxSplit (addW 1 (remW c.lockMost 2)),s) _=κ (GConf.mk ((c.masters.take (k+1)).map Zcy++c.masters.drop (k+1)) 1 0 (remW c.maxRetry 2) c.maxSplit (addW 1 (remW c.lockMost 2)),s) _
    rw[this]
   ·have hKe:K c.masters.length=Yl c:=by
     show ({Yl c with masters:=(c.masters.take c.masters.length).map Zcy++c.masters.drop c.masters.length}:GConf)=_
     rw[List.take_length,List.drop_length,List.append_nil]
     rfl
    dsimp only
    rw[hKe]
    have hml:(Yl c).masters.length=c.masters.length:=List.length_map ..
    have ew:remW a0 (c.masters.length:Int)=a0 % (c.masters.length:Int):=Kq r0
    have et:remW a1 30=a1 % 30:=Kq r2
    unfold Zdp
    have q0:Zjj x0 0=some a0:=q0
    have q1:Zjj x0 1=some a1:=q1
    have q2:Zjj x0 2=some a2:=q2
    rw[hml,if_neg (by simp),q0,Option.bind_some,Zgc (by omega),Option.bind_some,q1,Option.bind_some,ew,et]
    generalize a0 % (c.masters.length:Int)=w at*
    generalize a1 % 30=t at*
    let A:List GPost:=s.posts.filter fun p=>decide (p.who≠w)&&decide (p.at_≤t)
    let B:List GPost:=s.posts.filter fun p=>decide (p.who≠w)&&decide (p.at_ > t)
    have hAl:A.length≤20:=Nat.le_trans (List.length_filter_le ..) hpl
    have hBl:B.length≤20:=Nat.le_trans (List.length_filter_le ..) hpl
    refine Jl (σ:=GConf×GScript×GScript×Int×Int) (n:=s.posts.length) (by omega) (fun k=>(Yl c,s,{s with posts:=(s.posts.take k).filter fun p=>decide (p.who≠w)&&decide (p.at_≤t)},w,t)) (B:=fun κ st i=>Zei x0 (fun x y z u v i=>κ (x,y,z,u,v) i) st.1 st.2.1 st.2.2.1 st.2.2.2.1 st.2.2.2.2 i) (L:=fun m st i=>Zfg x0 m st.1 st.2.1 st.2.2.1 st.2.2.2.1 st.2.2.2.2 i) (fun m s i=>rfl) (fun k hk κ=>?_) fun κ=>?_
    ·have hfl:((s.posts.take k).filter fun p=>decide (p.who≠w)&&decide (p.at_≤t)).length≤k:=Nat.le_trans (List.length_filter_le ..) (by rw[List.length_take];omega)
     unfold Zei Zfq
     dsimp only
     rw[if_pos (by simpa using hk),Yi hk,Option.bind_some,Zyx _ _ hk]
     by_cases h1:s.posts[k].who=w
     ·rw[if_neg (by simp[h1]),if_neg (by simp)]
      simp[h1]
     ·rw[if_pos (by simpa using h1)]
      by_cases h2:s.posts[k].at_≤t
      ·rw[if_pos (by simpa using h2),Option.bind_some,Wl (by simp only[List.length_cons,List.length_nil];omega) (by simp only[List.length_cons,List.length_nil];omega),Option.bind_some]
       simp[h1,h2]
      ·rw[if_neg (by simpa using h2)]
       simp[h1,h2]
    ·unfold Zei
     dsimp only
     have hAl2:(s.posts.filter fun p=>decide (p.who≠w)&&decide (p.at_≤t)).length≤20:=hAl
     rw[if_neg (by simp),q2,Option.bind_some,List.take_length,Wl (by simp only[List.length_cons,List.length_nil];omega) (by simp only[List.length_cons,List.length_nil];omega),Option.bind_some]
     show Zbj x0 FU (Yl c) s {s with posts:=A++[GPost.mk t w (oneR a2)]} w t 0=some true
     have eI:({s with posts:=A++[GPost.mk t w (oneR a2)]}:GScript)={s with posts:=A++[GPost.mk t w (oneR a2)]++(s.posts.take 0).filter fun p=>decide (p.who≠w)&&decide (p.at_ > t)}:=by simp
     rw[eI]
     refine Jl (σ:=GConf×GScript×GScript×Int×Int) (n:=s.posts.length) (by omega) (fun k=>(Yl c,s,{s with posts:=A++[GPost.mk t w (oneR a2)]++(s.posts.take k).filter fun p=>decide (p.who≠w)&&decide (p.at_ > t)},w,t)) (B:=fun κ st i=>Zea x0 (fun x y z u v i=>κ (x,y,z,u,v) i) st.1 st.2.1 st.2.2.1 st.2.2.2.1 st.2.2.2.2 i) (L:=fun m st i=>Zbj x0 m st.1 st.2.1 st.2.2.1 st.2.2.2.1 st.2.2.2.2 i) (fun m s i=>rfl) (fun k hk κ=>?_) fun κ=>?_
     ·have hfl:((s.posts.take k).filter fun p=>decide (p.who≠w)&&decide (p.at_ > t)).length≤k:=Nat.le_trans (List.length_filter_le ..) (by rw[List.length_take];omega)
      unfold Zea Zfm
      dsimp only
      rw[if_pos (by simpa using hk),Yi hk,Option.bind_some,Zyx _ _ hk]
      by_cases h1:s.posts[k].who=w
      ·rw[if_neg (by simp[h1]),if_neg (by simp)]
       simp[h1]
      ·rw[if_pos (by simpa using h1)]
       by_cases h2:s.posts[k].at_ > t
       ·rw[if_pos (by simpa using h2),Option.bind_some,Wl (by simp only[List.length_append,List.length_cons,List.length_nil];omega) (by simp only[List.length_append,List.length_cons,List.length_nil];omega),Option.bind_some]
        simp[h1,h2]
       ·rw[if_neg (by simpa using h2)]
        simp[h1,h2]
     ·unfold Zea
      dsimp only
      rw[if_neg (by simp),List.take_length]
      have hR:=Yfk r4 r5
      let P:GScript:={s with posts:=A++[GPost.mk t w (oneR a2)]++B}
      have hPsm:P.sm:=by
       have hS:=hs.sm
       refine⟨by show (A++[GPost.mk t w (oneR a2)]++B).length < _;simp only[List.length_append,List.length_cons,List.length_nil];omega,fun p hp=>?_,hS.waits,hS.says,hS.wmin⟩
       have hp:p∈A++[GPost.mk t w (oneR a2)]++B:=hp
       rcases List.mem_append.1 hp with h1|h1
       ·rcases List.mem_append.1 h1 with h2|h2
        ·exact hS.reqs p (List.mem_filter.1 h2).1
        ·rw[List.mem_singleton.1 h2];exact Yct hR.1
       ·exact hS.reqs p (List.mem_filter.1 h1).1
      have hlt2:(Yl c).masters.length < 1048577:=by omega
      show ((Zao (Yl c) 1).bind fun r5=>(Zau (Yl c) P).bind fun r6=>if (!r6)=true then X1 x0 (Yl c) P w t r5 true else if decide (r5 < 1)=true then X1 x0 (Yl c) P w t r5 true else X1 x0 (Yl c) P w t r5 (decide ((addW (addW t r5) 1) > 4000)))=some true
      by_cases hc2:Z8 (Yl c)=true
      ·have hp:=Z6s hc hc2
       have hbp:=Zqv hp
       have hcl:=Zcc (Yl c)
       have hsl:=Q5 (Yl c)
       have hbb:1≤Yv (Yl c)∧Yv (Yl c)≤20000:=by unfold Yv;omega
       rw[Z1f hp,Option.bind_some,Zep _ _ hlt2 hPsm,Option.bind_some]
       have hguard:∀v,v=true→X1 x0 (Yl c) P w t (Yv (Yl c)) v=some true:=by
        rintro v rfl
        unfold X1
        rw[if_pos rfl,Zep _ _ hlt2 hPsm,Option.bind_some]
        by_cases hk:Qy (Yl c) P=true
        ·rw[if_neg (by simp[hk]),Zsz hp]
         simp
        ·rw[if_pos (by simpa using hk)]
       by_cases hk:Qy (Yl c) P=true
       ·rw[if_neg (by simp[hk]),if_neg (by simp;omega),Zm (a:=t) (b:=Yv (Yl c)) (by omega) (by omega),Zm (by omega) (by omega)]
        by_cases hbig:t+Yv (Yl c)+1 > 4000
        ·exact hguard _ (decide_eq_true hbig)
        ·rw[decide_eq_false hbig]
         unfold X1
         rw[if_neg (by simp),Zm (a:=t) (b:=Yv (Yl c)) (by omega) (by omega),Zm (by omega) (by omega)]
         obtain⟨tn,rfl⟩:∃k:Nat,t=k:=⟨t.toNat,by omega⟩
         have hN:(((tn+(Yv (Yl c)).toNat+1:Nat)):Int)=(tn:Int)+Yv (Yl c)+1:=by omega
         rw[←hN,Yao _ _ _ hlt2 hPsm,Option.bind_some,Yda hk (by omega)]
         dsimp only
         have hrun:=Zda (Zxg hp.ok) P (tn+(Yv (Yl c)).toNat+1) (by show (0:Int)+_≤4000;omega)
         have hwm:Za (Yl c) w=true:=by simp only[Za,decide_eq_true_eq];omega
         have hone:OnePost w tn (oneR a2) P:=⟨A,B,by show A++[GPost.mk tn w (oneR a2)]++B=_;simp,fun p hp=>by simpa using (List.mem_filter.1 hp).2,fun p hp=>by simpa using (List.mem_filter.1 hp).2⟩
         obtain⟨d,hd1,hd2,hd3⟩:=Z9q hp hwm hR.1 hR.2.1 rfl hR.2.2 hone (by omega) hbb.1
         have hnow:(runN (newG (Yl c)) P (tn+(Yv (Yl c)).toNat+1)).1.now=(tn:Int)+Yv (Yl c)+1:=by
          rw[hrun.2.1,hN]
          show (0:Int)+_=_
          omega
         have hcy:∀d∈(runN (newG (Yl c)) P (tn+(Yv (Yl c)).toNat+1)).1.log,d.cycle≤(tn:Int)+Yv (Yl c):=fun d hd=>by
          have:=(hrun.1.log.1 d hd).1.2
          rw[hnow] at this
          omega
         have hlb:=Yeq (w:=w) hcy (by omega)
         have h6:=hlb.2 d hd1 hd2
         rw[Zzf _ _ hrun.1.sm.log,Option.bind_some,if_pos rfl,if_pos (by simp;omega),if_pos (by simpa using hlb.1),Zsz hp]
         simp
       ·rw[if_pos (by simpa using hk)]
        exact hguard _ rfl
      ·have hc3:Z8 (Yl c)=false:=by simpa using hc2
       have hbn:=Z76 hlt2 hc3
       have hno:Qy (Yl c) P=false:=by
        cases hk:Qy (Yl c) P with
        | false=>rfl
        | true=>exact absurd (Zlc hk) hc2
       rw[hbn.1,Option.bind_some,Zep _ _ hlt2 hPsm,Option.bind_some,hno,if_pos (by simp)]
       unfold X1
       rw[if_pos rfl,Zep _ _ hlt2 hPsm,Option.bind_some,hno,if_pos (by simp)]
  ·rw[if_pos (by simpa using hok)]
end Go.Proofs.YtciimjnpdmmfnaaGreat.Ev
