/- A part of the proof of FnExactLogText: see the text YtgmmcfpabnoekaaDoorLawFnExactLogText for what is proved and its conditions. Conditions here: those in each line. -/
import Derived.Test.YtgmmcfpabnoekaaDoorA4
namespace Go.Proofs.YtgmmcfpabnoekaaDoor.Ev
open Go Go.Proofs
set_option linter.unusedVariables false
set_option linter.unusedSimpArgs false
theorem wrap64 {n:Int} (h1:-9223372036854775808≤n) (h2:n < 9223372036854775808):IntKind.i64.wrap n=n:=w64_of h1 h2
theorem Zig {a b:Int} (h1:-9223372036854775808≤a+b) (h2:a+b < 9223372036854775808):addW a b=a+b:=wrap64 h1 h2
theorem Zca {k:Nat} (h:k < 4611686018427387904):addW (k:Int) 1=((k+1:Nat):Int):=by rw[Zig (by omega) (by omega)];rfl
section
variable {α β σ ρ:Type}
theorem Q2 {xs:List α} {k:Nat} (h:k < xs.length):idx xs (k:Int)=some xs[k]:=by
 simp[idx,h]
theorem Zfw:4611686018427387904 < FU:=by decide
theorem Zg6 (xs:List α) (g:α→β) (hl:xs.length < 4611686018427387904) (f:α→Option β) (hf:∀a∈xs,f a=some (g a)) (L:Nat→List β→Int→Option (List β))
  (hL:∀m v i,L (m+1) v i=if decide (i < (xs.length:Int))=true then (idx xs i).bind fun a=>(f a).bind fun b=>(idx v i).bind fun _=>(setO v i b).bind fun y=>L m y (addW i 1) else some v) (v:List β) (hv:v.length=xs.length):L FU v 0=some (xs.map g):=by
 have key:∀(m k:Nat) (v:List β),k≤xs.length→xs.length - k < m→v.length=xs.length→v.take k=(xs.take k).map g→L m v k=some (xs.map g):=by
  intro m
  induction m with
  | zero=>intro k v _ h;omega
  | succ m ih=>
   intro k v hk hm hv ht
   rw[hL]
   by_cases hc:k < xs.length
   ·have h1:decide ((k:Int) < (xs.length:Int))=true:=by simpa using hc
    have hc2:k < v.length:=by omega
    rw[if_pos h1,Q2 hc,Option.bind_some,hf _ (List.getElem_mem hc),Option.bind_some,Q2 hc2,Option.bind_some]
    simp only[setO,Option.bind_some]
    rw[Zca (by omega)]
    refine ih (k+1) _ (by omega) (by omega) (by simp[hv]) ?_
    rw[Int.toNat_natCast,List.take_add_one,List.take_add_one,List.map_append,List.take_set_of_le (Nat.le_refl _),ht,List.getElem?_set_self hc2,List.getElem?_eq_getElem hc]
    rfl
   ·have h1:¬decide ((k:Int) < (xs.length:Int))=true:=by simpa using hc
    rw[if_neg h1]
    rw[List.take_of_length_le (by omega),List.take_of_length_le (by omega)] at ht
    rw[ht]
 have:=key FU 0 v (Nat.zero_le _) (by have:=Zfw;omega) hv (by simp)
 simpa using this
theorem mkI_of {sz n:Nat} {z:α} (h1:n*sz≤70368744177664) (h2:n≤9223372036854775807):mkI sz (n:Int) z=some (List.replicate n z):=by
 simp[mkI,h1,h2]
end
section
variable {α:Type}
end
theorem Za1 {σ ρ:Type} {n:Nat} (hn:n < 4611686018427387904) (st:Nat→σ) {B:(σ→Int→ρ)→σ→Int→ρ} {L:Nat→σ→Int→ρ} (hL:∀m s i,L (m+1) s i=B (L m) s i)
  (hs:∀k,k < n→∀κ,B κ (st k) (k:Int)=κ (st (k+1)) (addW (k:Int) 1)) {r:ρ} (hf:∀κ,B κ (st n) (n:Int)=r):L FU (st 0) 0=r:=by
 have key:∀(m k:Nat),k≤n→n - k < m→L m (st k) (k:Int)=r:=by
  intro m
  induction m with
  | zero=>intro k _ h;omega
  | succ m ih=>
   intro k hk hm
   rw[hL]
   by_cases hc:k < n
   ·rw[hs k hc,Zca (by omega)]
    exact ih (k+1) (by omega) (by omega)
   ·have:k=n:=by omega
    subst this
    exact hf _
 have:=key FU 0 (Nat.zero_le _) (by have:=Zfw;omega)
 simpa using this
theorem Zg8 {ρ:Type} {n:Nat} (hn:n < 4611686018427387904) {B:(Int→ρ)→Int→ρ} {L:Nat→Int→ρ} (hL:∀m i,L (m+1) i=B (L m) i)
  (hs:∀k,k < n→∀κ,B κ (k:Int)=κ (addW (k:Int) 1)) {r:ρ} (hf:∀κ,B κ (n:Int)=r):L FU 0=r:=
 Za1 (σ:=Unit) hn (fun _=>()) (B:=fun κ _ i=>B (κ ()) i) (L:=fun m _ i=>L m i) (fun m _ i=>hL m i) (fun k hk κ=>hs k hk _) fun κ=>hf _
def L8 (b:ByteArray):List UInt8:=b.data.toList
theorem Wp (a b:ByteArray):L8 (a++b)=L8 a++L8 b:=by simp[L8]
theorem Q7 {a b:ByteArray} (h:L8 a=L8 b):a=b:=by
 cases a;cases b
 simp only[L8] at h
 rw[Array.toList_inj.1 h]
theorem Y1 (a:ByteArray):a.size=(L8 a).length:=by show a.data.size=a.data.toList.length;rw[Array.length_toList]
theorem Xn (l:List UInt8):L8 ⟨l.toArray⟩=l:=rfl
theorem Y0 (l:List UInt8):L8 (strL l)=l:=rfl
theorem Zhm:L8 ByteArray.empty=[]:=rfl
theorem X8 {a b:ByteArray} (h:a.size+b.size < 9223372036854775808):catI a b=some ():=by
 unfold catI
 rw[if_neg (by simp[IntKind.max,IntKind.signed,IntKind.bits];omega)]
theorem Kc (a b:ByteArray):(a++b).size=a.size+b.size:=by rw[Y1,Wp,List.length_append,Y1,Y1]
theorem Ye (l:List UInt8):(strL l).size=l.length:=by rw[Y1,Y0]
theorem Jb:∀(k u:Nat),u < 10^(k+1)→(Lib.decDigits u).length≤k+1:=by
 intro k
 induction k with
 | zero=>
  intro u hu
  rw[Lib.decDigits,dif_pos (by omega)];simp
 | succ k ih=>
  intro u hu
  rw[Lib.decDigits]
  split
  ·simp
  ·rw[List.length_append]
   have:=ih (u / 10) (by rw[Nat.pow_succ] at hu;omega)
   simp;omega
def dgL (u:Nat):List UInt8:=if u=0 then [] else Lib.decDigits u
theorem Zht {u:Nat} (h:u≠0):dgL u=dgL (u / 10)++[UInt8.ofNat (48+u % 10)]:=by
 unfold dgL
 rw[if_neg h,Lib.decDigits]
 split
 ·rename_i h1
  rw[if_pos (by omega),Nat.mod_eq_of_lt h1];rfl
 ·rw[if_neg (by omega)]
def InR (x:Int):Prop:=-9223372036854775808≤x∧x≤9223372036854775807
def decB (x:Int):ByteArray:=⟨(Lib.itoa x).toArray⟩
theorem Q6 (x:Int):L8 (decB x)=Lib.itoa x:=rfl
theorem Q5 {x:Int} (h:InR x):(Lib.itoa x).length≤20:=by
 obtain⟨h1,h2⟩:=h
 unfold Lib.itoa
 split
 ·have:=Jb 18 x.natAbs (by omega)
  simp;omega
 ·have:=Jb 18 x.toNat (by omega)
  omega
theorem Qm {x:Int} (h:InR x):(decB x).size≤20:=by rw[Y1,Q6];exact Q5 h
theorem Ziu {x:Int} (h:x≠0):Lib.itoa x=(if x < 0 then [45] else [])++dgL x.natAbs:=by
 unfold Lib.itoa dgL
 have hn:¬x.natAbs=0:=by omega
 by_cases hx:x < 0
 ·rw[if_pos hx,if_pos hx,if_neg hn];rfl
 ·have:x.toNat=x.natAbs:=by omega
  rw[if_neg hx,if_neg hx,if_neg hn,this];rfl
theorem Zgf:Lib.itoa 0=[48]:=by
 unfold Lib.itoa
 rw[if_neg (by omega),show (0:Int).toNat=0 from rfl,Lib.decDigits,dif_pos (by omega)];rfl
theorem digB {d:Int} (h0:0≤d) (h1:d < 10):strB [w8 (addW 48 d)]=strL [UInt8.ofNat (48+d.toNat)]:=by
 have:w8 (addW 48 d)=((48+d.toNat:Nat):Int):=by
  simp[w8,addW,IntKind.wrap,IntKind.bits,IntKind.signed];omega
 rw[this]
 rfl
theorem Ze6 (x0:Int):∀(m:Nat) (v0:Int) (v1:ByteArray),v0.natAbs < m→InR v0→(v1.size+v0.natAbs < 9223372036854775807∨v1.size=0)→
  ∃r,Yz x0 m v0 v1=some r∧L8 r=(if x0 < 0 then [45] else [])++dgL v0.natAbs++L8 v1:=by
 intro m
 induction m with
 | zero=>intro v0 v1 h;omega
 | succ m ih=>
  intro v0 v1 hm hr hs
  show ∃r,W3 x0 (Yz x0 m) v0 v1=some r∧_
  unfold W3
  obtain⟨hr1,hr2⟩:=hr
  by_cases h0:v0=0
  ·subst h0
   rw[if_neg (by simp)]
   by_cases hx:x0 < 0
   ·rw[if_pos (by simpa using hx),X8 (by
     have hz:(0:Int).natAbs=0:=rfl
     rw[hz] at hs
     rw[Ye]
     show 1+v1.size < _
     omega),Option.bind_some]
    exact⟨_,rfl,by rw[if_pos hx,Wp];rfl⟩
   ·rw[if_neg (by simpa using hx)]
    exact⟨_,rfl,by rw[if_neg hx];rfl⟩
  ·rw[if_pos (by simpa using h0)]
   have hq:quoW v0 10=v0.tdiv 10:=by
    unfold quoW
    have:(v0.tdiv 10).natAbs=v0.natAbs / 10:=by rw[Int.natAbs_tdiv];rfl
    simp[IntKind.wrap,IntKind.bits,IntKind.signed];omega
   have hqa:(v0.tdiv 10).natAbs=v0.natAbs / 10:=by rw[Int.natAbs_tdiv];rfl
   have hra:(v0.tmod 10).natAbs=v0.natAbs % 10:=by rw[Int.natAbs_tmod];rfl
   have step:∀d:Int,0≤d→d.toNat=v0.natAbs % 10→∃r,Xl x0 (Yz x0 m) v0 v1 d=some r∧L8 r=(if x0 < 0 then [45] else [])++dgL v0.natAbs++L8 v1:=fun d hd0 hd=>by
    unfold Xl
    rw[digB hd0 (by omega),X8 (by rw[Ye];simp;omega),Option.bind_some,hq]
    obtain⟨r,h1,h2⟩:=ih (v0.tdiv 10) (strL [UInt8.ofNat (48+d.toNat)]++v1) (by omega) (by constructor<;>omega) (.inl (by rw[Kc,Ye,hqa];simp;omega))
    refine⟨r,h1,?_⟩
    rw[h2,hqa,Wp,Y0,Zht (u:=v0.natAbs) (by omega),hd]
    simp
   unfold remW at*
   by_cases hn:v0.tmod 10 < 0
   ·rw[if_pos (by simpa using hn)]
    have hneg:negW (v0.tmod 10)=-(v0.tmod 10):=by
     simp[negW,IntKind.wrap,IntKind.bits,IntKind.signed];omega
    rw[hneg]
    exact step _ (by omega) (by omega)
   ·rw[if_neg (by simpa using hn)]
    exact step _ (by omega) (by omega)
theorem Kb {x:Int} (h:InR x):X6 x=some (decB x):=by
 unfold X6
 by_cases h0:x=0
 ·subst h0
  rw[if_pos (by simp)]
  exact congrArg some (Q7 (by rw[Q6,Zgf,Y0]))
 ·rw[if_neg (by simpa using h0)]
  obtain⟨r,h1,h2⟩:=Ze6 x FU x ByteArray.empty (by obtain⟨h1,h2⟩:=h;unfold FU;omega) h (.inr rfl)
  rw[h1]
  exact congrArg some (Q7 (by rw[h2,Q6,Ziu h0,Zhm,List.append_nil]))
theorem Kr {x:Int} (h:InR x):X9 x=some (decB x):=by
 unfold X9 Xk
 rw[if_pos (show _∧_ from h)]
 rfl
theorem Zim {ws:List ByteArray} {sep:ByteArray} (h1:ws.length≤1000000000) (h2:(Lib.join (ws.map L8) (L8 sep)).length≤140737488355328):Yq ws sep=some ⟨(Lib.join (ws.map L8) (L8 sep)).toArray⟩:=by
 unfold Yq
 rw[if_pos ⟨by omega,h2⟩]
 rfl
theorem Zaq {n:Int} (h:(Lit.int .i64 n).wf=true):InR n:=by
 simp[Lit.wf,IntKind.min,IntKind.max,IntKind.signed,IntKind.bits] at h
 exact⟨by omega,by omega⟩
def Xw (x:Int):ByteArray:=if x=0 then strL [111,107,97,121] else if x=1 then strL [101,114,114,111,114] else if x=2 then strL [114,101,116,114,121] else if x=3 then strL [115,112,108,105,116] else ByteArray.empty
theorem Zah (x:Int):(Xw x).size≤5:=by
 unfold Xw
 repeat' split
 all_goals first|decide|(rw[Ye];simp)
theorem Zbq (x:Int):Xa x=some (Xw x):=by
 by_cases h0:x < 0
 ·unfold Xa Kl Xw
  rw[if_neg (by simp;omega),if_neg (by omega),if_neg (by omega),if_neg (by omega),if_neg (by omega)];rfl
 ·by_cases h3:3 < x
  ·unfold Xa Kl Xw
   rw[if_pos (by simp;omega),Option.bind_some,if_pos (by simp;omega),if_neg (by omega),if_neg (by omega),if_neg (by omega),if_neg (by omega)]
  ·have:x=0∨x=1∨x=2∨x=3:=by omega
   rcases this with rfl|rfl|rfl|rfl<;>rfl
theorem Zbo (x:Int):Xi x=some (Xw x):=by
 have hl:subW (([strL [111,107,97,121],strL [101,114,114,111,114],strL [114,101,116,114,121],strL [115,112,108,105,116]]:List ByteArray).length:Int) 1=3:=by rfl
 by_cases h0:x < 0
 ·unfold Xi Wu Wy Xw
  rw[if_neg (by simp;omega),if_neg (by omega),if_neg (by omega),if_neg (by omega),if_neg (by omega)];rfl
 ·by_cases h3:3 < x
  ·unfold Xi Wu Wy Xw
   rw[hl,if_pos (by simp;omega),Option.bind_some,if_pos (by simp;omega),if_neg (by omega),if_neg (by omega),if_neg (by omega),if_neg (by omega)];rfl
  ·have:x=0∨x=1∨x=2∨x=3:=by omega
   rcases this with rfl|rfl|rfl|rfl<;>rfl
def GDone.nums (d:GDone):Prop:=InR d.cycle∧InR d.who∧InR d.addr∧InR d.value
theorem GDone.ok.nums {d:GDone} (h:d.ok):d.nums:=⟨Zaq h.1,Zaq h.2.1,Zaq h.2.2.2.1,Zaq h.2.2.2.2.2.1⟩
def Yn (d:GDone):List UInt8:=Lib.itoa d.cycle++[32]++Lib.itoa d.who++[32]++(if d.write=true then [119,114,105,116,101] else [114,101,97,100])++[32]++Lib.itoa d.addr++[32]++Lib.itoa d.value++[32]++L8 (Xw d.resp)
theorem Ks {d:GDone} (h:d.nums):(Yn d).length≤100:=by
 have h1:=Q5 h.1
 have h2:=Q5 h.2.1
 have h3:=Q5 h.2.2.1
 have h4:=Q5 h.2.2.2
 have h5:=Zah d.resp
 rw[Y1] at h5
 unfold Yn
 simp only[List.length_append,List.length_cons,List.length_nil]
 split<;>simp<;>omega
theorem Zby {d:GDone} (h:d.nums):X5 d=some ⟨(Yn d).toArray⟩:=by
 have h1:=Qm h.1
 have h2:=Qm h.2.1
 have h3:=Qm h.2.2.1
 have h4:=Qm h.2.2.2
 have h5:=Zah d.resp
 have key:∀v0:ByteArray,v0.size≤6→∃r,Yg d v0=some r∧L8 r=Lib.itoa d.cycle++[32]++Lib.itoa d.who++[32]++L8 v0++Lib.itoa d.addr++[32]++Lib.itoa d.value++[32]++L8 (Xw d.resp):=fun v0 hv=>by
  unfold Yg
  rw[Kb h.1,Kb h.2.1,Kb h.2.2.1,Kb h.2.2.2,Zbq]
  simp (disch:=(simp only[Kc,Ye,List.length_cons,List.length_nil];omega)) only[X8,Option.bind_some]
  refine⟨_,rfl,?_⟩
  simp only[Wp,Y0,Q6]
 unfold X5
 cases hw:d.write with
 | true=>
  rw[if_pos rfl]
  obtain⟨r,e,hr⟩:=key (strL [119,114,105,116,101,32]) (by rw[Ye];simp)
  rw[e]
  refine congrArg some (Q7 ?_)
  rw[hr,Y0]
  refine Eq.trans ?_ (Xn (Yn d)).symm
  unfold Yn
  rw[if_pos hw]
  simp
 | false=>
  rw[if_neg (by simp)]
  obtain⟨r,e,hr⟩:=key (strL [114,101,97,100,32]) (by rw[Ye];simp)
  rw[e]
  refine congrArg some (Q7 ?_)
  rw[hr,Y0]
  refine Eq.trans ?_ (Xn (Yn d)).symm
  unfold Yn
  rw[if_neg (by rw[hw];simp)]
  simp
theorem Zbv {d:GDone} (h:d.nums):Xv d=some ⟨(Yn d).toArray⟩:=by
 have hl:=Ks h
 have ej:Lib.join ([decB d.cycle,decB d.who,(if d.write=true then strL [119,114,105,116,101] else strL [114,101,97,100]),decB d.addr,decB d.value,Xw d.resp].map L8) (L8 (strL [32]))=Yn d:=by
  unfold Yn
  simp only[List.map_cons,List.map_nil,Lib.join,List.intercalate,List.intersperse,List.flatten_cons,List.flatten_nil,Y0,Q6]
  cases d.write<;>simp[Y0]
 have hw:Xo d.write=some (if d.write=true then strL [119,114,105,116,101] else strL [114,101,97,100]):=by
  unfold Xo
  cases d.write<;>rfl
 unfold Xv
 rw[Kr h.1,Kr h.2.1,Kr h.2.2.1,Kr h.2.2.2,Zbo,hw]
 simp only[Option.bind_some]
 rw[Zim (by simp) (by rw[ej];omega),Option.bind_some,ej]
def logL (l:List GDone):List UInt8:=l.flatMap fun d=>Yn d++[10]
theorem Zbh (l:List GDone) (d:GDone):logL (l++[d])=logL l++(Yn d++[10]):=by
 unfold logL
 rw[List.flatMap_append];simp
theorem Zeg:∀{l:List GDone},(∀d∈l,d.nums)→(logL l).length≤101*l.length:=by
 intro l
 induction l with
 | nil=>intro _;simp[logL]
 | cons d l ih=>
  intro h
  have h1:=Ks (h d List.mem_cons_self)
  have h2:=ih fun x hx=>h x (List.mem_cons_of_mem _ hx)
  have e:logL (d::l)=(Yn d++[10])++logL l:=rfl
  rw[e,List.length_append,List.length_append,List.length_cons]
  simp only[List.length_cons,List.length_nil]
  omega
theorem Zcv {l:List GDone} (hl:l.length < 1048577) (hn:∀d∈l,d.nums):Wf l=some ⟨(logL l).toArray⟩:=by
 unfold Wf
 refine Za1 (σ:=ByteArray) (n:=l.length) (by omega) (fun k=>⟨(logL (l.take k)).toArray⟩) (B:=fun κ st j=>Yt l κ st j) (L:=fun m st j=>Y8 l m st j) (fun m s i=>rfl) (fun k hk κ=>?_) fun κ=>?_
 ·have h1:=Zeg (l:=l.take k) fun d hd=>hn d (List.mem_of_mem_take hd)
  have h2:(l.take k).length≤k:=by rw[List.length_take];omega
  have hd:=hn _ (List.getElem_mem hk)
  have h3:=Ks hd
  have z1:(⟨(logL (l.take k)).toArray⟩:ByteArray).size=(logL (l.take k)).length:=by rw[Y1,Xn]
  have z2:(⟨(Yn l[k]).toArray⟩:ByteArray).size=(Yn l[k]).length:=by rw[Y1,Xn]
  unfold Yt
  rw[if_pos (by simpa using hk),Q2 hk,Option.bind_some,Zby hd,Option.bind_some,X8 (by rw[z1,z2];omega),Option.bind_some,X8 (by rw[Kc,z1,z2,Ye];simp;omega),Option.bind_some]
  congr 1
  refine Q7 ?_
  rw[Wp,Wp,Y0,Xn,Xn,Xn,List.take_succ_eq_append_getElem hk,Zbh,List.append_assoc]
 ·unfold Yt
  rw[if_neg (by simp),List.take_length]
theorem Zc6 {l:List GDone} (hl:l.length < 1048577) (hn:∀d∈l,d.nums):We l=some ⟨(logL l).toArray⟩:=by
 unfold We
 refine Za1 (σ:=ByteArray) (n:=l.length) (by omega) (fun k=>⟨(logL (l.take k)).toArray⟩) (B:=fun κ st j=>Yu l κ st j) (L:=fun m st j=>Y6 l m st j) (fun m s i=>rfl) (fun k hk κ=>?_) fun κ=>?_
 ·have h1:=Zeg (l:=l.take k) fun d hd=>hn d (List.mem_of_mem_take hd)
  have h2:(l.take k).length≤k:=by rw[List.length_take];omega
  have hd:=hn _ (List.getElem_mem hk)
  have h3:=Ks hd
  have z1:(⟨(logL (l.take k)).toArray⟩:ByteArray).size=(logL (l.take k)).length:=by rw[Y1,Xn]
  have z2:(⟨(Yn l[k]).toArray⟩:ByteArray).size=(Yn l[k]).length:=by rw[Y1,Xn]
  unfold Yu
  rw[if_pos (by simpa using hk),Q2 hk,Option.bind_some,Zbv hd,Option.bind_some,X8 (by rw[z2,Ye];simp;omega),Option.bind_some,X8 (by rw[Kc,z1,z2,Ye];simp;omega),Option.bind_some]
  congr 1
  refine Q7 ?_
  rw[Wp,Wp,Y0,Xn,Xn,Xn,List.take_succ_eq_append_getElem hk,Zbh]
 ·unfold Yu
  rw[if_neg (by simp),List.take_length]
theorem Zdh (a:GDone):Wv a a=some true:=by
 unfold Wv
 simp
theorem Zce {l:List GDone} (hl:l.length < 1048577):Wc l l=some true:=by
 unfold Wc
 rw[if_neg (by simp)]
 refine Zg8 (n:=l.length) (by omega) (B:=fun κ i=>Yv l l κ i) (L:=fun m i=>Y4 l l m i) (fun m i=>rfl) (fun k hk κ=>?_) fun κ=>?_
 ·unfold Yv
  rw[if_pos (by simpa using hk),Q2 hk,Option.bind_some,Option.bind_some,Zdh,Option.bind_some,if_neg (by simp)]
 ·unfold Yv
  rw[if_neg (by simp)]
theorem Zb3 {l:List GDone} (hl:l.length < 1048577):Yy l=some l:=by
 unfold Yy
 rw[mkI_of (by omega) (by omega),Option.bind_some]
 have:=Zg6 l id (by omega) Q8 (fun a _=>rfl) (Y9 l) (fun m v i=>rfl) (List.replicate l.length GDone.z0) (by simp)
 simpa using this
end Go.Proofs.YtgmmcfpabnoekaaDoor.Ev
namespace Go.Proofs.YtgmmcfpabnoekaaDoor.Ev
open Go Go.Proofs
theorem Q9 (l:List GDone) (h:l.length≤maxLen∧∀x∈l,GDone.ok x):Xe l=some true:=by
 obtain⟨hm,hok⟩:=h
 have hs:Wg l 1048576=some (if 1048576 < (l.length:Int) then -1 else 1048576 - (l.length:Int)):=by
  have:subW 1048576 (l.length:Int)=1048576 - (l.length:Int):=by
   unfold maxLen at hm
   simp[subW,IntKind.wrap,IntKind.bits,IntKind.signed];omega
  unfold Wg
  rw[this]
  by_cases hc:1048576 < (l.length:Int)
  ·rw[if_pos (by simp;omega),if_pos hc]
  ·rw[if_neg (by simp;omega),if_neg hc]
 unfold Xe
 rw[hs,Option.bind_some]
 by_cases hc:1048576 < (l.length:Int)
 ·rw[if_pos hc];rfl
 ·rw[if_neg hc]
  have hl:l.length < 1048577:=by omega
  have hn:∀d∈l,d.nums:=fun d hd=>(hok d hd).nums
  rw[if_neg (by simp;omega),Zb3 hl,Option.bind_some,Zcv hl hn,Option.bind_some,Option.bind_some,Zc6 hl hn,Option.bind_some,if_neg (by simp),Option.bind_some,Zce hl]
  rfl
end Go.Proofs.YtgmmcfpabnoekaaDoor.Ev
