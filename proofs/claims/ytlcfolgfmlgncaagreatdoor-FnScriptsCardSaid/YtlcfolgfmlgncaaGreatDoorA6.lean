/- A part of the proof of FnScripts: see the text YtlcfolgfmlgncaaGreatDoorLawFnScripts for what is proved and its conditions. Conditions here: those in each line. -/
import Derived.Test.YtlcfolgfmlgncaaGreatDoorA5
import Derived.Lib.AtoiAllCases
import Derived.Lib.SplitLaws
namespace Go.Proofs.YtlcfolgfmlgncaaGreatDoor.Ev
open Go Go.Proofs
set_option linter.unusedVariables false
set_option linter.unusedSimpArgs false
theorem Zjk {n:Int} (h1:-9223372036854775808≤n) (h2:n < 9223372036854775808):IntKind.i64.wrap n=n:=Zwl h1 h2
theorem Yr {a b:Int} (h1:-9223372036854775808≤a+b) (h2:a+b < 9223372036854775808):addW a b=a+b:=Zjk h1 h2
theorem Jj {a b:Int} (h1:-9223372036854775808≤a - b) (h2:a - b < 9223372036854775808):subW a b=a - b:=Zjk h1 h2
theorem Ql {a b:Int} (h1:-9223372036854775808≤a*b) (h2:a*b < 9223372036854775808):mulW a b=a*b:=Zjk h1 h2
theorem Z9 {k:Nat} (h:k < 4611686018427387904):addW (k:Int) 1=((k+1:Nat):Int):=by rw[Yr (by omega) (by omega)];rfl
section
variable {α β σ ρ:Type}
theorem Zi {xs:List α} {k:Nat} (h:k < xs.length):idx xs (k:Int)=some xs[k]:=by
 simp[idx,h]
theorem Yk:4611686018427387904 < FU:=by decide
theorem Xc {sz:Nat} {xs ys:List α} (h1:(xs.length+ys.length)*sz≤140737488355328) (h2:xs.length+ys.length≤9223372036854775807):appI sz xs ys=some (xs++ys):=by
 unfold appI
 rw[if_pos ⟨h1,h2⟩]
end
section
variable {α:Type}
theorem Znz (xs:List α) (i:Int) (a:α):setO xs i a=some (xs.set i.toNat a):=rfl
def atI [Inhabited α] (xs:List α) (i:Int):α:=xs.getD i.toNat default
theorem Zmr [Inhabited α] {xs:List α} {k:Nat} (h:k < xs.length):atI xs (k:Int)=xs[k]:=by
 simp[atI,h]
theorem Zew {n:Int} (h:n≠0):nzI n=some ():=by unfold nzI;rw[if_neg h]
theorem Zj8 {a n:Int} (h0:0≤a):remW a n=a % n:=by unfold remW;rw[Int.tmod_eq_emod_of_nonneg h0]
theorem Zy1 {a n:Int} (h0:0≤a) (h1:a < 9223372036854775808) (hn:1≤n):quoW a n=a / n:=by
 unfold quoW
 rw[Int.tdiv_eq_ediv_of_nonneg h0]
 have h2:0≤a / n:=Int.ediv_nonneg h0 (by omega)
 have h3:a / n≤a:=Int.ediv_le_self n h0
 exact Zjk (by omega) (by omega)
theorem Ztz (xs:List α) (hl:xs.length < 4611686018427387904) (f:α→Option Bool) (q:α→Bool) (hf:∀a∈xs,f a=some (!q a)) (L:Nat→Int→Option Int)
  (hL:∀m i,L (m+1) i=if decide (i < (xs.length:Int))=true then (idx xs i).bind fun a=>(f a).bind fun r=>if r=true then some i else L m (addW i 1) else some (-1)):
  (xs.all q=true∧L FU 0=some (-1))∨∃k:Nat,∃h:k < xs.length,L FU 0=some (k:Int)∧q xs[k]=false∧(xs.take k).all q=true:=by
 have key:∀(m k:Nat),k≤xs.length→xs.length - k < m→(xs.take k).all q=true→(xs.all q=true∧L m k=some (-1))∨∃j:Nat,∃h:j < xs.length,L m k=some (j:Int)∧q xs[j]=false∧(xs.take j).all q=true:=by
  intro m
  induction m with
  | zero=>intro k _ h;omega
  | succ m ih=>
   intro k hk hm ht
   rw[hL]
   by_cases hc:k < xs.length
   ·have h1:decide ((k:Int) < (xs.length:Int))=true:=by simpa using hc
    rw[if_pos h1,Zi hc,Option.bind_some,hf _ (List.getElem_mem hc),Option.bind_some]
    by_cases hq:q xs[k]=true
    ·have h2:¬(!q xs[k])=true:=by simp[hq]
     rw[if_neg h2,Z9 (by omega)]
     refine ih (k+1) (by omega) (by omega) ?_
     rw[List.take_succ_eq_append_getElem hc,List.all_append,ht];simp[hq]
    ·have h2:(!q xs[k])=true:=by simpa using hq
     rw[if_pos h2]
     exact .inr ⟨k,hc,rfl,by simpa using hq,ht⟩
   ·have h1:¬decide ((k:Int) < (xs.length:Int))=true:=by simpa using hc
    rw[if_neg h1]
    rw[List.take_of_length_le (by omega)] at ht
    exact .inl ⟨ht,rfl⟩
 exact key FU 0 (Nat.zero_le _) (by have:=Yk;omega) (by simp)
theorem Zu8 (xs:List α) (hl:xs.length < 4611686018427387904) (f:α→Option Bool) (q:α→Bool) (hf:∀a∈xs,f a=some (!q a)) (L:Nat→Int→Option Int)
  (hL:∀m i,L (m+1) i=if decide (i < (xs.length:Int))=true then (idx xs i).bind fun a=>(f a).bind fun r=>if r=true then some i else L m (addW i 1) else some (-1)):
  ((L FU 0).bind fun r=>some (decide (r≥0)))=some (!xs.all q):=by
 rcases Ztz xs hl f q hf L hL with⟨h1,h2⟩|⟨k,hk,h1,h2,h3⟩
 ·rw[h2,h1];rfl
 ·rw[h1,Option.bind_some]
  have:xs.all q=false:=by
   rw[List.all_eq_false]
   exact⟨xs[k],List.getElem_mem hk,by simp[h2]⟩
  rw[this]
  have h4:((k:Nat):Int)≥0:=by omega
  simp[h4]
end
theorem Zcq {σ ρ:Type} {n:Nat} (hn:n < 4611686018427387904) (st:Nat→σ) {B:(σ→Int→ρ)→σ→Int→ρ} {L:Nat→σ→Int→ρ} (hL:∀m s i,L (m+1) s i=B (L m) s i)
  (hs:∀k,k < n→∀κ,B κ (st k) (k:Int)=κ (st (k+1)) (addW (k:Int) 1)) {r:ρ} (hf:∀κ,B κ (st n) (n:Int)=r):L FU (st 0) 0=r:=by
 have key:∀(m k:Nat),k≤n→n - k < m→L m (st k) (k:Int)=r:=by
  intro m
  induction m with
  | zero=>intro k _ h;omega
  | succ m ih=>
   intro k hk hm
   rw[hL]
   by_cases hc:k < n
   ·rw[hs k hc,Z9 (by omega)]
    exact ih (k+1) (by omega) (by omega)
   ·have:k=n:=by omega
    subst this
    exact hf _
 have:=key FU 0 (Nat.zero_le _) (by have:=Yk;omega)
 simpa using this
theorem Zct {ρ:Type} {n:Nat} (hn:n < 4611686018427387904) {B:(Int→ρ)→Int→ρ} {L:Nat→Int→ρ} (hL:∀m i,L (m+1) i=B (L m) i)
  (hs:∀k,k < n→∀κ,B κ (k:Int)=κ (addW (k:Int) 1)) {r:ρ} (hf:∀κ,B κ (n:Int)=r):L FU 0=r:=
 Zcq (σ:=Unit) hn (fun _=>()) (B:=fun κ _ i=>B (κ ()) i) (L:=fun m _ i=>L m i) (fun m _ i=>hL m i) (fun k hk κ=>hs k hk _) fun κ=>hf _
def L8 (b:ByteArray):List UInt8:=b.data.toList
theorem Y5 (a b:ByteArray):L8 (a++b)=L8 a++L8 b:=by simp[L8]
theorem Wy {a b:ByteArray} (h:L8 a=L8 b):a=b:=by
 cases a;cases b
 simp only[L8] at h
 rw[Array.toList_inj.1 h]
theorem Zh (a:ByteArray):a.size=(L8 a).length:=by show a.data.size=a.data.toList.length;rw[Array.length_toList]
theorem Yb (l:List UInt8):L8 ⟨l.toArray⟩=l:=rfl
theorem Zk (l:List UInt8):L8 (strL l)=l:=rfl
theorem Qq:L8 ByteArray.empty=[]:=rfl
theorem X1 {a b:ByteArray} (h:a.size+b.size < 9223372036854775808):catI a b=some ():=by
 unfold catI
 rw[if_neg (by simp[IntKind.max,IntKind.signed,IntKind.bits];omega)]
theorem Z6 (a b:ByteArray):(a++b).size=a.size+b.size:=by rw[Zh,Y5,List.length_append,Zh,Zh]
theorem Zs (l:List UInt8):(strL l).size=l.length:=by rw[Zh,Zk]
theorem Zex:∀(k u:Nat),u < 10^(k+1)→(Lib.decDigits u).length≤k+1:=by
 intro k
 induction k with
 | zero=>
  intro u hu
  rw[Lib.decDigits,dif_pos (by omega)];simp
 | succ k ih=>
  intro u hu
  rw[Lib.decDigits]
  split
  ·simp
  ·rw[List.length_append]
   have:=ih (u / 10) (by rw[Nat.pow_succ] at hu;omega)
   simp;omega
def dgL (u:Nat):List UInt8:=if u=0 then [] else Lib.decDigits u
theorem Zxg {u:Nat} (h:u≠0):dgL u=dgL (u / 10)++[UInt8.ofNat (48+u % 10)]:=by
 unfold dgL
 rw[if_neg h,Lib.decDigits]
 split
 ·rename_i h1
  rw[if_pos (by omega),Nat.mod_eq_of_lt h1];rfl
 ·rw[if_neg (by omega)]
def InR (x:Int):Prop:=-9223372036854775808≤x∧x≤9223372036854775807
def decB (x:Int):ByteArray:=⟨(Lib.itoa x).toArray⟩
theorem Ya (x:Int):L8 (decB x)=Lib.itoa x:=rfl
theorem Zej {x:Int} (h:InR x):(Lib.itoa x).length≤20:=by
 obtain⟨h1,h2⟩:=h
 unfold Lib.itoa
 split
 ·have:=Zex 18 x.natAbs (by omega)
  simp;omega
 ·have:=Zex 18 x.toNat (by omega)
  omega
theorem Qi {x:Int} (h:InR x):(decB x).size≤20:=by rw[Zh,Ya];exact Zej h
theorem Zy8 {x:Int} (h:x≠0):Lib.itoa x=(if x < 0 then [45] else [])++dgL x.natAbs:=by
 unfold Lib.itoa dgL
 have hn:¬x.natAbs=0:=by omega
 by_cases hx:x < 0
 ·rw[if_pos hx,if_pos hx,if_neg hn];rfl
 ·have:x.toNat=x.natAbs:=by omega
  rw[if_neg hx,if_neg hx,if_neg hn,this];rfl
theorem Zwo:Lib.itoa 0=[48]:=by
 unfold Lib.itoa
 rw[if_neg (by omega),show (0:Int).toNat=0 from rfl,Lib.decDigits,dif_pos (by omega)];rfl
theorem digB {d:Int} (h0:0≤d) (h1:d < 10):strB [w8 (addW 48 d)]=strL [UInt8.ofNat (48+d.toNat)]:=by
 have:w8 (addW 48 d)=((48+d.toNat:Nat):Int):=by
  simp[w8,addW,IntKind.wrap,IntKind.bits,IntKind.signed];omega
 rw[this]
 rfl
theorem Zty (x0:Int):∀(m:Nat) (v0:Int) (v1:ByteArray),v0.natAbs < m→InR v0→(v1.size+v0.natAbs < 9223372036854775807∨v1.size=0)→
  ∃r,Jn x0 m v0 v1=some r∧L8 r=(if x0 < 0 then [45] else [])++dgL v0.natAbs++L8 v1:=by
 intro m
 induction m with
 | zero=>intro v0 v1 h;omega
 | succ m ih=>
  intro v0 v1 hm hr hs
  show ∃r,Zey x0 (Jn x0 m) v0 v1=some r∧_
  unfold Zey
  obtain⟨hr1,hr2⟩:=hr
  by_cases h0:v0=0
  ·subst h0
   rw[if_neg (by simp)]
   by_cases hx:x0 < 0
   ·rw[if_pos (by simpa using hx),X1 (by
     have hz:(0:Int).natAbs=0:=rfl
     rw[hz] at hs
     rw[Zs]
     show 1+v1.size < _
     omega),Option.bind_some]
    exact⟨_,rfl,by rw[if_pos hx,Y5];rfl⟩
   ·rw[if_neg (by simpa using hx)]
    exact⟨_,rfl,by rw[if_neg hx];rfl⟩
  ·rw[if_pos (by simpa using h0)]
   have hq:quoW v0 10=v0.tdiv 10:=by
    unfold quoW
    have:(v0.tdiv 10).natAbs=v0.natAbs / 10:=by rw[Int.natAbs_tdiv];rfl
    simp[IntKind.wrap,IntKind.bits,IntKind.signed];omega
   have hqa:(v0.tdiv 10).natAbs=v0.natAbs / 10:=by rw[Int.natAbs_tdiv];rfl
   have hra:(v0.tmod 10).natAbs=v0.natAbs % 10:=by rw[Int.natAbs_tmod];rfl
   have step:∀d:Int,0≤d→d.toNat=v0.natAbs % 10→∃r,Za2 x0 (Jn x0 m) v0 v1 d=some r∧L8 r=(if x0 < 0 then [45] else [])++dgL v0.natAbs++L8 v1:=fun d hd0 hd=>by
    unfold Za2
    rw[digB hd0 (by omega),X1 (by rw[Zs];simp;omega),Option.bind_some,hq]
    obtain⟨r,h1,h2⟩:=ih (v0.tdiv 10) (strL [UInt8.ofNat (48+d.toNat)]++v1) (by omega) (by constructor<;>omega) (.inl (by rw[Z6,Zs,hqa];simp;omega))
    refine⟨r,h1,?_⟩
    rw[h2,hqa,Y5,Zk,Zxg (u:=v0.natAbs) (by omega),hd]
    simp
   unfold remW at*
   by_cases hn:v0.tmod 10 < 0
   ·rw[if_pos (by simpa using hn)]
    have hneg:negW (v0.tmod 10)=-(v0.tmod 10):=by
     simp[negW,IntKind.wrap,IntKind.bits,IntKind.signed];omega
    rw[hneg]
    exact step _ (by omega) (by omega)
   ·rw[if_neg (by simpa using hn)]
    exact step _ (by omega) (by omega)
theorem Ze6 {x:Int} (h:InR x):Zbv x=some (decB x):=by
 unfold Zbv
 by_cases h0:x=0
 ·subst h0
  rw[if_pos (by simp)]
  exact congrArg some (Wy (by rw[Ya,Zwo,Zk]))
 ·rw[if_neg (by simpa using h0)]
  obtain⟨r,h1,h2⟩:=Zty x FU x ByteArray.empty (by obtain⟨h1,h2⟩:=h;unfold FU;omega) h (.inr rfl)
  rw[h1]
  exact congrArg some (Wy (by rw[h2,Ya,Zy8 h0,Qq,List.append_nil]))
theorem Zhz {x:Int} (h:InR x):Zcl x=some (decB x):=by
 unfold Zcl Zak
 rw[if_pos (show _∧_ from h)]
 rfl
theorem Zgy {ws:List ByteArray} {sep:ByteArray} (h1:ws.length≤1000000000) (h2:(Lib.join (ws.map L8) (L8 sep)).length≤140737488355328):Xa ws sep=some ⟨(Lib.join (ws.map L8) (L8 sep)).toArray⟩:=by
 unfold Xa
 rw[if_pos ⟨by omega,h2⟩]
 rfl
def Zu (c:UInt8):List UInt8→List (List UInt8)
 | []=>[[]]
 | x::l=>if x=c then []::Zu c l else match Zu c l with
  | []=>[[x]]
  | w::r=>(x::w)::r
theorem Zip (c:UInt8) (l:List UInt8):Zu c l≠[]:=by
 cases l with
 | nil=>simp[Zu]
 | cons x l=>
  unfold Zu
  split
  ·simp
  ·split<;>simp
theorem Zhm {c:UInt8}:∀{w:List UInt8},(∀x∈w,x≠c)→∀l,Zu c (w++c::l)=w::Zu c l:=by
 intro w
 induction w with
 | nil=>intro _ l;simp[Zu]
 | cons x w ih=>
  intro h l
  rw[List.cons_append,Zu,if_neg (h x List.mem_cons_self),ih (fun y hy=>h y (List.mem_cons_of_mem _ hy)) l]
theorem Zk5 {c:UInt8}:∀{w:List UInt8},(∀x∈w,x≠c)→Zu c w=[w]:=by
 intro w
 induction w with
 | nil=>intro _;rfl
 | cons x w ih=>
  intro h
  rw[Zu,if_neg (h x List.mem_cons_self),ih (fun y hy=>h y (List.mem_cons_of_mem _ hy))]
theorem Zgh {c:UInt8}:∀{ws:List (List UInt8)},ws≠[]→(∀w∈ws,∀x∈w,x≠c)→Zu c (Lib.join ws [c])=ws:=by
 intro ws
 induction ws with
 | nil=>intro h;exact absurd rfl h
 | cons w r ih=>
  intro _ h
  have hw:=h w List.mem_cons_self
  cases r with
  | nil=>rw[Lib.join_one,Zk5 hw]
  | cons v r=>
   have e:Lib.join (w::v::r) [c]=w++c::Lib.join (v::r) [c]:=by
    rw[Lib.join_cons,Lib.join_cons]
    simp[Lib.joinTail]
   rw[e,Zhm hw,ih (by simp) fun u hu=>h u (List.mem_cons_of_mem _ hu)]
theorem Zvc (c:UInt8):∀l:List UInt8,(Zu c l).length≤l.length+1:=by
 intro l
 induction l with
 | nil=>simp[Zu]
 | cons x l ih=>
  unfold Zu
  split
  ·simp;omega
  ·split
   ·simp
   ·rename_i w r h
    rw[h] at ih
    simp at ih ⊢;omega
theorem Zul {c:UInt8}:∀{l w:List UInt8},w∈Zu c l→w.length≤l.length:=by
 intro l
 induction l with
 | nil=>intro w h;simp[Zu] at h;simp[h]
 | cons x l ih=>
  intro w h
  unfold Zu at h
  split at h
  ·rcases List.mem_cons.1 h with rfl|h
   ·simp
   ·have:=ih h;simp;omega
  ·split at h
   ·rename_i hs;exact absurd hs (Zip c l)
   ·rename_i v r hs
    rcases List.mem_cons.1 h with rfl|h
    ·have:=ih (w:=v) (by rw[hs];exact List.mem_cons_self);simp;omega
    ·have:=ih (w:=w) (by rw[hs];exact List.mem_cons_of_mem _ h);simp;omega
theorem Ztr (c:UInt8):∀s:List UInt8,Lib.splitK [c] 0 (s.count c) s=Zu c s:=by
 intro s
 induction s with
 | nil=>rfl
 | cons b l ih=>
  by_cases hb:b=c
  ·subst hb
   rw[List.count_cons_self,Lib.splitK]
   have hi:Lib.index (b::l) [b]=0:=by
    unfold Lib.index
    rw[if_pos (by simp[List.isPrefixOf])]
   rw[hi,if_neg (by decide),Zu,if_pos rfl]
   show _::Lib.splitK [b] 0 (l.count b) l=_
   rw[ih];rfl
  ·have hc:(b::l).count c=l.count c:=List.count_cons_of_ne hb
   have hi:Lib.index (b::l) [c]=if (Lib.index l [c] == -1)=true then -1 else Lib.index l [c]+1:=by
    rw[Lib.index,if_neg (by simp[List.isPrefixOf];exact fun h=>hb h.symm)]
   rw[hc,Zu,if_neg hb,←ih]
   cases hk:l.count c with
   | zero=>rfl
   | succ k=>
    have hne:¬(Lib.index l [c] == -1)=true:=fun h=>by
     have h0:Lib.count l [c]=0:=Lib.count_miss (beq_iff_eq.1 h)
     rw[Lib.count_one] at h0
     omega
    have hg:=Lib.index_ge l [c]
    have hne2:Lib.index l [c]≠-1:=fun h=>hne (beq_iff_eq.2 h)
    rw[if_neg hne] at hi
    rw[Lib.splitK,Lib.splitK,hi,if_neg hne,if_neg (by rw[beq_iff_eq];omega)]
    have e1:(Lib.index l [c]+1).toNat=(Lib.index l [c]).toNat+1:=by omega
    rw[e1]
    rfl
theorem Zcn {x:ByteArray} (c:UInt8) (h:x.size < 4294967281):∃ws,Xx x (strL [c])=some ws∧ws.map L8=Zu c (L8 x):=by
 unfold Xx
 rw[if_pos ⟨h,by rw[Zs];simp⟩]
 refine⟨_,rfl,?_⟩
 have:=Lib.splitB_data (strL [c]) 0 (Lib.countB x (strL [c])) x
 have e:Lib.countB x (strL [c])=(L8 x).count c:=Lib.count_one c (L8 x)
 rw[e] at this ⊢
 exact this.trans (Ztr c (L8 x))
theorem Zcp {x:ByteArray} {k:Nat} (h:k < (L8 x).length):atS x (k:Int)=some ((L8 x)[k].toNat:Int):=by
 have h2:k < x.size:=by rw[Zh];exact h
 unfold atS
 rw[if_pos (by omega),Int.toNat_natCast]
 have:x[k]?=some (L8 x)[k]:=by
  rw[getElem?_pos x k h2]
  rfl
 rw[this];rfl
theorem Zbn {x:ByteArray} {a b:Nat} (h1:a≤b) (h2:b≤(L8 x).length):∃y,subS x (a:Int) (b:Int)=some y∧L8 y=((L8 x).drop a).take (b - a):=by
 unfold subS
 rw[if_pos ⟨by omega,by omega,by rw[Zh,Int.toNat_natCast];exact h2⟩]
 exact⟨_,rfl,Lib.extract_data x _ _⟩
theorem Zcx {x:ByteArray} (c:UInt8) (h:x.size < 4294967281):∃ws,X4 x (c.toNat:Int)=some ws∧ws.map L8=Zu c (L8 x):=by
 rw[Zh] at h
 have key:∀(m i a:Nat) (out:List ByteArray),i≤(L8 x).length→(L8 x).length - i < m→a≤i→out.length≤a→(∀y∈((L8 x).drop a).take (i - a),y≠c)→
   ∃ws,Jg x (c.toNat:Int) m out (a:Int) (i:Int)=some ws∧ws.map L8=out.map L8++Zu c ((L8 x).drop a):=by
  intro m
  induction m with
  | zero=>intro i a out _ hm;omega
  | succ m ih=>
   intro i a out hi hm ha ho hn
   show ∃ws,Zck x (c.toNat:Int) (Jg x (c.toNat:Int) m) out (a:Int) (i:Int)=some ws∧_
   unfold Zck
   by_cases hc:i < (L8 x).length
   ·rw[if_pos (by rw[Zh];simpa using hc),Zcp hc,Option.bind_some]
    have hdrop:(L8 x).drop a=((L8 x).drop a).take (i - a)++(L8 x)[i]::(L8 x).drop (i+1):=by
     have e:=(List.take_append_drop (i - a) ((L8 x).drop a)).symm
     rw[List.drop_drop,show a+(i - a)=i by omega,List.drop_eq_getElem_cons hc] at e
     exact e
    by_cases hx:(L8 x)[i]=c
    ·obtain⟨y,hy1,hy2⟩:=Zbn (x:=x) ha hi
     rw[if_pos (by rw[hx];simp),hy1,Option.bind_some,Xc (by simp;omega) (by simp;omega),Option.bind_some,Z9 (by omega)]
     obtain⟨ws,h1,h2⟩:=ih (i+1) (i+1) (out++[y]) (by omega) (by omega) (by omega) (by simp;omega) (by simp)
     refine⟨ws,h1,?_⟩
     rw[hx] at hdrop
     rw[h2,hdrop,Zhm hn,List.map_append,List.append_assoc,List.map_cons,List.map_nil,hy2]
     rfl
    ·rw[if_neg (by
      rw[decide_eq_true_eq]
      intro he
      exact hx (UInt8.toNat_inj.1 (by omega))),Z9 (by omega)]
     refine ih (i+1) a out (by omega) (by omega) (by omega) ho fun y hy=>?_
     rw[show i+1 - a=(i - a)+1 by omega,List.take_add_one] at hy
     rcases List.mem_append.1 hy with hy|hy
     ·exact hn y hy
     ·rw[List.getElem?_drop,show a+(i - a)=i by omega,List.getElem?_eq_getElem hc] at hy
      simp at hy
      rw[hy];exact hx
   ·have hil:i=(L8 x).length:=by omega
    obtain⟨y,hy1,hy2⟩:=Zbn (x:=x) (a:=a) (b:=(L8 x).length) (by omega) (Nat.le_refl _)
    rw[if_neg (by rw[Zh];simpa using hc),show ((x.size:Nat):Int)=((L8 x).length:Int) by rw[Zh],hy1,Option.bind_some,Xc (by simp;omega) (by simp;omega),Option.bind_some]
    refine⟨_,rfl,?_⟩
    have ht:((L8 x).drop a).take ((L8 x).length - a)=(L8 x).drop a:=by rw[List.take_of_length_le (by simp)]
    rw[hil,ht] at hn
    rw[List.map_append,List.map_cons,List.map_nil,hy2,ht,Zk5 hn]
 obtain⟨ws,h1,h2⟩:=key FU 0 0 [] (Nat.zero_le _) (by have:=Yk;omega) (Nat.le_refl _) (Nat.le_refl _) (by simp)
 exact⟨ws,h1,by simpa using h2⟩
def isDg (c:UInt8):Prop:=48≤c.toNat∧c.toNat≤57
instance (c:UInt8):Decidable (isDg c):=inferInstanceAs (Decidable (_∧_))
theorem Zec {d:Nat} (h:d < 10):(UInt8.ofNat (48+d)).toNat=48+d:=by
 rw[UInt8.toNat_ofNat'];omega
theorem Zpp:∀(k u:Nat),u < 10^(k+1)→∀c∈Lib.decDigits u,isDg c:=by
 intro k
 induction k with
 | zero=>
  intro u hu c hc
  rw[Lib.decDigits,dif_pos (by omega)] at hc
  rw[List.mem_singleton] at hc;subst hc
  have:=Zec (d:=u) (by omega)
  unfold isDg;omega
 | succ k ih=>
  intro u hu c hc
  rw[Lib.decDigits] at hc
  split at hc
  ·rw[List.mem_singleton] at hc;subst hc
   have:=Zec (d:=u) (by omega)
   unfold isDg;omega
  ·rcases List.mem_append.1 hc with hc|hc
   ·exact ih (u / 10) (by rw[Nat.pow_succ] at hu;omega) c hc
   ·rw[List.mem_singleton] at hc;subst hc
    have:=Zec (d:=u % 10) (by omega)
    unfold isDg;omega
theorem Zqd (u:Nat):u < 10^(u+1):=by
 have h1:u < 2^u:=Nat.lt_two_pow_self
 have h2:2^u≤10^u:=Nat.pow_le_pow_left (by omega) u
 have h3:10^u≤10^(u+1):=Nat.pow_le_pow_right (by omega) (by omega)
 omega
theorem Zad {u:Nat} {c:UInt8} (h:c∈Lib.decDigits u):isDg c:=Zpp u u (Zqd u) c h
theorem Zjm (u:Nat):Lib.decDigits u≠[]:=by
 rw[Lib.decDigits];split<;>simp
theorem Ztd {v:Int} {c:UInt8} (h:c∈Lib.itoa v):c=45∨isDg c:=by
 unfold Lib.itoa at h
 split at h
 ·rcases List.mem_cons.1 h with h|h
  ·exact .inl h
  ·exact .inr (Zad h)
 ·exact .inr (Zad h)
theorem Zha {v:Int} {c b:UInt8} (h:c∈Lib.itoa v) (hb:b.toNat=32∨b.toNat=58∨b.toNat=10):c≠b:=by
 rintro rfl
 rcases Ztd h with rfl|h
 ·rcases hb with hb|hb|hb<;>cases hb
 ·unfold isDg at h;omega
theorem Zy7 (v:Int):Lib.itoa v≠[]:=by
 unfold Lib.itoa
 split
 ·simp
 ·exact Zjm _
def dgF (a:Nat) (c:UInt8):Nat:=if isDg c then a*10+(c.toNat - 48) else a
theorem Zsk:∀(k u:Nat),u < 10^(k+1)→(Lib.decDigits u).foldl dgF 0=u:=by
 intro k
 induction k with
 | zero=>
  intro u hu
  have e:=Zec (d:=u) (by omega)
  rw[Lib.decDigits,dif_pos (by omega)]
  simp only[List.foldl_cons,List.foldl_nil,dgF]
  rw[if_pos (by unfold isDg;omega)];omega
 | succ k ih=>
  intro u hu
  rw[Lib.decDigits]
  split
  ·have e:=Zec (d:=u) (by omega)
   simp only[List.foldl_cons,List.foldl_nil,dgF]
   rw[if_pos (by unfold isDg;omega)];omega
  ·have e:=Zec (d:=u % 10) (by omega)
   rw[List.foldl_append,ih (u / 10) (by rw[Nat.pow_succ] at hu;omega)]
   simp only[List.foldl_cons,List.foldl_nil,dgF]
   rw[if_pos (by unfold isDg;omega)];omega
theorem Za3 (u:Nat):(Lib.decDigits u).foldl dgF 0=u:=Zsk u u (Zqd u)
theorem Zju (v:Int):(Lib.itoa v).foldl dgF 0=v.natAbs:=by
 unfold Lib.itoa
 split
 ·rw[List.foldl_cons]
  show (Lib.decDigits v.natAbs).foldl dgF (if isDg 45 then _ else 0)=_
  rw[if_neg (by unfold isDg;decide),Za3]
 ·rw[Za3];omega
theorem Zvk:∀(l1 l2:List UInt8) (a:Nat),Lib.parseUint10 a (l1++l2)=match Lib.parseUint10 a l1 with|.ok u=>Lib.parseUint10 u l2|Lib.NumEnd.syntax=>Lib.NumEnd.syntax|.range=>.range:=by
 intro l1
 induction l1 with
 | nil=>intro l2 a;rfl
 | cons c r ih=>
  intro l2 a
  simp only[List.cons_append,Lib.parseUint10]
  split
  ·split
   ·rfl
   ·split
    ·rfl
    ·exact ih l2 _
  ·rfl
theorem Zrc:∀(k u:Nat),u < 10^(k+1)→u < 18446744073709551616→Lib.parseUint10 0 (Lib.decDigits u)=.ok u:=by
 intro k
 induction k with
 | zero=>
  intro u hu hb
  have e:=Zec (d:=u) (by omega)
  rw[Lib.decDigits,dif_pos (by omega)]
  simp only[Lib.parseUint10]
  rw[if_pos (by omega),if_neg (by omega),if_neg (by omega)]
  congr 1;omega
 | succ k ih=>
  intro u hu hb
  rw[Lib.decDigits]
  split
  ·have e:=Zec (d:=u) (by omega)
   simp only[Lib.parseUint10]
   rw[if_pos (by omega),if_neg (by omega),if_neg (by omega)]
   congr 1;omega
  ·have e:=Zec (d:=u % 10) (by omega)
   rw[Zvk,ih (u / 10) (by rw[Nat.pow_succ] at hu;omega) (by omega)]
   simp only[Lib.parseUint10]
   rw[if_pos (by omega),if_neg (by omega),if_neg (by omega)]
   congr 1;omega
theorem Zvo {v:Int} (h:InR v):Lib.atoiAll (Lib.itoa v)=.ok v:=by
 obtain⟨h1,h2⟩:=h
 have hp:∀u:Nat,u < 18446744073709551616→Lib.parseMag (Lib.decDigits u)=.ok u:=fun u hu=>by
  unfold Lib.parseMag
  rw[if_neg (Zjm u),Zrc u u (Zqd u) hu]
 unfold Lib.itoa
 split
 ·rename_i hn
  rw[Lib.atoiAll_minus,hp _ (by omega)]
  unfold Lib.signed
  simp only
  rw[if_neg (by omega)]
  congr 1;omega
 ·rename_i hn
  obtain⟨c,l,hl⟩:∃c l,Lib.decDigits v.toNat=c::l:=by
   cases h:Lib.decDigits v.toNat with
   | nil=>exact absurd h (Zjm _)
   | cons c l=>exact⟨c,l,rfl⟩
  have hd:isDg c:=Zad (u:=v.toNat) (by rw[hl];exact List.mem_cons_self)
  unfold isDg at hd
  rw[hl,Lib.atoiAll_plain c l (by omega) (by omega),←hl,hp _ (by omega)]
  unfold Lib.signless
  simp only
  rw[if_neg (by omega)]
  congr 1;omega
theorem Zfg {k u:Nat} (h:u < 10^(k+1)):(Lib.decDigits u).length≤k+1:=Zex k u h
theorem Zly {v d:Int} (h:-1000000000000000000 < v∧v < 1000000000000000000) (hd:18≤d):Wj (decB v) d=some (v,true):=by
 have hr:InR v:=⟨by omega,by omega⟩
 have hz:=Qi hr
 unfold Wj
 have e:(decB v).data.toList=Lib.itoa v:=rfl
 rw[if_pos (by omega),e,Zvo hr]
 simp only
 rw[if_pos]
 refine⟨trivial,?_⟩
 unfold Lib.trimPrefix
 by_cases hn:v < 0
 ·have e2:Lib.itoa v=45::Lib.decDigits v.natAbs:=by unfold Lib.itoa;rw[if_pos hn]
  have:=Zfg (k:=17) (u:=v.natAbs) (by omega)
  rw[e2,if_pos (by simp[Lib.hasPrefix,List.isPrefixOf])]
  simp;omega
 ·have e2:Lib.itoa v=Lib.decDigits v.toNat:=by unfold Lib.itoa;rw[if_neg hn]
  have:=Zfg (k:=17) (u:=v.toNat) (by omega)
  rw[e2]
  split
  ·simp;omega
  ·omega
theorem Zpq {x:ByteArray} {d:Int} (h:x.size≤281474976710656):∃r,Wj x d=some r∧(r.2=true→L8 x=Lib.itoa r.1∧InR r.1):=by
 unfold Wj
 rw[if_pos h]
 match hq:Lib.atoiAll x.data.toList with
 | .ok v=>
  simp only
  by_cases hc:Lib.itoa v=x.data.toList∧((Lib.trimPrefix x.data.toList [45]).length:Int)≤d
  ·rw[if_pos hc]
   refine⟨_,rfl,fun _=>⟨hc.1.symm,?_⟩⟩
   unfold Lib.atoiAll at hq
   split at hq
   ·cases hq
   ·simp only at hq
    split at hq
    ·cases hq
    ·cases hq
    ·split at hq
     ·cases hq
     ·rename_i h1
      split at hq
      ·cases hq
      ·rename_i h2
       injection hq with hq
       split at hq
       ·rename_i h3
        have:=Nat.le_of_not_lt fun hh=>h2 ⟨h3,hh⟩
        exact⟨by show _≤v;omega,by show v≤_;omega⟩
       ·rename_i h3
        have:=Nat.lt_of_not_le fun hh=>h1 ⟨h3,hh⟩
        exact⟨by show _≤v;omega,by show v≤_;omega⟩
  ·rw[if_neg hc];exact⟨_,rfl,fun h=>by cases h⟩
 | Lib.NumEnd.syntax=>exact⟨_,rfl,fun h=>by cases h⟩
 | .range=>exact⟨_,rfl,fun h=>by cases h⟩
theorem Zfo (x a b:Int):Jb x a b=some (decide (a≤x∧x≤b)):=by
 unfold Jb
 by_cases h:a≤x<;>simp[h]
theorem Zav (x a b:Int):Qv x a b=some (decide (a≤x∧x≤b)):=by
 unfold Qv
 by_cases h:a≤x<;>simp[h]
def Yn (s:Int):Int:=if s=0 then 1 else if s=1 then 2 else if s=2 then 4 else 0
def Zcc (s:Int):Int:=if s=0 then 256 else if s=1 then 65536 else if s=2 then 4294967296 else 0
def Zz (b:Int):Int:=if b=0 then 1 else if b=1 then 4 else if b=2 then 4 else if b=3 then 8 else 0
theorem Zn3 (s:Int):0≤Yn s∧Yn s≤4:=by unfold Yn;repeat' split<;>omega
theorem Zfs (s:Int):0≤Zcc s∧Zcc s≤4294967296:=by unfold Zcc;repeat' split<;>omega
theorem K2 (b:Int):0≤Zz b∧Zz b≤8:=by unfold Zz;repeat' split<;>omega
theorem Kv (s:Int):Xu s=some (Yn s):=by
 unfold Xu
 rw[Zav,Option.bind_some]
 by_cases h:0≤s∧s≤2
 ·have:s=0∨s=1∨s=2:=by omega
  rcases this with rfl|rfl|rfl<;>rfl
 ·have:Yn s=0:=by unfold Yn;repeat' split<;>omega
  simp[h,this]
theorem Ze1 (s:Int):Qh s=some (Yn s):=by
 rw[←Kv]
 unfold Qh Xu
 rw[Zfo,Zav]
theorem Ks (b:Int):Xt b=some (Zz b):=by
 unfold Xt
 rw[Zav,Option.bind_some]
 by_cases h:0≤b∧b≤3
 ·have:b=0∨b=1∨b=2∨b=3:=by omega
  rcases this with rfl|rfl|rfl|rfl<;>rfl
 ·have:Zz b=0:=by unfold Zz;repeat' split<;>omega
  simp[h,this]
theorem Zeo (b:Int):Jo b=some (Zz b):=by
 rw[←Ks]
 unfold Jo Xt
 rw[Zfo,Zav]
theorem Zel (s:Int):Kj s=some (Zcc s):=by
 unfold Kj
 rw[Kv,Option.bind_some,Option.bind_some]
 by_cases h:s=0∨s=1∨s=2
 ·rcases h with rfl|rfl|rfl<;>rfl
 ·have h1:Yn s=0:=by unfold Yn;repeat' split<;>omega
  have h2:Zcc s=0:=by unfold Zcc;repeat' split<;>omega
  simp[h1,h2]
theorem Zqb (s:Int):Zde s=some (Zcc s):=by
 rw[←Zel]
 unfold Zde Kj
 simp only[Ze1,Kv]
def numG (v s:Int):Bool:=decide (0≤v∧v < Zcc s)
theorem Zuz (v s:Int):Zf1 v s=some (numG v s):=by
 have:=Zfs s
 unfold Zf1 numG
 rw[Zqb,Option.bind_some,Zfo,Option.bind_some,Jj (by omega) (by omega)]
 congr 2
 apply propext
 omega
theorem Zxm (v s:Int):Qv v 0 (subW (Zcc s) 1)=some (numG v s):=by
 have:=Zfs s
 unfold numG
 rw[Zav,Jj (by omega) (by omega)]
 congr 2
 apply propext
 omega
def X0 (a s:Int):Bool:=decide (0 < Yn s)&&(decide (0≤a)&&decide (a % Yn s=0))
theorem Zq7 (a s:Int):Zc3 a s=some (X0 a s):=by
 unfold Zc3 X0
 rw[Kv,Option.bind_some,Option.bind_some]
 by_cases h1:0 < Yn s
 ·by_cases h2:0≤a
  ·rw[Zew (by omega),Zj8 h2];simp[h1,h2]
  ·simp[h1,h2]
 ·simp[h1]
theorem Zjc (s:Int):0 < Yn s↔(0≤s∧s≤2):=by
 unfold Yn
 repeat' split<;>omega
theorem Zp0 (a s:Int):Zc8 a s=some (X0 a s):=by
 unfold Zc8 X0
 rw[Zfo,Option.bind_some,Ze1,Option.bind_some]
 by_cases h1:0 < Yn s
 ·have h3:=(Zjc s).1 h1
  by_cases h2:0≤a
  ·rw[Zew (by omega),Zj8 h2];simp[h1,h2,h3]
  ·simp[h1,h2,h3]
 ·have h3:¬(0≤s∧s≤2):=fun h=>h1 ((Zjc s).2 h)
  simp[h1,h3]
def Kn (a s b:Int):Int:=if (X0 a s=true∧a < 512)∧Zz b≠0 then (if b=2∧(a+Yn s) % (4*Yn s)=0 then a+Yn s - 4*Yn s else a+Yn s) else -1
theorem Jh {a s:Int} (h:X0 a s=true):0 < Yn s∧0≤a∧a % Yn s=0:=by
 simpa [X0,Bool.and_eq_true,decide_eq_true_eq] using h
theorem Zo4 (a s b:Int):J7 a s b=some (Kn a s b):=by
 have hb:=Zn3 s
 unfold J7 Qt Jd Kn
 rw[Kv,Option.bind_some,Zq7,Option.bind_some,Zav,Option.bind_some,Ks,Option.bind_some]
 by_cases h1:X0 a s=true
 ·obtain⟨h2,h3,h4⟩:=Jh h1
  by_cases h5:a < 512
  ·have h6:0≤a∧a≤511:=by omega
   rw[Ql (by omega) (by omega),Yr (by omega) (by omega),Jj (by omega) (by omega),Zew (by omega),Zj8 (by omega)]
   by_cases h7:Zz b=0
   ·simp[h1,h5,h6,h7]
   ·by_cases h8:b=2
    ·subst h8
     by_cases h9:(a+Yn s) % (4*Yn s)=0<;>simp[h1,h5,h6,h7,h9]
    ·simp[h1,h5,h6,h7,h8]
  ·have h6:¬(0≤a∧a≤511):=by omega
   simp[h1,h5,h6]
 ·simp[h1]
theorem Zpc (a s b:Int):Zb3 a s b=some (Kn a s b):=by
 have hb:=Zn3 s
 unfold Zb3 Qr Kn
 rw[Zp0,Option.bind_some,Ze1,Option.bind_some,Option.bind_some,Zeo,Option.bind_some]
 by_cases h1:X0 a s=true
 ·obtain⟨h2,h3,h4⟩:=Jh h1
  by_cases h5:a < 512
  ·have h6:¬a≥512:=by omega
   rw[Ql (by omega) (by omega),Yr (by omega) (by omega),Jj (by omega) (by omega),Zew (by omega),Zj8 (by omega)]
   by_cases h7:Zz b=0
   ·simp[h1,h5,h6,h7]
   ·by_cases h8:b=2
    ·subst h8
     by_cases h9:(a+Yn s) % (4*Yn s)=0<;>simp[h1,h5,h6,h7,h9]
    ·simp[h1,h5,h6,h7,h8]
  ·have h6:a≥512:=by omega
   simp[h1,h5,h6]
 ·simp[h1]
theorem Zsr {a s b:Int} (h:0≤Kn a s b):X0 a s=true∧a < 512:=by
 unfold Kn at h
 split at h
 ·rename_i h1;exact h1.1
 ·omega
def Xy (s b:Int):Nat→Int→Option (List Int)
 | 0,_=>some []
 | n+1,a=>if Kn a s b < 0 then none else (Xy s b n (Kn a s b)).map (a::·)
def Xd (a s b:Int):List Int:=(Xy s b (Zz b).toNat a).getD []
theorem Zl0 (a s b:Int):Zap a s b=some (Xd a s b):=by
 have hb:=K2 b
 unfold Zap
 rw[Zeo,Option.bind_some]
 have key:∀(n m:Nat) (x:Int) (out:List Int) (k:Nat),n < m→(k:Int)+n=Zz b→out.length=k→Ke a s b m x out (Zz b) k=some (match Xy s b n x with|some l=>out++l|none=>[]):=by
  intro n
  induction n with
  | zero=>
   intro m x out k hm hk ho
   obtain⟨m,rfl⟩:∃m',m=m'+1:=⟨m - 1,by omega⟩
   show X8 a s b _ x out (Zz b) k=_
   unfold X8
   rw[if_neg (by simp;omega)]
   simp[Xy]
  | succ n ih=>
   intro m x out k hm hk ho
   obtain⟨m,rfl⟩:∃m',m=m'+1:=⟨m - 1,by omega⟩
   show X8 a s b _ x out (Zz b) k=_
   unfold X8
   rw[if_pos (by simp;omega),Zpc,Option.bind_some]
   simp only[Xy]
   by_cases h1:Kn x s b < 0
   ·rw[if_pos (by simpa using h1),if_pos h1]
   ·rw[if_neg (by simpa using h1),if_neg h1,Xc (by simp;omega) (by simp;omega),Option.bind_some,Z9 (by omega),ih m _ _ (k+1) (by omega) (by omega) (by simp[ho])]
    cases Xy s b n (Kn x s b)<;>simp
 have:=key (Zz b).toNat FU a [] 0 (by have:=Yk;omega) (by omega) rfl
 rw[show ((0:Nat):Int)=0 from rfl] at this
 rw[this]
 unfold Xd
 cases Xy s b (Zz b).toNat a<;>simp
theorem Zmn (a s b:Int):Zai a s b=some (Xd a s b):=by
 have hb:=K2 b
 unfold Zai
 have key:∀(n m:Nat) (x:Int) (out:List Int),n < m→(out.length:Int)+n=Zz b→Q6 a s b m x out=some (match Xy s b n x with|some l=>out++l|none=>[]):=by
  intro n
  induction n with
  | zero=>
   intro m x out hm hk
   obtain⟨m,rfl⟩:∃m',m=m'+1:=⟨m - 1,by omega⟩
   show X9 a s b _ x out=_
   unfold X9 Wr
   have h1:¬((out.length:Int) < Zz b):=by omega
   simp[Ks,h1,Xy]
  | succ n ih=>
   intro m x out hm hk
   obtain⟨m,rfl⟩:∃m',m=m'+1:=⟨m - 1,by omega⟩
   show X9 a s b _ x out=_
   unfold X9 Wr
   have h1:(out.length:Int) < Zz b:=by omega
   simp only[Ks,Zo4,Option.bind_some,h1,decide_true,if_true,Xy,decide_eq_true_eq]
   by_cases h2:Kn x s b < 0
   ·have h3:¬(Kn x s b≥0):=by omega
    rw[if_neg h3,if_pos h2]
   ·have h3:Kn x s b≥0:=by omega
    rw[if_pos h3,if_neg h2,Xc (by simp;omega) (by simp;omega),Option.bind_some,ih m _ _ (by omega) (by simp;omega)]
    cases Xy s b n (Kn x s b)<;>simp
 have:=key (Zz b).toNat FU a [] (by have:=Yk;omega) (by simp;omega)
 rw[this]
 unfold Xd
 cases Xy s b (Zz b).toNat a<;>simp
theorem Zjr {s b:Int}:∀{n:Nat} {a:Int} {l:List Int},Xy s b n a=some l→l.length=n∧(∀x∈l,X0 x s=true∧x < 512)∧(0 < n→l.head?=some a):=by
 intro n
 induction n with
 | zero=>intro a l h;simp only[Xy,Option.some.injEq] at h;subst h;simp
 | succ n ih=>
  intro a l h
  simp only[Xy] at h
  split at h
  ·cases h
  ·rename_i h1
   obtain⟨l',h2,rfl⟩:=Option.map_eq_some_iff.1 h
   obtain⟨h3,h4,_⟩:=ih h2
   refine⟨by simp[h3],fun x hx=>?_,fun _=>rfl⟩
   rcases List.mem_cons.1 hx with rfl|hx
   ·exact Zsr (s:=s) (b:=b) (by omega)
   ·exact h4 x hx
theorem Zl8 (a s b:Int):Xd a s b=[]∨((Xd a s b).length:Int)=Zz b:=by
 unfold Xd
 have hb:=K2 b
 cases h:Xy s b (Zz b).toNat a with
 | none=>exact .inl rfl
 | some l=>
  have:=(Zjr h).1
  exact .inr (by simp only[Option.getD_some];omega)
theorem Zhu {a s b x:Int} (h:x∈Xd a s b):X0 x s=true∧0≤x∧x < 512:=by
 unfold Xd at h
 cases h2:Xy s b (Zz b).toNat a with
 | none=>rw[h2] at h;simp at h
 | some l=>
  rw[h2] at h
  have:=(Zjr h2).2.1 x h
  exact⟨this.1,(Jh this.1).2.1,this.2⟩
theorem Zoi (a s b:Int):(Xd a s b).length≤8:=by
 have:=K2 b
 rcases Zl8 a s b with h|h
 ·rw[h];simp
 ·omega
def Za4 (a s b:Int):Bool:=(Xd a s b).all (fun x=>decide (x / 64=atI (Xd a s b) 0 / 64))&&decide (Xd a s b≠[])
theorem Zkf {x:Int} (h0:0≤x) (h1:x < 512):quoW x 64=x / 64:=Zy1 h0 (by omega) (by omega)
theorem Zqg (a s b:Int):Zdc a s b=some (Za4 a s b):=by
 unfold Zdc Za4
 rw[Zl0,Option.bind_some]
 generalize hA:Xd a s b=l
 have hm:∀x∈l,0≤x∧x < 512:=fun x hx=>by rw[←hA] at hx;exact (Zhu hx).2
 have hl:l.length≤8:=by rw[←hA];exact Zoi a s b
 have key:∀(m k:Nat),k≤l.length→l.length - k < m→J0 a s b m l (l.length:Int) k=some ((l.drop k).all (fun x=>decide (x / 64=atI l 0 / 64))&&decide (l≠[])):=by
  intro m
  induction m with
  | zero=>intro k _ h;omega
  | succ m ih=>
   intro k hk hm2
   show Zbm a s b _ l (l.length:Int) k=_
   unfold Zbm
   by_cases hc:k < l.length
   ·have h0:=hm _ (List.getElem_mem hc)
    have h1:=hm _ (List.getElem_mem (by omega:0 < l.length))
    rw[if_pos (by simpa using hc),Zi hc,Option.bind_some,show (0:Int)=((0:Nat):Int) from rfl,Zi (by omega:0 < l.length),Option.bind_some,Zkf h0.1 h0.2,Zkf h1.1 h1.2,Zmr (by omega:0 < l.length),List.drop_eq_getElem_cons hc,List.all_cons]
    by_cases hq:(l[k]:Int) / (64:Int)=(l[0]:Int) / (64:Int)
    ·rw[if_neg (by simpa using hq),Z9 (by omega),ih (k+1) (by omega) (by omega),show (0:Int)=((0:Nat):Int) from rfl,Zmr (by omega:0 < l.length),decide_eq_true hq,Bool.true_and]
    ·rw[if_pos (by simpa using hq),decide_eq_false hq,Bool.false_and,Bool.false_and]
   ·rw[if_neg (by simpa using hc),List.drop_eq_nil_of_le (by omega)]
    simp[List.length_pos_iff]
 have:=key FU 0 (Nat.zero_le _) (by have:=Yk;omega)
 simpa using this
theorem Zi8 (a s b:Int):Za0 a s b=some (Za4 a s b):=by
 unfold Za0 Za4
 rw[Zmn,Option.bind_some]
 generalize hA:Xd a s b=l
 have hm:∀x∈l,0≤x∧x < 512:=fun x hx=>by rw[←hA] at hx;exact (Zhu hx).2
 have hl:l.length≤8:=by rw[←hA];exact Zoi a s b
 have key:∀(m k:Nat),k≤l.length→l.length - k < m→J1 a s b m l k=some ((l.drop k).all (fun x=>decide (x / 64=atI l 0 / 64))&&decide (l≠[])):=by
  intro m
  induction m with
  | zero=>intro k _ h;omega
  | succ m ih=>
   intro k hk hm2
   show Zbh a s b _ l k=_
   unfold Zbh
   by_cases hc:k < l.length
   ·have h0:=hm _ (List.getElem_mem hc)
    have h1:=hm _ (List.getElem_mem (by omega:0 < l.length))
    rw[if_pos (by simpa using hc),Zi hc,Option.bind_some,show (0:Int)=((0:Nat):Int) from rfl,Zi (by omega:0 < l.length),Option.bind_some,Zkf h0.1 h0.2,Zkf h1.1 h1.2,Zmr (by omega:0 < l.length),List.drop_eq_getElem_cons hc,List.all_cons]
    by_cases hq:(l[k]:Int) / (64:Int)=(l[0]:Int) / (64:Int)
    ·rw[if_neg (by simpa using hq),Z9 (by omega),ih (k+1) (by omega) (by omega),show (0:Int)=((0:Nat):Int) from rfl,Zmr (by omega:0 < l.length),decide_eq_true hq,Bool.true_and]
    ·rw[if_pos (by simpa using hq),decide_eq_false hq,Bool.false_and,Bool.false_and]
   ·rw[if_neg (by simpa using hc),List.drop_eq_nil_of_le (by omega)]
    simp[List.length_pos_iff]
 have:=key FU 0 (Nat.zero_le _) (by have:=Yk;omega)
 simpa using this
def reqG (r:GReq):Bool:=Za4 r.addr r.size r.burst&&(decide ((r.data_.length:Int)=if r.write then Zz r.burst else 0)&&r.data_.all fun v=>numG v r.size)
def GReq.sm (r:GReq):Prop:=r.data_.length < 1048577
theorem Zlz (r:GReq) (hs:r.sm):Zbu r=some (reqG r):=by
 unfold GReq.sm at hs
 have hf:Yc r.data_ r=some (!r.data_.all fun v=>numG v r.size):=by
  unfold Yc Y6
  refine Zu8 r.data_ (by omega) (fun v=>Zc1 v r) (fun v=>numG v r.size) (fun v _=>?_) _ (fun m i=>rfl)
  unfold Zc1
  rw[Zuz];rfl
 unfold Zbu Za8 reqG
 rw[Zeo,Option.bind_some,Zqg,Option.bind_some,hf,Option.bind_some,Bool.not_not]
 by_cases h1:Za4 r.addr r.size r.burst=true
 ·by_cases h2:r.write=true
  ·by_cases h3:(r.data_.length:Int)=Zz r.burst<;>simp[h1,h2,h3]
  ·by_cases h3:r.data_=[]<;>simp[h1,h2,h3]
 ·by_cases h2:r.write=true<;>simp[h1,h2]
theorem Zua (r:GReq) (hs:r.sm):Zfz r=some (reqG r):=by
 unfold GReq.sm at hs
 unfold Zfz
 rw[Zi8,Option.bind_some]
 have hb:=K2 r.burst
 have key:∀(m k:Nat),k≤r.data_.length→r.data_.length - k < m→Za7 r m k=some (decide ((r.data_.length:Int)=if r.write then Zz r.burst else 0)&&(r.data_.drop k).all fun v=>numG v r.size):=by
  intro m
  induction m with
  | zero=>intro k _ h;omega
  | succ m ih=>
   intro k hk hm
   show Zcv r _ k=_
   unfold Zcv
   by_cases hc:k < r.data_.length
   ·rw[if_pos (by simpa using hc),Zi hc,Option.bind_some,Zel,Option.bind_some,Zxm,Option.bind_some,List.drop_eq_getElem_cons hc,List.all_cons]
    by_cases hq:numG r.data_[k] r.size=true
    ·rw[if_neg (by simp[hq]),Z9 (by omega),ih (k+1) (by omega) (by omega)]
     simp[hq]
    ·rw[if_pos (by simp[hq])]
     simp[hq]
   ·rw[if_neg (by simpa using hc),List.drop_eq_nil_of_le (by omega),Ks]
    cases h2:r.write<;>simp only[if_true,if_false,Bool.false_eq_true,Option.bind_some,List.all_nil,Bool.and_true]<;>generalize decide ((r.data_.length:Int)=0)=x<;>generalize decide ((r.data_.length:Int)=Zz r.burst)=y<;>cases x<;>cases y<;>rfl
 have:=key FU 0 (Nat.zero_le _) (by have:=Yk;omega)
 unfold reqG
 by_cases h1:Za4 r.addr r.size r.burst=true
 ·rw[if_neg (by simp[h1]),show (0:Int)=((0:Nat):Int) from rfl,this]
  simp[h1]
 ·rw[if_pos (by simp[h1])]
  simp[h1]
theorem Zfq {r:GReq} (h:reqG r=true):Za4 r.addr r.size r.burst=true∧(r.data_.length:Int)=(if r.write then Zz r.burst else 0)∧∀v∈r.data_,numG v r.size=true:=by
 simp only[reqG,Bool.and_eq_true,decide_eq_true_eq,List.all_eq_true] at h
 exact⟨h.1,h.2.1,h.2.2⟩
theorem Zof {a s b:Int} (h:Za4 a s b=true):((Xd a s b).length:Int)=Zz b∧1≤Zz b:=by
 simp only[Za4,Bool.and_eq_true,decide_eq_true_eq] at h
 rcases Zl8 a s b with h1|h1
 ·exact absurd h1 h.2
 ·have:0 < (Xd a s b).length:=List.length_pos_iff.2 h.2
  omega
theorem Zq3 {r:GReq} (h:reqG r=true):r.sm:=by
 have:=(Zfq h).2.1
 have hb:=K2 r.burst
 unfold GReq.sm
 split at this<;>omega
theorem Zox {l:List Int} (hl:l.length < 1048577) (h:∀x∈l,InR x):Zcy l=some (l.map decB):=by
 unfold Zcy
 refine Zcq (σ:=List ByteArray) (n:=l.length) (by omega) (fun k=>(l.take k).map decB) (B:=fun κ st j=>Zba l κ st j) (L:=fun m st j=>Zci l m st j) (fun m s i=>rfl) (fun k hk κ=>?_) fun κ=>?_
 ·unfold Zba
  have h2:(l.take k).length≤k:=by rw[List.length_take];omega
  rw[if_pos (by simpa using hk),Zi hk,Option.bind_some,Zhz (h _ (List.getElem_mem hk)),Option.bind_some,Xc (by simp;omega) (by simp;omega),Option.bind_some,List.take_succ_eq_append_getElem hk,List.map_append]
  rfl
 ·unfold Zba
  rw[if_neg (by simp),List.take_length]
def Z1 (l:List Int):List UInt8:=l.flatMap fun x=>[32]++Lib.itoa x
theorem Zmd (l:List Int) (x:Int):Z1 (l++[x])=Z1 l++[32]++Lib.itoa x:=by
 unfold Z1
 rw[List.flatMap_append];simp
theorem K9:∀{l:List Int},(∀x∈l,InR x)→(Z1 l).length≤21*l.length:=by
 intro l
 induction l with
 | nil=>intro _;simp[Z1]
 | cons d l ih=>
  intro h
  have h1:=Zej (h d List.mem_cons_self)
  have h2:=ih fun x hx=>h x (List.mem_cons_of_mem _ hx)
  have e:Z1 (d::l)=([32]++Lib.itoa d)++Z1 l:=rfl
  rw[e,List.length_append,List.length_append,List.length_cons]
  simp only[List.length_cons,List.length_nil]
  omega
theorem Zvp (w:ByteArray) (l:List Int):Lib.join ((w::l.map decB).map L8) [32]=L8 w++Z1 l:=by
 rw[List.map_cons,Lib.join_cons]
 congr 1
 unfold Lib.joinTail Z1
 rw[List.map_map,List.map_map,List.flatMap_def]
 rfl
theorem Zqw (a:ByteArray) (ws:List ByteArray) (l:List Int):Lib.join (((a::ws)++l.map decB).map L8) [32]=Lib.join ((a::ws).map L8) [32]++Z1 l:=by
 rw[List.cons_append,List.map_cons,Lib.join_cons,List.map_cons,Lib.join_cons,List.append_assoc]
 congr 1
 unfold Lib.joinTail Z1
 rw[List.map_append,List.map_append,List.flatten_append]
 congr 1
 rw[List.map_map,List.map_map,List.flatMap_def]
 rfl
def W3 (w:List UInt8) (l:List Int):List UInt8:=if l=[] then [] else w++Z1 l++[10]
theorem Zh9 {w:ByteArray} {l:List Int} (hw:w.size≤100) (hl:l.length < 1048577) (h:∀x∈l,InR x):Zab w l=some ⟨(W3 (L8 w) l).toArray⟩:=by
 unfold Zab W3
 cases l with
 | nil=>rw[if_pos (by simp),if_pos rfl];rfl
 | cons x l=>
  rw[if_neg (by simp;omega),if_neg (by simp),Zox hl h]
  have hn:=K9 h
  have ej:Lib.join (((x::l).map decB).map L8) (L8 (strL [32]))=Lib.itoa x++Z1 l:=by
   rw[Zk,List.map_cons,Zvp,Ya]
  have en:Z1 (x::l)=[32]++(Lib.itoa x++Z1 l):=by unfold Z1;simp
  rw[en] at hn ⊢
  have hb:(Lib.itoa x++Z1 l).length≤30000000:=by rw[List.length_append] at hn;simp only[List.length_cons,List.length_nil] at hn hl;omega
  rw[X1 (by rw[Zs];simp;omega),Option.bind_some,Option.bind_some,Zgy (by simp only[List.length_map];omega) (by rw[ej];omega),Option.bind_some,ej]
  have z:(⟨(Lib.itoa x++Z1 l).toArray⟩:ByteArray).size=(Lib.itoa x++Z1 l).length:=by rw[Zh,Yb]
  rw[X1 (by simp only[Z6,Zs,z,List.length_cons,List.length_nil];omega),Option.bind_some,X1 (by simp only[Z6,Zs,z,List.length_cons,List.length_nil];omega),Option.bind_some]
  refine congrArg some (Wy (Eq.trans ?_ (Yb _).symm))
  rw[Y5,Y5,Y5,Zk,Zk,Yb (Lib.itoa x++Z1 l)]
  simp
theorem Zji {w:ByteArray} {l:List Int} (hw:w.size≤100) (hl:l.length < 1048577) (h:∀x∈l,InR x):Zaz w l=some ⟨(W3 (L8 w) l).toArray⟩:=by
 have hn:=K9 h
 unfold Zaz W3
 cases hc:l with
 | nil=>rw[if_pos (by simp),if_pos rfl];rfl
 | cons x r=>
  rw[←hc,if_neg (by rw[hc];simp;omega),if_neg (by rw[hc];simp)]
  clear hc
  have e0:w++(⟨(Z1 (l.take 0)).toArray⟩:ByteArray)=w:=Wy (by rw[Y5,Yb (Z1 (l.take 0))];simp[Z1])
  have hs:∀k,(⟨(Z1 (l.take k)).toArray⟩:ByteArray).size≤30000000:=fun k=>by
   have h1:=K9 (l:=l.take k) fun x hx=>h x (List.mem_of_mem_take hx)
   have h2:(l.take k).length≤l.length:=by rw[List.length_take];omega
   rw[Zh,Yb];omega
  refine Eq.trans (congrArg (fun v=>Kb w l FU v 0) e0.symm) (Zcq (σ:=ByteArray) (n:=l.length) (by omega) (fun k=>w++(⟨(Z1 (l.take k)).toArray⟩:ByteArray)) (B:=fun κ st j=>Je w l κ st j) (L:=fun m st j=>Kb w l m st j) (fun m s i=>rfl) (fun k hk κ=>?_) (fun κ=>?_))
  ·have h1:=hs k
   have h2:=Qi (h _ (List.getElem_mem hk))
   unfold Je
   rw[if_pos (by simpa using hk),X1 (by simp only[Z6,Zs,List.length_cons,List.length_nil];omega),Option.bind_some,Zi hk,Option.bind_some,Ze6 (h _ (List.getElem_mem hk)),Option.bind_some,X1 (by simp only[Z6,Zs,List.length_cons,List.length_nil];omega),Option.bind_some]
   congr 1
   refine Wy ?_
   rw[Y5,Y5,Y5,Y5,Zk,Yb (Z1 (l.take k)),Yb (Z1 (l.take (k+1))),List.take_succ_eq_append_getElem hk,Zmd,Ya]
   simp
  ·have h1:=hs l.length
   unfold Je
   rw[if_neg (by simp),X1 (by simp only[Z6,Zs,List.length_cons,List.length_nil];omega),Option.bind_some]
   refine congrArg some (Wy (Eq.trans ?_ (Yb _).symm))
   rw[Y5,Y5,Zk,Yb (Z1 (l.take l.length)),List.take_length]
def Qw (s:Int):ByteArray:=if s=0 then strL [98,121,116,101] else if s=1 then strL [104,97,108,102] else strL [119,111,114,100]
def Wb (b:Int):ByteArray:=if b=0 then strL [111,110,101] else if b=1 then strL [102,111,117,114] else if b=2 then strL [119,114,97,112] else strL [101,105,103,104,116]
theorem Zhw (x:Int):(Qw x).size≤5:=by
 unfold Qw
 repeat' split
 all_goals (rw[Zs];simp)
theorem Zgg (x:Int):(Wb x).size≤5:=by
 unfold Wb
 repeat' split
 all_goals (rw[Zs];simp)
theorem Zfu {r:GReq} (h:reqG r=true):idx [strL [98,121,116,101],strL [104,97,108,102],strL [119,111,114,100]] r.size=some (Qw r.size)∧idx [strL [111,110,101],strL [102,111,117,114],strL [119,114,97,112],strL [101,105,103,104,116]] r.burst=some (Wb r.burst):=by
 have hb:=(Zfq h).1
 have hl:=Zof hb
 have h2:r.burst=0∨r.burst=1∨r.burst=2∨r.burst=3:=by
  have:=hl.2
  unfold Zz at this
  repeat' split at this
  all_goals omega
 have h1:r.size=0∨r.size=1∨r.size=2:=by
  have hne:Xd r.addr r.size r.burst≠[]:=fun e=>by rw[e] at hl;simp at hl;omega
  have hn:(Zz r.burst).toNat≠0:=by omega
  obtain⟨n,hn'⟩:=Nat.exists_eq_succ_of_ne_zero hn
  have hx:¬Kn r.addr r.size r.burst < 0:=fun e=>hne (by
   unfold Xd
   rw[hn']
   unfold Xy
   rw[if_pos e];rfl)
  have ha:X0 r.addr r.size=true:=by
   unfold Kn at hx
   by_cases hc:(X0 r.addr r.size=true∧r.addr < 512)∧Zz r.burst≠0
   ·exact hc.1.1
   ·rw[if_neg hc] at hx;omega
  have:=(Jh ha).1
  unfold Yn at this
  repeat' split at this
  all_goals omega
 constructor
 ·rcases h1 with e|e|e<;>rw[e]<;>rfl
 ·rcases h2 with e|e|e|e<;>rw[e]<;>rfl
def Zc5 (b:Bool):List UInt8:=if b=true then [32,108,111,99,107] else []
def Wl (b:Bool):List UInt8:=if b=true then [119,114,105,116,101] else [114,101,97,100]
def reqT (r:GReq):List UInt8:=Wl r.write++[32]++L8 (Qw r.size)++[32]++L8 (Wb r.burst)++[32]++Lib.itoa r.addr++Zc5 r.lock++Z1 r.data_
def GReq.nums (r:GReq):Prop:=InR r.addr∧∀x∈r.data_,InR x
theorem Zei {r:GReq} (h:reqG r=true):r.data_.length≤8:=by
 have h1:=(Zfq h).2.1
 have h2:=K2 r.burst
 split at h1<;>omega
theorem Zgo {r:GReq} (hd:r.data_.length≤8) (hn:∀x∈r.data_,InR x) {v0:ByteArray} (hv:v0.size≤1000):W1 r FU v0 0=some ⟨(L8 v0++Z1 r.data_).toArray⟩:=by
 have e0:v0++(⟨(Z1 (r.data_.take 0)).toArray⟩:ByteArray)=v0:=Wy (by rw[Y5,Yb (Z1 (r.data_.take 0))];simp[Z1])
 have hs:∀k,(⟨(Z1 (r.data_.take k)).toArray⟩:ByteArray).size≤300:=fun k=>by
  have h1:=K9 (l:=r.data_.take k) fun x hx=>hn x (List.mem_of_mem_take hx)
  have h2:(r.data_.take k).length≤r.data_.length:=by rw[List.length_take];omega
  rw[Zh,Yb];omega
 refine Eq.trans (congrArg (fun v=>W1 r FU v 0) e0.symm) (Zcq (σ:=ByteArray) (n:=r.data_.length) (by omega) (fun k=>v0++(⟨(Z1 (r.data_.take k)).toArray⟩:ByteArray)) (B:=fun κ st j=>K4 r κ st j) (L:=fun m st j=>W1 r m st j) (fun m s i=>rfl) (fun k hk κ=>?_) (fun κ=>?_))
 ·have h1:=hs k
  have h2:=Qi (hn _ (List.getElem_mem hk))
  unfold K4
  rw[if_pos (by simpa using hk),X1 (by simp only[Z6,Zs,List.length_cons,List.length_nil];omega),Option.bind_some,Zi hk,Option.bind_some,Ze6 (hn _ (List.getElem_mem hk)),Option.bind_some,X1 (by simp only[Z6,Zs,List.length_cons,List.length_nil];omega),Option.bind_some]
  congr 1
  refine Wy ?_
  rw[Y5,Y5,Y5,Y5,Zk,Yb (Z1 (r.data_.take k)),Yb (Z1 (r.data_.take (k+1))),List.take_succ_eq_append_getElem hk,Zmd,Ya]
  simp
 ·unfold K4
  rw[if_neg (by simp)]
  refine congrArg some (Wy (Eq.trans ?_ (Yb _).symm))
  rw[Y5,Yb (Z1 (r.data_.take r.data_.length)),List.take_length]
theorem Zjq {r:GReq} (hs:r.sm) (hn:r.nums):Js r=some (if reqG r=true then ⟨(reqT r).toArray⟩ else ByteArray.empty):=by
 unfold Js
 rw[Zua r hs,Option.bind_some]
 by_cases h:reqG r=true
 ·rw[if_neg (by simp[h]),if_pos h]
  have z1:=Zhw r.size
  have z2:=Zgg r.burst
  have z3:=Qi hn.1
  have hd:=Zei h
  have key:∀(v0:ByteArray),v0.size≤5→L8 v0=Wl r.write→Kg r v0=some ⟨(reqT r).toArray⟩:=fun v0 hv hw=>by
   unfold Kg
   rw[(Zfu h).1,(Zfu h).2,Ze6 hn.1]
   simp (disch:=(first|omega|(simp only[Z6,Zs,List.length_cons,List.length_nil];omega))) only[X1,Option.bind_some]
   unfold Jv
   cases hk:r.lock with
   | true=>
    rw[if_pos rfl,Zgo hd hn.2 (by simp only[Z6,Zs,List.length_cons,List.length_nil];omega)]
    refine congrArg some (Wy (Eq.trans (Yb _) (Eq.trans ?_ (Yb _).symm)))
    unfold reqT Zc5
    rw[hk,if_pos rfl]
    simp only[Y5,Zk,Ya,hw]
   | false=>
    rw[if_neg (by simp),Zgo hd hn.2 (by simp only[Z6,Zs,List.length_cons,List.length_nil];omega)]
    refine congrArg some (Wy (Eq.trans (Yb _) (Eq.trans ?_ (Yb _).symm)))
    unfold reqT Zc5
    rw[hk,if_neg (by simp),List.append_nil]
    simp only[Y5,Zk,Ya,hw]
  cases hw:r.write with
  | true=>rw[if_pos rfl];exact key _ (by rw[Zs];simp) (by rw[hw];rfl)
  | false=>rw[if_neg (by simp)];exact key _ (by rw[Zs];simp) (by rw[hw];rfl)
 ·rw[if_pos (by simp[h]),if_neg h]
theorem Zih {r:GReq} (hs:r.sm) (hn:r.nums):Jl r=some (if reqG r=true then ⟨(reqT r).toArray⟩ else ByteArray.empty):=by
 unfold Jl
 rw[Zlz r hs,Option.bind_some]
 by_cases h:reqG r=true
 ·rw[if_neg (by simp[h]),if_pos h]
  have z1:=Zhw r.size
  have z2:=Zgg r.burst
  have z3:=Zej hn.1
  have hd:=Zei h
  have z4:=K9 hn.2
  rw[Zh] at z1 z2
  have hw:Zbe r.write=some (strL (Wl r.write)):=by
   unfold Zbe Wl
   cases r.write<;>rfl
  have zw:(Wl r.write).length≤5:=by unfold Wl;split<;>simp
  rw[hw,Option.bind_some]
  unfold Qy Qn
  rw[Option.bind_some,(Zfu h).1,Option.bind_some,Option.bind_some,(Zfu h).2,Option.bind_some,Zhz hn.1,Option.bind_some,Zox (by omega) hn.2]
  cases hk:r.lock with
  | true=>
   have ej:Lib.join (([strL (Wl r.write),Qw r.size,Wb r.burst,decB r.addr,strL [108,111,99,107]]++r.data_.map decB).map L8) (L8 (strL [32]))=reqT r:=by
    rw[Zk,Zqw]
    unfold reqT Zc5
    rw[hk,if_pos rfl]
    congr 1
    simp only[List.map_cons,List.map_nil,Lib.join,List.intercalate,List.intersperse,List.flatten_cons,List.flatten_nil,Zk,Ya]
    simp
   have hl:(reqT r).length≤1000:=by
    unfold reqT Zc5
    rw[hk,if_pos rfl]
    simp only[List.length_append,List.length_cons,List.length_nil];omega
   rw[if_pos rfl,Xc (by simp) (by simp),Option.bind_some,Option.bind_some,Xc (by simp;omega) (by simp;omega),Option.bind_some]
   show (Xa ([strL (Wl r.write),Qw r.size,Wb r.burst,decB r.addr,strL [108,111,99,107]]++r.data_.map decB) (strL [32])).bind _=_
   rw[Zgy (by simp;omega) (by rw[ej];omega),ej]
   rfl
  | false=>
   have ej:Lib.join (([strL (Wl r.write),Qw r.size,Wb r.burst,decB r.addr]++r.data_.map decB).map L8) (L8 (strL [32]))=reqT r:=by
    rw[Zk,Zqw]
    unfold reqT Zc5
    rw[hk,if_neg (by simp),List.append_nil]
    congr 1
    simp only[List.map_cons,List.map_nil,Lib.join,List.intercalate,List.intersperse,List.flatten_cons,List.flatten_nil,Zk,Ya]
    simp
   have hl:(reqT r).length≤1000:=by
    unfold reqT Zc5
    rw[hk,if_neg (by simp)]
    simp only[List.length_append,List.length_cons,List.length_nil];omega
   rw[if_neg (by simp),Option.bind_some,Xc (by simp;omega) (by simp;omega),Option.bind_some,Zgy (by simp;omega) (by rw[ej];omega),ej]
   rfl
 ·rw[if_pos (by simp[h]),if_neg h]
theorem Xv (a b:ByteArray):(a.toList == b.toList)=decide (L8 a=L8 b):=by
 rw[Lib.toList_data,Lib.toList_data]
 by_cases h:L8 a=L8 b
 ·rw[decide_eq_true h];exact beq_iff_eq.2 h
 ·rw[decide_eq_false h];exact beq_eq_false_iff_ne.2 h
def W7 (p:GPost):List UInt8:=[112,111,115,116,32]++Lib.itoa p.at_++[32]++Lib.itoa p.who++[32]++reqT p.req++[10]
def GPost.nums (p:GPost):Prop:=InR p.at_∧InR p.who∧p.req.nums
theorem Ztg (r:GReq):reqT r≠[]:=by
 unfold reqT Wl
 split<;>simp
theorem Zg3 {r:GReq} (h:reqG r=true) (hn:r.nums):(reqT r).length≤300:=by
 have z1:=Zhw r.size
 have z2:=Zgg r.burst
 have z3:=Zej hn.1
 have hd:=Zei h
 have z4:=K9 hn.2
 rw[Zh] at z1 z2
 have zw:(Wl r.write).length≤5:=by unfold Wl;split<;>simp
 have zl:(Zc5 r.lock).length≤5:=by unfold Zc5;split<;>simp
 unfold reqT
 simp only[List.length_append,List.length_cons,List.length_nil];omega
theorem Zrl {r:GReq}:((⟨(reqT r).toArray⟩:ByteArray).toList == ByteArray.empty.toList)=false:=by
 rw[Xv,Yb,Qq]
 simp[Ztg]
theorem Zon:(ByteArray.empty.toList == ByteArray.empty.toList)=true:=by rw[Xv];simp
def X7 (v0:ByteArray) (ps:List GPost):ByteArray:=if ps.all (fun p=>reqG p.req)=true then ⟨(L8 v0++ps.flatMap W7).toArray⟩ else ByteArray.empty
theorem Zn7 (v0:ByteArray):X7 v0 []=v0:=by
 unfold X7
 rw[if_pos (by simp)]
 exact Wy (by rw[Yb (L8 v0++([]:List GPost).flatMap W7)];simp)
theorem Zos {p:GPost} {ps:List GPost} (h:¬reqG p.req=true) (v0:ByteArray):X7 v0 (p::ps)=ByteArray.empty:=by
 unfold X7
 rw[if_neg (by simp[h])]
theorem Zmx {p:GPost} {ps:List GPost} (h:reqG p.req=true) {v0 v1:ByteArray} (hv:L8 v1=L8 v0++W7 p):X7 v0 (p::ps)=X7 v1 ps:=by
 unfold X7
 rw[hv,List.all_cons,h,Bool.true_and,List.flatMap_cons,List.append_assoc]
theorem Zkk {s:GScript} (hp:s.posts.length < 1048600) (hok:∀p∈s.posts,p.nums∧p.req.sm):∀(m k:Nat) (v0:ByteArray),k≤s.posts.length→s.posts.length - k < m→v0.size≤100000000+1000*k→
  Wv s m v0 (k:Int)=some (X7 v0 (s.posts.drop k)):=by
 intro m
 induction m with
 | zero=>intro k v0 _ h;omega
 | succ m ih=>
  intro k v0 hk hm hv
  show Ju s (Wv s m) v0 (k:Int)=_
  unfold Ju
  by_cases hc:k < s.posts.length
  ·obtain⟨⟨n1,n2,n3⟩,n4⟩:=hok _ (List.getElem_mem hc)
   have z1:=Qi n1
   have z2:=Qi n2
   rw[if_pos (by simpa using hc),Zi hc,Option.bind_some,Zjq n4 n3,Option.bind_some,List.drop_eq_getElem_cons hc]
   by_cases hr:reqG s.posts[k].req=true
   ·have z3:=Zg3 hr n3
    have z4:(⟨(reqT s.posts[k].req).toArray⟩:ByteArray).size≤300:=by rw[Zh,Yb];exact z3
    rw[if_pos hr,if_neg (by rw[Zrl];simp),Ze6 n1,Ze6 n2]
    simp (disch:=(first|omega|(simp only[Z6,Zs,List.length_cons,List.length_nil];omega))) only[X1,Option.bind_some]
    rw[Z9 (by omega),ih (k+1) _ (by omega) (by omega) (by simp only[Z6,Zs,List.length_cons,List.length_nil];omega)]
    refine congrArg some (Zmx hr ?_).symm
    simp only[Y5,Zk,Ya,Yb (reqT s.posts[k].req)]
    unfold W7
    simp
   ·rw[if_neg hr,if_pos (by rw[Zon]),Zos hr]
  ·rw[if_neg (by simpa using hc),List.drop_eq_nil_of_le (by omega),Zn7]
theorem Zkh {s:GScript} (hp:s.posts.length < 1048600) (hok:∀p∈s.posts,p.nums∧p.req.sm):∀(m k:Nat) (v0:ByteArray),k≤s.posts.length→s.posts.length - k < m→v0.size≤100000000+1000*k→
  Wu s m v0 (k:Int)=some (X7 v0 (s.posts.drop k)):=by
 intro m
 induction m with
 | zero=>intro k v0 _ h;omega
 | succ m ih=>
  intro k v0 hk hm hv
  show Jt s (Wu s m) v0 (k:Int)=_
  unfold Jt
  by_cases hc:k < s.posts.length
  ·obtain⟨⟨n1,n2,n3⟩,n4⟩:=hok _ (List.getElem_mem hc)
   have z1:=Qi n1
   have z2:=Qi n2
   rw[if_pos (by simpa using hc),Zi hc,Option.bind_some,Zih n4 n3,Option.bind_some,List.drop_eq_getElem_cons hc]
   by_cases hr:reqG s.posts[k].req=true
   ·have z3:=Zg3 hr n3
    have z4:(⟨(reqT s.posts[k].req).toArray⟩:ByteArray).size≤300:=by rw[Zh,Yb];exact z3
    rw[if_pos hr,if_neg (by rw[Zrl];simp),Zhz n1,Zhz n2]
    simp (disch:=(first|omega|(simp only[Z6,Zs,List.length_cons,List.length_nil];omega))) only[X1,Option.bind_some]
    rw[Z9 (by omega),ih (k+1) _ (by omega) (by omega) (by simp only[Z6,Zs,List.length_cons,List.length_nil];omega)]
    refine congrArg some (Zmx hr ?_).symm
    simp only[Y5,Zk,Ya,Yb (reqT s.posts[k].req)]
    unfold W7
    simp
   ·rw[if_neg hr,if_pos (by rw[Zon]),Zos hr]
  ·rw[if_neg (by simpa using hc),List.drop_eq_nil_of_le (by omega),Zn7]
structure ScrN (s:GScript):Prop where
 few:s.posts.length < 1048600
 waits:s.waits.length < 1048577
 says:s.says.length < 1048577
 posts:∀p∈s.posts,p.nums∧p.req.sm
 wn:∀x∈s.waits,InR x
 sn:∀x∈s.says,InR x
def Wi (s:GScript):ByteArray:=⟨(W3 [119,97,105,116,115] s.waits).toArray⟩++⟨(W3 [115,97,121,115] s.says).toArray⟩
theorem Zqo {w:List UInt8} (hw:w.length≤10) {l:List Int} (hl:l.length < 1048577) (h:∀x∈l,InR x):(W3 w l).length≤30000000:=by
 have:=K9 h
 unfold W3
 split
 ·simp
 ·simp only[List.length_append,List.length_cons,List.length_nil];omega
theorem Zkv {s:GScript} (h:ScrN s):(⟨(W3 [119,97,105,116,115] s.waits).toArray⟩:ByteArray).size≤30000000∧(⟨(W3 [115,97,121,115] s.says).toArray⟩:ByteArray).size≤30000000:=by
 rw[Zh,Zh,Yb,Yb]
 exact⟨Zqo (by simp) h.waits h.wn,Zqo (by simp) h.says h.sn⟩
theorem J2 {s:GScript} (h:ScrN s):Qj s=some (X7 (Wi s) s.posts):=by
 have ⟨z1,z2⟩:=Zkv h
 unfold Qj
 rw[Zji (by rw[Zs];simp) h.waits h.wn,Option.bind_some,Zji (by rw[Zs];simp) h.says h.sn,Option.bind_some,Zk,Zk,X1 (by omega),Option.bind_some]
 have:=Zkk h.few h.posts FU 0 (Wi s) (Nat.zero_le _) (by have:=Yk;have:=h.few;omega) (by unfold Wi;rw[Z6];omega)
 exact this
theorem J3 {s:GScript} (h:ScrN s):Qp s=some (X7 (Wi s) s.posts):=by
 have ⟨z1,z2⟩:=Zkv h
 unfold Qp
 rw[Zh9 (by rw[Zs];simp) h.waits h.wn,Option.bind_some,Zh9 (by rw[Zs];simp) h.says h.sn,Option.bind_some,Zk,Zk,X1 (by omega),Option.bind_some]
 have:=Zkh h.few h.posts FU 0 (Wi s) (Nat.zero_le _) (by have:=Yk;have:=h.few;omega) (by unfold Wi;rw[Z6];omega)
 exact this
theorem dgF_lt:∀(l:List UInt8) (a k:Nat),a < 10^k→l.foldl dgF a < 10^(k+l.length):=by
 intro l
 induction l with
 | nil=>intro a k h;exact h
 | cons c l ih=>
  intro a k h
  rw[List.foldl_cons,List.length_cons,show k+(l.length+1)=(k+1)+l.length by omega]
  refine ih _ _ ?_
  unfold dgF
  rw[Nat.pow_succ]
  split
  ·rename_i hd;unfold isDg at hd;omega
  ·omega
theorem Zda {l:List Int} (hl:l.length < 1048600) (h:∀v∈l,-1000000000000000000 < v∧v < 1000000000000000000):Kk (l.map decB)=some (l,true):=by
 unfold Kk
 refine Zcq (σ:=List Int) (n:=l.length) (by omega) (fun k=>l.take k) (B:=fun κ st j=>We (l.map decB) κ st j) (L:=fun m st j=>W2 (l.map decB) m st j) (fun m s i=>rfl) (fun k hk κ=>?_) fun κ=>?_
 ·unfold We
  rw[if_pos (by simpa using hk),Zi (by simpa using hk),Option.bind_some,List.getElem_map,Zly (h _ (List.getElem_mem hk)) (by omega),Option.bind_some,if_neg (by simp),Xc (by simp;omega) (by simp;omega),Option.bind_some,List.take_succ_eq_append_getElem hk]
 ·unfold We
  rw[if_neg (by simp),List.take_length]
theorem Wo {x w:ByteArray} {c:UInt8} {ws:List ByteArray} (h:ws.map L8=Zu c (L8 x)) (hw:w∈ws):w.size≤x.size:=by
 rw[Zh,Zh]
 refine Zul (c:=c) ?_
 rw[←h]
 exact List.mem_map_of_mem hw
theorem K1 {x:ByteArray} {c:UInt8} {ws:List ByteArray} (h:ws.map L8=Zu c (L8 x)):ws.length≤x.size+1∧1≤ws.length:=by
 have h1:=congrArg List.length h
 rw[List.length_map] at h1
 have h2:=Zvc c (L8 x)
 rw[←Zh] at h2
 have h3:0 < (Zu c (L8 x)).length:=List.length_pos_iff.2 (Zip c (L8 x))
 omega
theorem Yv {α:Type} {xs:List α} {a b:Nat} (h1:a≤b) (h2:b≤xs.length):Z7 xs (a:Int) (b:Int)=some ((xs.drop a).take (b - a)):=by
 unfold Z7
 rw[if_pos ⟨by omega,by omega,by omega⟩]
 rfl
def In18 (v:Int):Prop:=-1000000000000000000 < v∧v < 1000000000000000000
theorem In18.r {v:Int} (h:In18 v):InR v:=⟨by have:=h.1;omega,by have:=h.2;omega⟩
theorem Zfc {l:List UInt8} (hl:l.length≤18):l.foldl dgF 0 < 1000000000000000000:=by
 have:=dgF_lt l 0 0 (by simp)
 have h2:10^(0+l.length)≤10^18:=Nat.pow_le_pow_right (by omega) (by omega)
 omega
def Zft (l:List UInt8):Bool:=l.all fun c=>decide (isDg c)
theorem Zpv {l:List UInt8} (h:∀c∈l,isDg c):Zft l=true:=by
 unfold Zft;rw[List.all_eq_true];exact fun c hc=>decide_eq_true (h c hc)
theorem dgW2 {c:UInt8} (h:isDg c) {n:Int} (h0:0≤n) (h1:n < 100000000000000000):subW (addW (mulW n 10) (w64 (c.toNat:Int))) 48=n*10+((c.toNat - 48:Nat):Int):=by
 unfold isDg at h
 have e:w64 (c.toNat:Int)=(c.toNat:Int):=Zwl (by omega) (by omega)
 have h:48≤(c.toNat:Int)∧(c.toNat:Int)≤57:=by omega
 rw[e,Ql (by omega) (by omega),Yr (by omega) (by omega),Jj (by omega) (by omega)]
 omega
theorem Zh1 (x0 w:ByteArray) (sg:Int) (hw:(L8 w).length≤18):∀(m i n:Nat),i≤(L8 w).length→(L8 w).length - i < m→n < 10^i→
  X5 x0 m w sg (n:Int) (i:Int)=some (if Zft ((L8 w).drop i)=true then mulW sg (((L8 w).drop i).foldl dgF n:Nat) else 0):=by
 have hsz:=Zh w
 intro m
 induction m with
 | zero=>intro i n _ h;omega
 | succ m ih=>
  intro i n hi hm hn
  show Ky x0 (X5 x0 m) w sg (n:Int) (i:Int)=_
  unfold Ky
  by_cases hc:i < (L8 w).length
  ·have hb:10^i≤10^17:=Nat.pow_le_pow_right (by omega) (by omega)
   rw[if_pos (decide_eq_true (by omega)),Zcp hc,Option.bind_some,List.drop_eq_getElem_cons hc]
   have bad:∀b:Bool,b=true→¬isDg (L8 w)[i]→X3 x0 (X5 x0 m) w sg (n:Int) (i:Int) b=some (if Zft ((L8 w)[i]::(L8 w).drop (i+1))=true then mulW sg (((L8 w)[i]::(L8 w).drop (i+1)).foldl dgF n:Nat) else 0):=fun b hb hd=>by
    unfold X3
    rw[if_pos hb,if_neg (by unfold Zft;rw[List.all_cons,decide_eq_false hd];simp)]
   by_cases h1:(L8 w)[i].toNat < 48
   ·rw[if_pos (decide_eq_true (by omega))]
    exact bad true rfl (by unfold isDg;omega)
   ·rw[if_neg (by rw[decide_eq_true_eq];omega)]
    by_cases h2:(L8 w)[i].toNat > 57
    ·rw[if_pos (decide_eq_true (by omega))]
     exact bad true rfl (by unfold isDg;omega)
    ·have hd:isDg (L8 w)[i]:=by unfold isDg;omega
     rw[if_neg (by rw[decide_eq_true_eq];omega),show decide ((w.size:Int) > 18)=false from decide_eq_false (by omega)]
     unfold X3
     rw[if_neg (by simp),Zcp hc,Option.bind_some,dgW2 hd (by omega) (by omega),Z9 (by omega)]
     have e:(n:Int)*10+(((L8 w)[i].toNat - 48:Nat):Int)=((dgF n (L8 w)[i]:Nat):Int):=by
      unfold dgF;rw[if_pos hd];omega
     have hlt:dgF n (L8 w)[i] < 10^(i+1):=by
      unfold dgF;rw[if_pos hd,Nat.pow_succ];unfold isDg at hd;omega
     rw[e,ih (i+1) _ (by omega) (by omega) hlt]
     congr 1
     have e2:Zft ((L8 w)[i]::(L8 w).drop (i+1))=Zft ((L8 w).drop (i+1)):=by unfold Zft;rw[List.all_cons,decide_eq_true hd,Bool.true_and]
     rw[e2,List.foldl_cons]
  ·rw[if_neg (by rw[decide_eq_true_eq];omega),List.drop_eq_nil_of_le (by omega)]
   rfl
theorem Zrj (x0 w:ByteArray) (sg:Int) (hs:sg=1∨sg=-1):∃n,W9 x0 w sg=some n∧In18 n:=by
 unfold W9
 by_cases hl:(L8 w).length≤18
 ·have:=Zh1 x0 w sg hl FU 0 0 (Nat.zero_le _) (by have:=Yk;omega) (by simp)
  refine⟨_,this,?_⟩
  have hb:=Zfc (l:=(L8 w).drop 0) (by simpa using hl)
  split
  ·rcases hs with rfl|rfl
   ·rw[Ql (by omega) (by omega)];constructor<;>omega
   ·rw[Ql (by omega) (by omega)];constructor<;>omega
  ·constructor<;>omega
 ·refine⟨0,?_,by constructor<;>omega⟩
  have hsz:=Zh w
  show Ky x0 (X5 x0 18446744073709551615) w sg 0 0=some 0
  unfold Ky
  rw[if_pos (decide_eq_true (by omega)),show (0:Int)=((0:Nat):Int) from rfl,Zcp (by omega),Option.bind_some]
  have j:X3 x0 (X5 x0 18446744073709551615) w sg ((0:Nat):Int) ((0:Nat):Int) true=some 0:=rfl
  split
  ·exact j
  ·split
   ·exact j
   ·rw[show decide ((w.size:Int) > 18)=true from decide_eq_true (by omega)]
    exact j
theorem Zgc (x:ByteArray):∃n,K3 x=some n∧In18 n:=by
 have hsz:=Zh x
 unfold K3
 have pos:∃n,Xn x false=some n∧In18 n:=by
  unfold Xn
  rw[if_neg (by simp)]
  exact Zrj x x 1 (.inl rfl)
 by_cases h0:0 < (L8 x).length
 ·rw[if_pos (decide_eq_true (by omega)),show (0:Int)=((0:Nat):Int) from rfl,Zcp h0,Option.bind_some]
  cases hb:decide ((((L8 x)[0].toNat:Nat):Int)=45) with
  | false=>exact pos
  | true=>
   unfold Xn
   obtain⟨y,e,_⟩:=Zbn (x:=x) (a:=1) (b:=(L8 x).length) (by omega) (Nat.le_refl _)
   rw[if_pos rfl,show ((x.size:Nat):Int)=((L8 x).length:Int) by omega,show (1:Int)=((1:Nat):Int) from rfl,e,Option.bind_some]
   exact Zrj x y (-1) (.inr rfl)
 ·rw[if_neg (by rw[decide_eq_true_eq];omega)]
  exact pos
theorem Zjv {v:Int} (h:In18 v):K3 (decB v)=some v:=by
 obtain⟨h1,h2⟩:=h
 have hsz:=Zh (decB v)
 rw[Ya] at hsz
 have ha:=Zju v
 have hne:0 < (Lib.itoa v).length:=List.length_pos_iff.2 (Zy7 v)
 unfold K3
 rw[if_pos (decide_eq_true (by omega)),show (0:Int)=((0:Nat):Int) from rfl,Zcp (by rw[Ya];exact hne),Option.bind_some]
 by_cases hn:v < 0
 ·have e2:Lib.itoa v=45::Lib.decDigits v.natAbs:=by unfold Lib.itoa;rw[if_pos hn]
  have h45:(L8 (decB v))[0]'(by rw[Ya,e2];simp)=45:=by simp[Ya,e2]
  rw[h45]
  show Xn (decB v) true=_
  unfold Xn
  obtain⟨y,e,hy⟩:=Zbn (x:=decB v) (a:=1) (b:=(Lib.itoa v).length) (by omega) (by rw[Ya];exact Nat.le_refl _)
  have hyd:L8 y=Lib.decDigits v.natAbs:=by
   rw[hy,Ya,e2,List.drop_succ_cons,List.drop_zero,List.take_of_length_le (by simp)]
  have hl:=Zfg (k:=17) (u:=v.natAbs) (by omega)
  have e:subS (decB v) 1 ((Lib.itoa v).length:Int)=some y:=e
  rw[if_pos rfl,show (((decB v).size:Nat):Int)=((Lib.itoa v).length:Int) by omega,e,Option.bind_some]
  unfold W9
  have:=Zh1 (decB v) y (-1) (by rw[hyd];omega) FU 0 0 (Nat.zero_le _) (by rw[hyd];have:=Yk;omega) (by simp)
  rw[show ((0:Nat):Int)=0 from rfl] at this
  rw[this,List.drop_zero,hyd,if_pos (Zpv fun c hc=>Zad hc),Za3,Ql (by omega) (by omega)]
  congr 1;omega
 ·have e2:Lib.itoa v=Lib.decDigits v.toNat:=by unfold Lib.itoa;rw[if_neg hn]
  have hl:=Zfg (k:=17) (u:=v.toNat) (by omega)
  have hd:isDg ((L8 (decB v))[0]'(by rw[Ya];exact hne)):=by
   refine Zad (u:=v.toNat) ?_
   rw[←e2]
   exact List.getElem_mem hne
  rw[show decide ((((L8 (decB v))[0]'(by rw[Ya];exact hne)).toNat:Int)=45)=false by unfold isDg at hd;exact decide_eq_false (by omega)]
  unfold Xn
  rw[if_neg (by simp)]
  unfold W9
  have:=Zh1 (decB v) (decB v) 1 (by rw[Ya,e2];omega) FU 0 0 (Nat.zero_le _) (by rw[Ya,e2];have:=Yk;omega) (by simp)
  rw[show ((0:Nat):Int)=0 from rfl] at this
  rw[this,List.drop_zero,Ya,if_pos (Zpv fun c hc=>Zad (u:=v.toNat) (by rw[←e2];exact hc)),Zju,Ql (by omega) (by omega)]
  congr 1;omega
theorem Zic {ws:List ByteArray} (hl:ws.length < 1048600):∃r,Ki ws=some r∧r.length=ws.length∧∀v∈r,In18 v:=by
 have key:∀(m k:Nat) (out:List Int),k≤ws.length→ws.length - k < m→out.length=k→(∀v∈out,In18 v)→∃r,W8 ws m out (k:Int)=some r∧r.length=ws.length∧∀v∈r,In18 v:=by
  intro m
  induction m with
  | zero=>intro k out _ h;omega
  | succ m ih=>
   intro k out hk hm ho hv
   show ∃r,Wg ws (W8 ws m) out (k:Int)=some r∧_
   unfold Wg
   by_cases hc:k < ws.length
   ·obtain⟨n,h1,h2⟩:=Zgc ws[k]
    rw[if_pos (by simpa using hc),Zi hc,Option.bind_some,h1,Option.bind_some,Xc (by simp;omega) (by simp;omega),Option.bind_some,Z9 (by omega)]
    refine ih (k+1) _ (by omega) (by omega) (by simp;omega) fun v hv2=>?_
    rcases List.mem_append.1 hv2 with hv2|hv2
    ·exact hv v hv2
    ·rw[List.mem_singleton.1 hv2];exact h2
   ·rw[if_neg (by simpa using hc)]
    exact⟨_,rfl,by omega,hv⟩
 exact key FU 0 [] (Nat.zero_le _) (by have:=Yk;omega) rfl (by simp)
theorem Zf8 {l:List Int} (hl:l.length < 1048600) (h:∀v∈l,In18 v):Ki (l.map decB)=some l:=by
 unfold Ki
 refine Zcq (σ:=List Int) (n:=l.length) (by omega) (fun k=>l.take k) (B:=fun κ st j=>Wg (l.map decB) κ st j) (L:=fun m st j=>W8 (l.map decB) m st j) (fun m s i=>rfl) (fun k hk κ=>?_) fun κ=>?_
 ·unfold Wg
  rw[if_pos (by simpa using hk),Zi (by simpa using hk),Option.bind_some,List.getElem_map,Zjv (h _ (List.getElem_mem hk)),Option.bind_some,Xc (by simp;omega) (by simp;omega),Option.bind_some,List.take_succ_eq_append_getElem hk]
 ·unfold Wg
  rw[if_neg (by simp),List.take_length]
theorem Zg1 {x:ByteArray} (h:x.size≤281474976710656):∃r,Wj x 18=some r∧In18 r.1:=by
 obtain⟨r,h1,_⟩:=Zpq (d:=18) h
 refine⟨r,h1,?_⟩
 unfold Wj at h1
 rw[if_pos h] at h1
 have z:In18 0:=by constructor<;>omega
 split at h1
 ·rename_i v hv
  split at h1
  ·rename_i hc
   injection h1 with h1
   rw[←h1]
   show In18 v
   have hf:=Zju v
   have hl:=hc.2
   rw[←hc.1] at hl
   unfold Lib.trimPrefix at hl
   by_cases hn:v < 0
   ·have e2:Lib.itoa v=45::Lib.decDigits v.natAbs:=by unfold Lib.itoa;rw[if_pos hn]
    rw[e2,if_pos (by simp[Lib.hasPrefix,List.isPrefixOf])] at hl
    have hb:=Zfc (l:=Lib.decDigits v.natAbs) (by simp at hl;omega)
    rw[Za3] at hb
    constructor<;>omega
   ·have e2:Lib.itoa v=Lib.decDigits v.toNat:=by unfold Lib.itoa;rw[if_neg hn]
    have hnp:Lib.hasPrefix (Lib.itoa v) [45]=false:=by
     rw[e2]
     cases hd:Lib.decDigits v.toNat with
     | nil=>rfl
     | cons c l=>
      have:=Zad (u:=v.toNat) (c:=c) (by rw[hd];exact List.mem_cons_self)
      unfold isDg at this
      have e:(45:UInt8).toNat=45:=rfl
      have hne:¬(45:UInt8)=c:=by rintro rfl;omega
      simp[Lib.hasPrefix,List.isPrefixOf,hne]
    rw[if_neg (by rw[hnp];simp),e2] at hl
    have hb:=Zfc (l:=Lib.decDigits v.toNat) (by omega)
    rw[Za3] at hb
    constructor<;>omega
  ·injection h1 with h1;rw[←h1];exact z
 ·injection h1 with h1;rw[←h1];exact z
theorem Zcb {ws:List ByteArray} (hl:ws.length < 1048600) (hz:∀w∈ws,w.size≤281474976710656):∃r,Kk ws=some r∧(∀v∈r.1,In18 v)∧r.1.length≤ws.length∧(r.2=true→r.1.length=ws.length):=by
 have key:∀(m k:Nat) (out:List Int),k≤ws.length→ws.length - k < m→out.length=k→(∀v∈out,In18 v)→∃r,W2 ws m out (k:Int)=some r∧(∀v∈r.1,In18 v)∧r.1.length≤ws.length∧(r.2=true→r.1.length=ws.length):=by
  intro m
  induction m with
  | zero=>intro k out _ h;omega
  | succ m ih=>
   intro k out hk hm ho hv
   show ∃r,We ws (W2 ws m) out (k:Int)=some r∧_
   unfold We
   by_cases hc:k < ws.length
   ·obtain⟨r,h1,h2⟩:=Zg1 (hz _ (List.getElem_mem hc))
    rw[if_pos (by simpa using hc),Zi hc,Option.bind_some,h1,Option.bind_some]
    by_cases hr:r.2=true
    ·rw[if_neg (by simp[hr]),Xc (by simp;omega) (by simp;omega),Option.bind_some,Z9 (by omega)]
     refine ih (k+1) _ (by omega) (by omega) (by simp;omega) fun v hv2=>?_
     rcases List.mem_append.1 hv2 with hv2|hv2
     ·exact hv v hv2
     ·rw[List.mem_singleton.1 hv2];exact h2
    ·rw[if_pos (by simp[hr])]
     exact⟨_,rfl,by simp,by simp,fun h=>by cases h⟩
   ·rw[if_neg (by simpa using hc)]
    exact⟨_,rfl,hv,by show out.length≤_;omega,fun _=>by show out.length=_;omega⟩
 exact key FU 0 [] (Nat.zero_le _) (by have:=Yk;omega) rfl (by simp)
theorem Zi5 (xs:List ByteArray) (y:ByteArray) (hl:xs.length < 1000):∃n,Q7 xs y=some n:=by
 have key:∀(m k:Nat),k≤xs.length→xs.length - k < m→∃n,Qk xs y m (k:Int)=some n:=by
  intro m
  induction m with
  | zero=>intro k _ h;omega
  | succ m ih=>
   intro k hk hm
   show ∃n,W6 xs y (Qk xs y m) (k:Int)=some n
   unfold W6
   by_cases hc:k < xs.length
   ·rw[if_pos (by simpa using hc),Zi hc,Option.bind_some,Z9 (by omega)]
    split
    ·exact⟨_,rfl⟩
    ·exact ih (k+1) (by omega) (by omega)
   ·rw[if_neg (by simpa using hc)];exact⟨_,rfl⟩
 exact key FU 0 (Nat.zero_le _) (by have:=Yk;omega)
theorem Zk7 (xs:List ByteArray) (y:ByteArray) (hl:xs.length < 1000):∃n,Zw xs y=some n:=by
 have key:∀(m k:Nat),k≤xs.length→xs.length - k < m→∃n,Z2 xs y m (k:Int)=some n:=by
  intro m
  induction m with
  | zero=>intro k _ h;omega
  | succ m ih=>
   intro k hk hm
   show ∃n,Z0 xs y (Z2 xs y m) (k:Int)=some n
   unfold Z0
   by_cases hc:k < xs.length
   ·rw[if_pos (by simpa using hc),Zi hc,Option.bind_some,Z9 (by omega)]
    split
    ·exact⟨_,rfl⟩
    ·exact ih (k+1) (by omega) (by omega)
   ·rw[if_neg (by simpa using hc)];exact⟨_,rfl⟩
 exact key FU 0 (Nat.zero_le _) (by have:=Yk;omega)
theorem K8 (xs:List ByteArray) (j:Nat) (hj:j < xs.length) (hl:xs.length < 1000) (hn:∀i (hi:i < j),L8 (xs[i]'(by omega))≠L8 xs[j]):Q7 xs xs[j]=some (j:Int):=by
 unfold Q7
 refine Zct (n:=j) (by omega) (B:=fun κ i=>W6 xs xs[j] κ i) (L:=fun m i=>Qk xs xs[j] m i) (fun m i=>rfl) (fun k hk κ=>?_) fun κ=>?_
 ·unfold W6
  rw[if_pos (by simp;omega),Zi (by omega),Option.bind_some,if_neg (by rw[Xv];simpa using hn k hk)]
 ·unfold W6
  rw[if_pos (by simpa using hj),Zi hj,Option.bind_some,if_pos (beq_self_eq_true _)]
theorem Ja (xs:List ByteArray) (j:Nat) (hj:j < xs.length) (hl:xs.length < 1000) (hn:∀i (hi:i < j),L8 (xs[i]'(by omega))≠L8 xs[j]):Zw xs xs[j]=some (j:Int):=by
 unfold Zw
 refine Zct (n:=j) (by omega) (B:=fun κ i=>Z0 xs xs[j] κ i) (L:=fun m i=>Z2 xs xs[j] m i) (fun m i=>rfl) (fun k hk κ=>?_) fun κ=>?_
 ·unfold Z0
  rw[if_pos (by simp;omega),Zi (by omega),Option.bind_some,if_neg (by rw[Xv];simpa using fun h=>hn k hk h.symm)]
 ·unfold Z0
  rw[if_pos (by simpa using hj),Zi hj,Option.bind_some,if_pos (beq_self_eq_true _)]
abbrev Xl:List ByteArray:=[strL [98,121,116,101],strL [104,97,108,102],strL [119,111,114,100]]
abbrev Yj:List ByteArray:=[strL [111,110,101],strL [102,111,117,114],strL [119,114,97,112],strL [101,105,103,104,116]]
theorem Ze4 {r:GReq} (h:reqG r=true):(r.size=0∨r.size=1∨r.size=2)∧(r.burst=0∨r.burst=1∨r.burst=2∨r.burst=3)∧(0≤r.addr∧r.addr < 512)∧∀v∈r.data_,0≤v∧v < 4294967296:=by
 obtain⟨hb,_,hd⟩:=Zfq h
 have hl:=Zof hb
 have h2:r.burst=0∨r.burst=1∨r.burst=2∨r.burst=3:=by
  have:=hl.2
  unfold Zz at this
  repeat' split at this
  all_goals omega
 have ha:r.addr∈Xd r.addr r.size r.burst:=by
  have hne:Xd r.addr r.size r.burst≠[]:=fun e=>by rw[e] at hl;simp at hl;omega
  unfold Xd at hne ⊢
  cases hq:Xy r.size r.burst (Zz r.burst).toNat r.addr with
  | none=>rw[hq] at hne;simp at hne
  | some l=>
   have:=(Zjr hq).2.2 (by omega)
   simp only[Option.getD_some]
   cases l with
   | nil=>simp at this
   | cons a l=>simp at this;subst this;exact List.mem_cons_self
 obtain⟨h3,h4⟩:=Zhu ha
 have h1:r.size=0∨r.size=1∨r.size=2:=by
  have:=(Jh h3).1
  unfold Yn at this
  repeat' split at this
  all_goals omega
 refine⟨h1,h2,h4,fun v hv=>?_⟩
 have:=hd v hv
 simp only[numG,decide_eq_true_eq] at this
 have:=Zfs r.size
 omega
theorem Zn5 {r:GReq} (h:reqG r=true):Q7 Xl (Qw r.size)=some r.size∧Zw Xl (Qw r.size)=some r.size:=by
 rcases (Ze4 h).1 with e|e|e<;>rw[e]
 ·exact⟨K8 Xl 0 (by decide) (by decide) (fun i hi=>by omega),Ja Xl 0 (by decide) (by decide) (fun i hi=>by omega)⟩
 ·have hn:∀i (hi:i < 1),L8 (Xl[i]'(by show i < 3;omega))≠L8 (Xl[1]'(by decide)):=fun i hi=>by
   obtain rfl:i=0:=by omega
   simp[Zk]
  exact⟨K8 Xl 1 (by decide) (by decide) hn,Ja Xl 1 (by decide) (by decide) hn⟩
 ·have hn:∀i (hi:i < 2),L8 (Xl[i]'(by show i < 3;omega))≠L8 (Xl[2]'(by decide)):=fun i hi=>by
   obtain rfl|rfl:i=0∨i=1:=by omega
   ·simp[Zk]
   ·simp[Zk]
  exact⟨K8 Xl 2 (by decide) (by decide) hn,Ja Xl 2 (by decide) (by decide) hn⟩
theorem Zmy {r:GReq} (h:reqG r=true):Q7 Yj (Wb r.burst)=some r.burst∧Zw Yj (Wb r.burst)=some r.burst:=by
 rcases (Ze4 h).2.1 with e|e|e|e<;>rw[e]
 ·exact⟨K8 Yj 0 (by decide) (by decide) (fun i hi=>by omega),Ja Yj 0 (by decide) (by decide) (fun i hi=>by omega)⟩
 ·have hn:∀i (hi:i < 1),L8 (Yj[i]'(by show i < 4;omega))≠L8 (Yj[1]'(by decide)):=fun i hi=>by
   obtain rfl:i=0:=by omega
   simp[Zk]
  exact⟨K8 Yj 1 (by decide) (by decide) hn,Ja Yj 1 (by decide) (by decide) hn⟩
 ·have hn:∀i (hi:i < 2),L8 (Yj[i]'(by show i < 4;omega))≠L8 (Yj[2]'(by decide)):=fun i hi=>by
   obtain rfl|rfl:i=0∨i=1:=by omega
   ·simp[Zk]
   ·simp[Zk]
  exact⟨K8 Yj 2 (by decide) (by decide) hn,Ja Yj 2 (by decide) (by decide) hn⟩
 ·have hn:∀i (hi:i < 3),L8 (Yj[i]'(by show i < 4;omega))≠L8 (Yj[3]'(by decide)):=fun i hi=>by
   obtain rfl|rfl|rfl:i=0∨i=1∨i=2:=by omega
   ·simp[Zk]
   ·simp[Zk]
   ·simp[Zk]
  exact⟨K8 Yj 3 (by decide) (by decide) hn,Ja Yj 3 (by decide) (by decide) hn⟩
def Zbf (r:GReq):List (List UInt8):=[Wl r.write,L8 (Qw r.size),L8 (Wb r.burst),Lib.itoa r.addr]++((if r.lock=true then [[108,111,99,107]] else [])++r.data_.map Lib.itoa)
theorem Zi7 (r:GReq):reqT r=Lib.join (Zbf r) [32]:=by
 unfold reqT Zbf Zc5 Z1
 simp only[List.cons_append,List.nil_append]
 rw[Lib.join_cons]
 unfold Lib.joinTail
 cases r.lock<;>simp[List.flatMap_def,List.map_map,Function.comp_def]
theorem Zpy (l:ByteArray) (h:l∈Xl∨l∈Yj):∀y∈L8 l,y≠32∧y≠10:=by
 have h:l∈Xl++Yj:=List.mem_append.2 h
 simp only[Xl,Yj,List.cons_append,List.nil_append,List.mem_cons,List.not_mem_nil,or_false] at h
 rcases h with rfl|rfl|rfl|rfl|rfl|rfl|rfl<;>decide
theorem Zwq (s:Int):Qw s∈Xl:=by
                           unfold Qw;repeat' split
                           all_goals simp[Xl]
theorem Zt4 (s:Int):Wb s∈Yj:=by
                            unfold Wb;repeat' split
                            all_goals simp[Yj]
theorem Zvg (b:Bool):∀y∈Wl b,y≠32∧y≠10:=by cases b<;>decide
theorem Zoh {r:GReq}:∀w∈Zbf r,∀y∈w,y≠32∧y≠10:=by
 intro w hw y hy
 have hi:∀v:Int,y∈Lib.itoa v→y≠32∧y≠10:=fun v h=>⟨Zha h (.inl rfl),Zha h (.inr (.inr rfl))⟩
 unfold Zbf at hw
 rcases List.mem_append.1 hw with hw|hw
 ·simp only[List.mem_cons,List.not_mem_nil,or_false] at hw
  rcases hw with rfl|rfl|rfl|rfl
  ·exact Zvg _ y hy
  ·exact Zpy _ (.inl (Zwq _)) y hy
  ·exact Zpy _ (.inr (Zt4 _)) y hy
  ·exact hi _ hy
 ·rcases List.mem_append.1 hw with hw|hw
  ·split at hw
   ·rw[List.mem_singleton.1 hw] at hy
    have:∀y∈([108,111,99,107]:List UInt8),y≠32∧y≠10:=by decide
    exact this y hy
   ·simp at hw
  ·obtain⟨v,_,rfl⟩:=List.mem_map.1 hw
   exact hi _ hy
theorem Zn1 {x:ByteArray} {r:GReq} (h:L8 x=reqT r):Zu 32 (L8 x)=Zbf r:=by
 rw[h,Zi7,Zgh (by simp[Zbf]) fun w hw y hy=>(Zoh w hw y hy).1]
def Zmm (x:ByteArray) (r:GReq):Prop:=reqG r=true∧L8 x=reqT r
def Zce (x:ByteArray) (q:GReq×Bool):Prop:=q=(GReq.z0,false)∨(q.2=true∧Zmm x q.1)
theorem Zia {x:ByteArray} {r:GReq} (hx:L8 x≠[]) (hs:r.sm) (hn:r.nums):∃q,((Js r).bind fun r1=>if (!(r1.toList == x.toList))=true then some (GReq.z0,false) else some (r,true))=some q∧Zce x q∧(Zmm x r→q=(r,true)):=by
 rw[Zjq hs hn,Option.bind_some]
 by_cases h:reqG r=true
 ·rw[if_pos h,Xv,Yb (reqT r)]
  by_cases he:reqT r=L8 x
  ·rw[if_neg (by simp[he])]
   exact⟨_,rfl,.inr ⟨rfl,h,he.symm⟩,fun _=>rfl⟩
  ·rw[if_pos (by simp[he])]
   exact⟨_,rfl,.inl rfl,fun hh=>absurd hh.2.symm he⟩
 ·rw[if_neg h,Xv,Qq,decide_eq_false (fun e=>hx e.symm),if_pos (by simp)]
  exact⟨_,rfl,.inl rfl,fun hh=>absurd hh.1 h⟩
theorem Zie {x:ByteArray} {r:GReq} (hs:r.sm) (hn:r.nums):∃q,((Zbu r).bind fun r2=>if (!r2)=true then some (GReq.z0,false) else ((Jl r).bind fun r3=>if (!(r3.toList == x.toList))=true then some (GReq.z0,false) else some (r,true)))=some q∧Zce x q∧(Zmm x r→q=(r,true)):=by
 rw[Zlz r hs,Zih hs hn,Option.bind_some,Option.bind_some]
 by_cases h:reqG r=true
 ·rw[if_neg (by simp[h]),if_pos h,Xv,Yb (reqT r)]
  by_cases he:reqT r=L8 x
  ·rw[if_neg (by simp[he])]
   exact⟨_,rfl,.inr ⟨rfl,h,he.symm⟩,fun _=>rfl⟩
  ·rw[if_pos (by simp[he])]
   exact⟨_,rfl,.inl rfl,fun hh=>absurd hh.2.symm he⟩
 ·rw[if_pos (by simp[h])]
  exact⟨_,rfl,.inl rfl,fun hh=>absurd hh.1 h⟩
theorem Zgm {x:ByteArray} (hx:L8 x≠[]) {ws:List ByteArray} (hw:ws.length < 1048577) {r:GReq} (hr:InR r.addr) (hd:r.data_=[]):∃q,Yt x FU r ws 0=some q∧Zce x q:=by
 have key:∀(m k:Nat) (d:List Int),k≤ws.length→ws.length - k < m→d.length=k→(∀v∈d,InR v)→∃q,Yt x m {r with data_:=d} ws (k:Int)=some q∧Zce x q:=by
  intro m
  induction m with
  | zero=>intro k d _ h;omega
  | succ m ih=>
   intro k d hk hm ho hv
   show ∃q,Yy x (Yt x m) {r with data_:=d} ws (k:Int)=some q∧_
   unfold Yy
   by_cases hc:k < ws.length
   ·obtain⟨n,h1,h2⟩:=Zgc ws[k]
    rw[if_pos (by simpa using hc),Zi hc,Option.bind_some,h1,Option.bind_some,Xc (by simp;omega) (by simp;omega),Option.bind_some,Z9 (by omega)]
    refine ih (k+1) _ (by omega) (by omega) (by simp;omega) fun v hv2=>?_
    rcases List.mem_append.1 hv2 with hv2|hv2
    ·exact hv v hv2
    ·rw[List.mem_singleton.1 hv2];exact h2.r
   ·rw[if_neg (by simpa using hc)]
    obtain⟨q,e1,e2,_⟩:=Zia (x:=x) (r:={r with data_:=d}) hx (by unfold GReq.sm;show d.length < _;omega) ⟨hr,hv⟩
    exact⟨q,e1,e2⟩
 have:=key FU 0 [] (Nat.zero_le _) (by have:=Yk;omega) rfl (by simp)
 have e:({r with data_:=[]}:GReq)=r:=by cases r;simp at hd;simp[hd]
 rw[e] at this
 exact this
theorem Zgw {x:ByteArray} {c:UInt8} {ws:List ByteArray} (h:ws.map L8=Zu c (L8 x)) (h2:2≤ws.length):L8 x≠[]:=fun e=>by
 rw[e] at h
 have:=congrArg List.length h
 simp[Zu] at this
 omega
theorem Zlv {x:ByteArray} (hx:x.size≤1048576):∃q,Jq x=some q∧Zce x q:=by
 obtain⟨ws,h1,h2⟩:=Zcx (x:=x) 32 (by omega)
 have h1:X4 x 32=some ws:=h1
 have hlen:=K1 h2
 unfold Jq
 rw[h1,Option.bind_some]
 by_cases hl:ws.length < 4
 ·rw[if_pos (by simp;omega)]
  exact⟨_,rfl,.inl rfl⟩
 ·have hne:=Zgw h2 (by omega)
  obtain⟨q3,e3⟩:=Zi5 Xl ws[1] (by decide)
  obtain⟨q4,e4⟩:=Zi5 Yj ws[2] (by decide)
  obtain⟨q5,e5,b5⟩:=Zgc ws[3]
  have i0:idx ws 0=some ws[0]:=Zi (k:=0) (by omega)
  have i1:idx ws 1=some ws[1]:=Zi (k:=1) (by omega)
  have i2:idx ws 2=some ws[2]:=Zi (k:=2) (by omega)
  have i3:idx ws 3=some ws[3]:=Zi (k:=3) (by omega)
  have s4:Z7 ws 4 (ws.length:Int)=some ((ws.drop 4).take (ws.length - 4)):=Yv (a:=4) (by omega) (Nat.le_refl _)
  rw[if_neg (by simp;omega),i0,Option.bind_some,i1,Option.bind_some,e3,Option.bind_some,i2,Option.bind_some,e4,Option.bind_some,i3,Option.bind_some,e5,Option.bind_some,s4,Option.bind_some]
  generalize hv:(ws.drop 4).take (ws.length - 4)=vs
  have hvl:vs.length < 1048577:=by rw[←hv];simp;omega
  have j2:∀(b:Bool),(b=true→1≤vs.length)→∃q,Xh x (GReq.mk (ws[0].toList == (strL [119,114,105,116,101]).toList) q5 q3 q4 false []) vs b=some q∧Zce x q:=fun b hb=>by
   unfold Xh W5
   split
   ·rename_i hbt
    have s1:Z7 vs 1 (vs.length:Int)=some ((vs.drop 1).take (vs.length - 1)):=Yv (a:=1) (hb hbt) (Nat.le_refl _)
    rw[s1,Option.bind_some]
    exact Zgm hne (by simp;omega) (by exact b5.r) rfl
   ·exact Zgm hne hvl (by exact b5.r) rfl
  by_cases h0:0 < vs.length
  ·have i0:idx vs 0=some vs[0]:=Zi (k:=0) h0
   rw[if_pos (by simpa using h0),i0,Option.bind_some]
   exact j2 _ fun _=>h0
  ·rw[if_neg (by simpa using h0)]
   exact j2 false fun h=>by cases h
theorem Zl3 {x:ByteArray} (hx:x.size≤1048576):∃q,Jr x=some q∧Zce x q:=by
 obtain⟨ws,h1,h2⟩:=Zcn (x:=x) 32 (by omega)
 have hlen:=K1 h2
 have hz:∀w∈ws,w.size≤281474976710656:=fun w hw=>by have:=Wo h2 hw;omega
 unfold Jr
 rw[h1,Option.bind_some]
 by_cases hl:ws.length < 4
 ·rw[if_pos (by simp;omega)]
  exact⟨_,rfl,.inl rfl⟩
 ·obtain⟨q3,e3⟩:=Zk7 Xl ws[1] (by decide)
  obtain⟨q4,e4⟩:=Zk7 Yj ws[2] (by decide)
  have i0:idx ws 0=some ws[0]:=Zi (k:=0) (by omega)
  have i1:idx ws 1=some ws[1]:=Zi (k:=1) (by omega)
  have i2:idx ws 2=some ws[2]:=Zi (k:=2) (by omega)
  have i3:idx ws 3=some ws[3]:=Zi (k:=3) (by omega)
  have s4:Z7 ws 4 (ws.length:Int)=some ((ws.drop 4).take (ws.length - 4)):=Yv (a:=4) (by omega) (Nat.le_refl _)
  have f1:Qy=some Xl:=rfl
  have f2:Qn=some Yj:=rfl
  rw[if_neg (by simp;omega),i0,Option.bind_some,f1,Option.bind_some,i1,Option.bind_some,e3,Option.bind_some,f2,Option.bind_some,i2,Option.bind_some,e4,Option.bind_some,s4,Option.bind_some]
  generalize hv:(ws.drop 4).take (ws.length - 4)=vs
  have hvl:vs.length < 1048577:=by rw[←hv];simp;omega
  have hvz:∀w∈vs,w.size≤281474976710656:=fun w hw=>hz w (by rw[←hv] at hw;exact List.mem_of_mem_drop (List.mem_of_mem_take hw))
  have j2:∀(r:GReq) (us:List ByteArray),us.length < 1048577→(∀w∈us,w.size≤281474976710656)→∃q,Xw x r ws us=some q∧Zce x q:=fun r us hu huz=>by
   unfold Xw
   obtain⟨n,n1,n2⟩:=Zg1 (hz ws[3] (List.getElem_mem (by omega)))
   obtain⟨d,d1,d2,d3,d4⟩:=Zcb (ws:=us) (by omega) huz
   rw[i3,Option.bind_some,n1,Option.bind_some,d1,Option.bind_some]
   split
   ·exact⟨_,rfl,.inl rfl⟩
   ·split
    ·exact⟨_,rfl,.inl rfl⟩
    ·obtain⟨q,e1,e2,_⟩:=Zie (x:=x) (r:={r with addr:=n.1,data_:=d.1}) (by unfold GReq.sm;show d.1.length < _;omega) ⟨n2.r,fun v hv=>(d2 v hv).r⟩
     exact⟨q,e1,e2⟩
  have j1:∀(b:Bool) (r:GReq),(b=true→1≤vs.length)→∃q,Xi x r ws vs b=some q∧Zce x q:=fun b r hb=>by
   unfold Xi
   split
   ·rename_i hbt
    have s1:Z7 vs 1 (vs.length:Int)=some ((vs.drop 1).take (vs.length - 1)):=Yv (a:=1) (hb hbt) (Nat.le_refl _)
    rw[s1,Option.bind_some]
    exact j2 _ _ (by simp;omega) fun w hw=>hvz w (List.mem_of_mem_drop (List.mem_of_mem_take hw))
   ·exact j2 _ _ hvl hvz
  by_cases h0:0 < vs.length
  ·have i0:idx vs 0=some vs[0]:=Zi (k:=0) h0
   rw[if_pos (by simpa using h0),i0,Option.bind_some]
   exact j1 _ _ fun _=>h0
  ·rw[if_neg (by simpa using h0)]
   exact j1 false _ fun h=>by cases h
theorem Zjp {ws:List ByteArray} {r:GReq} (h:ws.map L8=Zbf r):ws=[strL (Wl r.write),Qw r.size,Wb r.burst,decB r.addr]++((if r.lock=true then [strL [108,111,99,107]] else [])++r.data_.map decB):=by
 have inj:∀{a b:List ByteArray},a.map L8=b.map L8→a=b:=by
  intro a
  induction a with
  | nil=>intro b h;cases b with
   | nil=>rfl
   | cons y b=>simp at h
  | cons x a ih=>intro b h;cases b with
   | nil=>simp at h
   | cons y b=>
    simp only[List.map_cons,List.cons.injEq] at h ⊢
    exact⟨Wy h.1,ih h.2⟩
 refine inj (h.trans ?_)
 unfold Zbf
 cases r.lock<;>simp[Zk,Ya,List.map_map,Function.comp_def]
theorem Zmv {d:List Int} (h:d≠[]):∃a l,d.map decB=decB a::l∧L8 (decB a)≠[108,111,99,107]:=by
 cases d with
 | nil=>exact absurd rfl h
 | cons a l=>
  refine⟨a,l.map decB,rfl,fun e=>?_⟩
  rw[Ya] at e
  have:=Ztd (v:=a) (c:=108) (by rw[e];exact List.mem_cons_self)
  rcases this with h|h
  ·cases h
  ·unfold isDg at h
   have e:(108:UInt8).toNat=108:=rfl
   omega
theorem Zq6 (b:Bool):((strL (Wl b)).toList == (strL [119,114,105,116,101]).toList)=b:=by
 rw[Xv,Zk,Zk]
 cases b<;>rfl
theorem Zlj {x:ByteArray} {r:GReq} (h:Zmm x r) (hx:x.size≤1048576):Jq x=some (r,true):=by
 obtain⟨hg,ht⟩:=h
 obtain⟨ws,h1,h2⟩:=Zcx (x:=x) 32 (by omega)
 have h1:X4 x 32=some ws:=h1
 rw[Zn1 ht] at h2
 have hws:=Zjp h2
 obtain⟨v1,v2,v3,v4⟩:=Ze4 hg
 have hfew:=Zei hg
 have hne:L8 x≠[]:=by rw[ht];exact Ztg r
 have hnums:r.nums:=⟨⟨by omega,by omega⟩,fun v hv=>by have:=v4 v hv;exact⟨by omega,by omega⟩⟩
 have loop:∀us:List ByteArray,us=r.data_.map decB→Yt x FU {r with data_:=[]} us 0=some (r,true):=fun us hu=>by
  subst hu
  refine Zcq (σ:=GReq) (n:=r.data_.length) (by omega) (fun k=>({r with data_:=r.data_.take k}:GReq)) (B:=fun κ st j=>Yy x (fun a _ c=>κ a c) st (r.data_.map decB) j) (L:=fun m st j=>Yt x m st (r.data_.map decB) j) (fun m s i=>?_) (fun k hk κ=>?_) fun κ=>?_
  ·show Yy x (Yt x m) s (r.data_.map decB) i=Yy x (fun a _ c=>Yt x m a (r.data_.map decB) c) s (r.data_.map decB) i
   unfold Yy
   rfl
  ·unfold Yy
   have hb:=v4 _ (List.getElem_mem hk)
   rw[if_pos (by simpa using hk),Zi (by simpa using hk),Option.bind_some,List.getElem_map,Zjv ⟨by omega,by omega⟩,Option.bind_some,Xc (by simp;omega) (by simp;omega),Option.bind_some,List.take_succ_eq_append_getElem hk]
  ·unfold Yy
   have e:({r with data_:=r.data_.take r.data_.length}:GReq)=r:=by rw[List.take_length]
   rw[if_neg (by simp),e]
   obtain⟨q,e1,_,e3⟩:=Zia (x:=x) (r:=r) hne (Zq3 hg) hnums
   rw[e1,e3 ⟨hg,ht⟩]
 have s4:Z7 ws 4 (ws.length:Int)=some ((ws.drop 4).take (ws.length - 4)):=Yv (a:=4) (by rw[hws];simp) (Nat.le_refl _)
 have hd:(ws.drop 4).take (ws.length - 4)=(if r.lock=true then [strL [108,111,99,107]] else [])++r.data_.map decB:=by
  rw[List.take_of_length_le (by simp),hws];rfl
 rw[hd] at s4
 have i0:idx ws 0=some (strL (Wl r.write)):=by rw[hws];rfl
 have i1:idx ws 1=some (Qw r.size):=by rw[hws];rfl
 have i2:idx ws 2=some (Wb r.burst):=by rw[hws];rfl
 have i3:idx ws 3=some (decB r.addr):=by rw[hws];rfl
 have f1:=(Zn5 hg).1
 have f2:=(Zmy hg).1
 unfold Jq
 rw[h1,Option.bind_some,if_neg (by rw[hws];simp;omega),i0,Option.bind_some,i1,Option.bind_some,f1,Option.bind_some,i2,Option.bind_some,f2,Option.bind_some,i3,Option.bind_some,Zjv ⟨by omega,by omega⟩,Option.bind_some,s4,Option.bind_some,Zq6]
 cases hk:r.lock with
 | true=>
  have e:({GReq.mk r.write r.addr r.size r.burst false [] with lock:=true}:GReq)={r with data_:=[]}:=by cases r;simp at hk;simp[hk]
  have j0:idx ((if true=true then [strL [108,111,99,107]] else [])++r.data_.map decB) 0=some (strL [108,111,99,107]):=rfl
  have js:Z7 ((if true=true then [strL [108,111,99,107]] else [])++r.data_.map decB) 1 (((if true=true then [strL [108,111,99,107]] else [])++r.data_.map decB).length:Int)=some (r.data_.map decB):=by
   have:=Yv (xs:=(if true=true then [strL [108,111,99,107]] else [])++r.data_.map decB) (a:=1) (b:=((if true=true then [strL [108,111,99,107]] else [])++r.data_.map decB).length) (by simp) (Nat.le_refl _)
   refine this.trans (congrArg some ?_)
   rw[List.take_of_length_le (by simp)]
   rfl
  rw[if_pos (by simp),j0,Option.bind_some,show ((strL [108,111,99,107]).toList == (strL [108,111,99,107]).toList)=true from beq_self_eq_true _]
  unfold Xh W5
  rw[if_pos rfl,js,Option.bind_some,e]
  exact loop _ rfl
 | false=>
  have e:(GReq.mk r.write r.addr r.size r.burst false []:GReq)={r with data_:=[]}:=by cases r;simp at hk;simp[hk]
  rw[if_neg (show ¬false=true by simp),List.nil_append,e]
  have fin:Xh x {r with data_:=[]} (r.data_.map decB) false=some (r,true):=by
   unfold Xh W5
   rw[if_neg (by simp)]
   exact loop _ rfl
  by_cases h0:r.data_=[]
  ·rw[if_neg (by rw[h0];simp)]
   exact fin
  ·obtain⟨a,l,e1,e2⟩:=Zmv h0
   have j0:idx (r.data_.map decB) 0=some (decB a):=by rw[e1];rfl
   rw[if_pos (by have:=List.length_pos_iff.2 h0;simp;omega),j0,Option.bind_some,show ((decB a).toList == (strL [108,111,99,107]).toList)=false by rw[Xv,Zk];exact decide_eq_false e2]
   exact fin
theorem Zmk {x:ByteArray} {r:GReq} (h:Zmm x r) (hx:x.size≤1048576):Jr x=some (r,true):=by
 obtain⟨hg,ht⟩:=h
 obtain⟨ws,h1,h2⟩:=Zcn (x:=x) 32 (by omega)
 rw[Zn1 ht] at h2
 have hws:=Zjp h2
 obtain⟨v1,v2,v3,v4⟩:=Ze4 hg
 have hfew:=Zei hg
 have hnums:r.nums:=⟨⟨by omega,by omega⟩,fun v hv=>by have:=v4 v hv;exact⟨by omega,by omega⟩⟩
 have i3:idx ws 3=some (decB r.addr):=by rw[hws];rfl
 have j2:∀r0:GReq,r0.write=r.write→r0.size=r.size→r0.burst=r.burst→r0.lock=r.lock→Xw x r0 ws (r.data_.map decB)=some (r,true):=fun r0 e1 e2 e3 e4=>by
  unfold Xw
  have e:({r0 with addr:=r.addr,data_:=r.data_}:GReq)=r:=by cases r0;cases r;simp at e1 e2 e3 e4;simp[e1,e2,e3,e4]
  rw[i3,Option.bind_some,Zly ⟨by omega,by omega⟩ (by omega),Option.bind_some,Zda (by omega) (fun v hv=>by have:=v4 v hv;omega),Option.bind_some,if_neg (by simp),if_neg (by simp),e]
  obtain⟨q,q1,_,q3⟩:=Zie (x:=x) (r:=r) (Zq3 hg) hnums
  rw[q1,q3 ⟨hg,ht⟩]
 have s4:Z7 ws 4 (ws.length:Int)=some ((ws.drop 4).take (ws.length - 4)):=Yv (a:=4) (by rw[hws];simp) (Nat.le_refl _)
 have hd:(ws.drop 4).take (ws.length - 4)=(if r.lock=true then [strL [108,111,99,107]] else [])++r.data_.map decB:=by
  rw[List.take_of_length_le (by simp),hws];rfl
 rw[hd] at s4
 have i0:idx ws 0=some (strL (Wl r.write)):=by rw[hws];rfl
 have i1:idx ws 1=some (Qw r.size):=by rw[hws];rfl
 have i2:idx ws 2=some (Wb r.burst):=by rw[hws];rfl
 have f1:=(Zn5 hg).2
 have f2:=(Zmy hg).2
 have g1:Qy=some Xl:=rfl
 have g2:Qn=some Yj:=rfl
 unfold Jr
 rw[h1,Option.bind_some,if_neg (by rw[hws];simp;omega),i0,Option.bind_some,g1,Option.bind_some,i1,Option.bind_some,f1,Option.bind_some,g2,Option.bind_some,i2,Option.bind_some,f2,Option.bind_some,s4,Option.bind_some,Zq6]
 cases hk:r.lock with
 | true=>
  have j0:idx ((if true=true then [strL [108,111,99,107]] else [])++r.data_.map decB) 0=some (strL [108,111,99,107]):=rfl
  have js:Z7 ((if true=true then [strL [108,111,99,107]] else [])++r.data_.map decB) 1 (((if true=true then [strL [108,111,99,107]] else [])++r.data_.map decB).length:Int)=some (r.data_.map decB):=by
   have:=Yv (xs:=(if true=true then [strL [108,111,99,107]] else [])++r.data_.map decB) (a:=1) (b:=((if true=true then [strL [108,111,99,107]] else [])++r.data_.map decB).length) (by simp) (Nat.le_refl _)
   refine this.trans (congrArg some ?_)
   rw[List.take_of_length_le (by simp)]
   rfl
  rw[if_pos (by simp),j0,Option.bind_some,show ((strL [108,111,99,107]).toList == (strL [108,111,99,107]).toList)=true from beq_self_eq_true _]
  unfold Xi
  rw[if_pos rfl,js,Option.bind_some]
  exact j2 _ rfl rfl rfl hk.symm
 | false=>
  rw[if_neg (show ¬false=true by simp),List.nil_append]
  have fin:Xi x (GReq.mk r.write 0 r.size r.burst false []) ws (r.data_.map decB) false=some (r,true):=by
   unfold Xi
   rw[if_neg (by simp)]
   exact j2 _ rfl rfl rfl hk.symm
  by_cases h0:r.data_=[]
  ·rw[if_neg (by rw[h0];simp)]
   exact fin
  ·obtain⟨a,l,e1,e2⟩:=Zmv h0
   have j0:idx (r.data_.map decB) 0=some (decB a):=by rw[e1];rfl
   rw[if_pos (by have:=List.length_pos_iff.2 h0;simp;omega),j0,Option.bind_some,show ((decB a).toList == (strL [108,111,99,107]).toList)=false by rw[Xv,Zk];exact decide_eq_false e2]
   exact fin
inductive SItem where
 | w (l:List Int)
 | s (l:List Int)
 | p (q:GPost)
 | e
def SItem.words:SItem→List (List UInt8)
 | .w l=>[119,97,105,116,115]::l.map Lib.itoa
 | .s l=>[115,97,121,115]::l.map Lib.itoa
 | .p q=>[112,111,115,116]::Lib.itoa q.at_::Lib.itoa q.who::Zbf q.req
 | .e=>[[]]
def SItem.line (i:SItem):List UInt8:=Lib.join i.words [32]
def SItem.ok:SItem→Prop
 | .w l=>l.length < 1048577∧∀v∈l,In18 v
 | .s l=>l.length < 1048577∧∀v∈l,In18 v
 | .p q=>In18 q.at_∧In18 q.who∧reqG q.req=true
 | .e=>True
def SItem.app (z:GScript):SItem→GScript
 | .w l=>{z with waits:=l}
 | .s l=>{z with says:=l}
 | .p q=>{z with posts:=z.posts++[q]}
 | .e=>z
theorem Zn8 (i:SItem):∀w∈i.words,∀y∈w,y≠32∧y≠10:=by
 have hi:∀(v:Int) (y:UInt8),y∈Lib.itoa v→y≠32∧y≠10:=fun v y h=>⟨Zha h (.inl rfl),Zha h (.inr (.inr rfl))⟩
 have h1:∀y∈([119,97,105,116,115]:List UInt8),y≠32∧y≠10:=by decide
 have h2:∀y∈([115,97,121,115]:List UInt8),y≠32∧y≠10:=by decide
 have h3:∀y∈([112,111,115,116]:List UInt8),y≠32∧y≠10:=by decide
 intro w hw y hy
 cases i with
 | w l=>
  rcases List.mem_cons.1 hw with rfl|hw
  ·exact h1 y hy
  ·obtain⟨v,_,rfl⟩:=List.mem_map.1 hw;exact hi v y hy
 | s l=>
  rcases List.mem_cons.1 hw with rfl|hw
  ·exact h2 y hy
  ·obtain⟨v,_,rfl⟩:=List.mem_map.1 hw;exact hi v y hy
 | p q=>
  rcases List.mem_cons.1 hw with rfl|hw
  ·exact h3 y hy
  ·rcases List.mem_cons.1 hw with rfl|hw
   ·exact hi _ y hy
   ·rcases List.mem_cons.1 hw with rfl|hw
    ·exact hi _ y hy
    ·exact Zoh w hw y hy
 | e=>simp[SItem.words] at hw;subst hw;simp at hy
theorem Zxr (i:SItem):i.words≠[]:=by cases i<;>simp[SItem.words]
theorem Zln (i:SItem):Zu 32 i.line=i.words:=Zgh (Zxr i) fun w hw y hy=>(Zn8 i w hw y hy).1
theorem Zxk {c:UInt8}:∀{ws:List (List UInt8)},(∀w∈ws,∀y∈w,y≠c)→c≠32→∀y∈Lib.join ws [32],y≠c:=by
 intro ws
 induction ws with
 | nil=>intro _ _ y hy;simp[Lib.join_nil] at hy
 | cons w r ih=>
  intro h hc y hy
  rw[Lib.join_cons] at hy
  rcases List.mem_append.1 hy with hy|hy
  ·exact h w List.mem_cons_self y hy
  ·unfold Lib.joinTail at hy
   obtain⟨u,hu,hy⟩:=List.mem_flatten.1 hy
   obtain⟨v,hv,rfl⟩:=List.mem_map.1 hu
   rcases List.mem_append.1 hy with hy|hy
   ·rw[List.mem_singleton.1 hy];exact fun e=>hc e.symm
   ·exact h v (List.mem_cons_of_mem _ hv) y hy
theorem Zxe (i:SItem):∀y∈i.line,y≠10:=Zxk (fun w hw y hy=>(Zn8 i w hw y hy).2) (by decide)
theorem Zow (w:List UInt8) (l:List Int):Lib.join (w::l.map Lib.itoa) [32]=w++Z1 l:=by
 rw[Lib.join_cons]
 unfold Lib.joinTail Z1
 rw[List.map_map,List.flatMap_def]
 rfl
theorem w_line (l:List Int):(SItem.w l).line=[119,97,105,116,115]++Z1 l:=Zow _ l
theorem s_line (l:List Int):(SItem.s l).line=[115,97,121,115]++Z1 l:=Zow _ l
theorem Zvv (q:GPost):(SItem.p q).line=[112,111,115,116,32]++Lib.itoa q.at_++[32]++Lib.itoa q.who++[32]++reqT q.req:=by
 have e:reqT q.req=Lib.join (Zbf q.req) [32]:=Zi7 _
 unfold SItem.line SItem.words
 rw[e]
 obtain⟨a,l,h⟩:∃a l,Zbf q.req=a::l:=⟨_,_,rfl⟩
 rw[h,Lib.join_cons,Lib.join_cons]
 simp[Lib.joinTail,h]
def scrT (z:GScript):List UInt8:=L8 (Wi z)++z.posts.flatMap W7
def Zc7 (z:GScript):List SItem:=(if z.waits=[] then [] else [.w z.waits])++((if z.says=[] then [] else [.s z.says])++z.posts.map .p)
theorem Zm1 (z:GScript):scrT z=((Zc7 z).map SItem.line).flatMap (·++[10]):=by
 have h1:∀(w:List UInt8) (l:List Int) (i:SItem),i.line=w++Z1 l→W3 w l=(((if l=[] then [] else [i]):List SItem).map SItem.line).flatMap (·++[10]):=fun w l i hi=>by
  unfold W3
  split
  ·rfl
  ·simp[hi]
 have h2:∀ps:List GPost,ps.flatMap W7=((ps.map SItem.p).map SItem.line).flatMap (·++[10]):=fun ps=>by
  induction ps with
  | nil=>rfl
  | cons p ps ih=>
   rw[List.flatMap_cons,ih,List.map_cons,List.map_cons,List.flatMap_cons,Zvv]
   unfold W7
   simp
 unfold scrT Zc7 Wi
 rw[Y5,Yb (W3 _ z.waits),Yb (W3 _ z.says),List.map_append,List.map_append,List.flatMap_append,List.flatMap_append,←h1 _ _ _ (w_line z.waits),←h1 _ _ _ (s_line z.says),←h2,List.append_assoc]
theorem Zut:∀(ps:List GPost) (z:GScript),(ps.map SItem.p).foldl SItem.app z={z with posts:=z.posts++ps}:=by
 intro ps
 induction ps with
 | nil=>intro z;simp
 | cons p ps ih=>
  intro z
  rw[List.map_cons,List.foldl_cons,ih]
  show ({z with posts:=(z.posts++[p])++ps}:GScript)=_
  rw[List.append_assoc];rfl
theorem Zhk (z:GScript):(Zc7 z).foldl SItem.app GScript.z0=z:=by
 unfold Zc7
 rw[List.foldl_append,List.foldl_append,Zut]
 obtain⟨ps,w,s⟩:=z
 by_cases hw:w=[]
 ·by_cases hs:s=[]
  ·simp[hw,hs]
  ·simp[hw,hs,SItem.app]
 ·by_cases hs:s=[]
  ·simp[hw,hs,SItem.app]
  ·simp[hw,hs,SItem.app]
structure IsScr (x:ByteArray) (z:GScript):Prop where
 reqs:∀p∈z.posts,In18 p.at_∧In18 p.who∧reqG p.req=true
 few:z.posts.length < 1048600
 w:z.waits.length < 1048577∧∀v∈z.waits,In18 v
 s:z.says.length < 1048577∧∀v∈z.says,In18 v
 text:L8 x=scrT z
def Zdo (x:ByteArray) (r:GScript×Bool):Prop:=r=(GScript.z0,false)∨(r.2=true∧IsScr x r.1)
theorem Zqm {x:ByteArray} {z:GScript} (h:IsScr x z):∀i∈Zc7 z,i.ok:=by
 intro i hi
 unfold Zc7 at hi
 rcases List.mem_append.1 hi with hi|hi
 ·split at hi
  ·simp at hi
  ·rw[List.mem_singleton.1 hi];exact h.w
 ·rcases List.mem_append.1 hi with hi|hi
  ·split at hi
   ·simp at hi
   ·rw[List.mem_singleton.1 hi];exact h.s
  ·obtain⟨p,hp,rfl⟩:=List.mem_map.1 hi;exact h.reqs p hp
theorem Zq4 {c:UInt8}:∀{ls:List (List UInt8)},(∀w∈ls,∀y∈w,y≠c)→Zu c (ls.flatMap (·++[c]))=ls++[[]]:=by
 intro ls
 induction ls with
 | nil=>intro _;rfl
 | cons w r ih=>
  intro h
  rw[List.flatMap_cons,List.append_assoc,List.singleton_append,Zhm (h w List.mem_cons_self),ih fun u hu=>h u (List.mem_cons_of_mem _ hu)]
  rfl
theorem Zuc {c:UInt8}:∀{ls:List (List UInt8)},ls≠[]→ls.flatMap (·++[c])=Lib.join ls [c]++[c]:=by
 intro ls
 induction ls with
 | nil=>intro h;exact absurd rfl h
 | cons w r ih=>
  intro _
  cases r with
  | nil=>simp[Lib.join_one]
  | cons v r=>
   rw[List.flatMap_cons,ih (by simp),Lib.join_cons,Lib.join_cons]
   simp[Lib.joinTail]
theorem Zx6 (a:List UInt8) (c:UInt8):Lib.trimSuffix (a++[c]) [c]=a:=by
 unfold Lib.trimSuffix
 rw[if_pos (by simp[Lib.hasSuffix,List.isSuffixOf,List.isPrefixOf])]
 simp
theorem Xk (a:ByteArray) (l:List UInt8) (w:List UInt8) (h:L8 a=l):(a.toList == (strL w).toList)=decide (l=w):=by rw[Xv,Zk,h]
def Z4:SItem→List ByteArray
 | .w l=>strL [119,97,105,116,115]::l.map decB
 | .s l=>strL [115,97,121,115]::l.map decB
 | .p q=>strL [112,111,115,116]::decB q.at_::decB q.who::([strL (Wl q.req.write),Qw q.req.size,Wb q.req.burst,decB q.req.addr]++((if q.req.lock=true then [strL [108,111,99,107]] else [])++q.req.data_.map decB))
 | .e=>[ByteArray.empty]
theorem Zra:∀{a b:List ByteArray},a.map L8=b.map L8→a=b:=by
 intro a
 induction a with
 | nil=>intro b h;cases b with
  | nil=>rfl
  | cons y b=>simp at h
 | cons x a ih=>intro b h;cases b with
  | nil=>simp at h
  | cons y b=>
   simp only[List.map_cons,List.cons.injEq] at h ⊢
   exact⟨Wy h.1,ih h.2⟩
theorem Zq5 (l:List Int):(l.map decB).map L8=l.map Lib.itoa:=by rw[List.map_map];rfl
theorem Zml {ws:List ByteArray} {i:SItem} (h:ws.map L8=i.words):ws=Z4 i:=by
 cases i with
 | w l=>exact Zra (h.trans (by unfold Z4 SItem.words;rw[List.map_cons,Zq5,Zk]))
 | s l=>exact Zra (h.trans (by unfold Z4 SItem.words;rw[List.map_cons,Zq5,Zk]))
 | p q=>
  unfold SItem.words at h
  cases ws with
  | nil=>simp at h
  | cons a ws=>cases ws with
   | nil=>simp at h
   | cons b ws=>cases ws with
    | nil=>simp at h
    | cons c ws=>
     simp only[List.map_cons,List.cons.injEq] at h
     obtain⟨h1,h2,h3,h4⟩:=h
     unfold Z4
     rw[Zjp h4,Wy (a:=a) (b:=strL [112,111,115,116]) h1,Wy (a:=b) (b:=decB q.at_) h2,Wy (a:=c) (b:=decB q.who) h3]
 | e=>exact Zra (h.trans rfl)
theorem Zxc (r:GReq):Lib.join (([strL (Wl r.write),Qw r.size,Wb r.burst,decB r.addr]++((if r.lock=true then [strL [108,111,99,107]] else [])++r.data_.map decB)).map L8) [32]=reqT r:=by
 rw[Zi7]
 congr 1
 unfold Zbf
 cases r.lock<;>simp[Zk,Ya,List.map_map,Function.comp_def]
theorem Zl6 {α:Type} (a:α) (l:List α):Z7 (a::l) 1 ((a::l).length:Int)=some l:=by
 have:=Yv (xs:=a::l) (a:=1) (b:=(a::l).length) (by simp) (Nat.le_refl _)
 refine this.trans (congrArg some ?_)
 simp
theorem Zj2 {q:GPost} (h:In18 q.at_∧In18 q.who∧reqG q.req=true):q.nums∧q.req.sm:=by
 obtain⟨_,_,v3,v4⟩:=Ze4 h.2.2
 exact⟨⟨h.1.r,h.2.1.r,⟨⟨by omega,by omega⟩,fun v hv=>by have:=v4 v hv;exact⟨by omega,by omega⟩⟩⟩,Zq3 h.2.2⟩
theorem i_step {x:ByteArray} {κ:GScript→List ByteArray→Int→Int→Option (GScript×Bool)} {z:GScript} {vs:List ByteArray} {n:Nat} {j:Nat} (hj:j < vs.length) (hn:n=vs.length) {i:SItem} (hi:L8 vs[j]=i.line) (hz:vs[j].size≤1048576) (ok:i.ok) (hp:z.posts.length≤1048600):
  Y3 x κ z vs (n:Int) (j:Int)=κ (SItem.app z i) vs (n:Int) (addW (j:Int) 1):=by
 subst hn
 obtain⟨ws,h1,h2⟩:=Zcn (x:=vs[j]) 32 (by omega)
 rw[hi,Zln] at h2
 have hb:=Zml h2
 unfold Y3
 rw[if_pos (by simpa using hj),Zi hj,Option.bind_some,h1,Option.bind_some,hb]
 cases i with
 | w l=>
  have e0:idx (Z4 (.w l)) 0=some (strL [119,97,105,116,115]):=rfl
  rw[e0,Option.bind_some,Xk _ _ _ (Zk _),if_neg (by decide)]
  unfold Yl
  rw[if_neg (by simp),e0,Option.bind_some,Xk _ _ _ (Zk _),if_pos (by decide)]
  unfold Y7 Z4
  rw[if_pos rfl,Zl6,Option.bind_some,Zda (by have:=ok.1;omega) ok.2,Option.bind_some,if_neg (by simp)]
  show (idx (Z4 (.w l)) 0).bind _=_
  rw[e0,Option.bind_some,Xk _ _ _ (Zk _),if_pos (by decide)]
  rfl
 | s l=>
  have e0:idx (Z4 (.s l)) 0=some (strL [115,97,121,115]):=rfl
  rw[e0,Option.bind_some,Xk _ _ _ (Zk _),if_neg (by decide)]
  unfold Yl
  rw[if_neg (by simp),e0,Option.bind_some,Xk _ _ _ (Zk _),if_neg (by decide),Xk _ _ _ (Zk _),show decide (([115,97,121,115]:List UInt8)=[115,97,121,115])=true by decide]
  unfold Y7 Z4
  rw[if_pos rfl,Zl6,Option.bind_some,Zda (by have:=ok.1;omega) ok.2,Option.bind_some,if_neg (by simp)]
  show (idx (Z4 (.s l)) 0).bind _=_
  rw[e0,Option.bind_some,Xk _ _ _ (Zk _),if_neg (by decide)]
  rfl
 | p q=>
  obtain⟨o1,o2,o3⟩:=ok
  have e0:idx (Z4 (.p q)) 0=some (strL [112,111,115,116]):=rfl
  rw[e0,Option.bind_some,Xk _ _ _ (Zk _),if_pos (by decide)]
  have hlen:7≤(Z4 (.p q)).length:=by unfold Z4;simp
  rw[show decide (((Z4 (.p q)).length:Int) > 3)=true from decide_eq_true (by omega)]
  have s13:Z7 (Z4 (.p q)) 1 3=some ([q.at_,q.who].map decB):=by
   have:=Yv (xs:=Z4 (.p q)) (a:=1) (b:=3) (by omega) (by omega)
   exact this
  have s3:Z7 (Z4 (.p q)) 3 ((Z4 (.p q)).length:Int)=some ((Z4 (.p q)).drop 3):=by
   have:=Yv (xs:=Z4 (.p q)) (a:=3) (b:=(Z4 (.p q)).length) (by omega) (Nat.le_refl _)
   refine this.trans (congrArg some ?_)
   rw[List.take_of_length_le (by simp)]
  have hfew:=Zei o3
  have hT:=Zg3 o3 (Zj2 ⟨o1,o2,o3⟩).1.2.2
  have hjn:Lib.join (((Z4 (.p q)).drop 3).map L8) (L8 (strL [32]))=reqT q.req:=by
   rw[Zk];exact Zxc q.req
  have hjl:((Z4 (.p q)).drop 3).length≤1000000000:=by
   show (([strL (Wl q.req.write),Qw q.req.size,Wb q.req.burst,decB q.req.addr]++((if q.req.lock=true then [strL [108,111,99,107]] else [])++q.req.data_.map decB))).length≤_
   cases q.req.lock<;>simp<;>omega
  unfold Yl
  rw[if_pos rfl,s13,Option.bind_some,Zda (by simp) (by
   intro v hv
   simp only[List.mem_cons,List.not_mem_nil,or_false] at hv
   rcases hv with rfl|rfl
   ·exact o1
   ·exact o2),Option.bind_some,s3,Option.bind_some,Zgy hjl (by rw[hjn];omega),Option.bind_some,hjn,Zmk (x:=⟨(reqT q.req).toArray⟩) ⟨o3,rfl⟩ (by rw[Zh,Yb (reqT q.req)];omega),Option.bind_some,if_neg (by simp)]
  unfold Wq
  have j0:idx [q.at_,q.who] 0=some q.at_:=rfl
  have j1:idx [q.at_,q.who] 1=some q.who:=rfl
  simp only[Bool.not_true,Bool.false_eq_true,if_false,j0,j1,Option.bind_some]
  rw[Xc (by simp;omega) (by simp;omega),Option.bind_some]
  rfl
 | e=>
  have e0:idx (Z4 .e) 0=some ByteArray.empty:=rfl
  rw[e0,Option.bind_some,Xk _ [] _ Qq,if_neg (by decide)]
  unfold Yl
  rw[if_neg (by simp),e0,Option.bind_some,Xk _ [] _ Qq,if_neg (by decide),Xk _ [] _ Qq,show decide (([]:List UInt8)=[115,97,121,115])=false by decide]
  rfl
theorem add3 {a b c:Nat} (h:a+b+c < 1000000000000000000):addW (addW (addW (a:Int) (b:Int)) (c:Int)) 3=((a+b+c+3:Nat):Int):=by
 have e1:addW (a:Int) (b:Int)=((a+b:Nat):Int):=by rw[Yr (by omega) (by omega)];omega
 have e2:addW ((a+b:Nat):Int) (c:Int)=((a+b+c:Nat):Int):=by rw[Yr (by omega) (by omega)];omega
 rw[e1,e2,Yr (by omega) (by omega)];omega
theorem s_step {x:ByteArray} {κ:GScript→List ByteArray→Int→Option (GScript×Bool)} {z:GScript} {vs:List ByteArray} {j:Nat} (hj:j < vs.length) {i:SItem} (hi:L8 vs[j]=i.line) (hz:vs[j].size≤1048576) (ok:i.ok) (hp:z.posts.length≤1048600):
  Y4 x κ z vs (j:Int)=κ (SItem.app z i) vs (addW (j:Int) 1):=by
 obtain⟨ws,h1,h2⟩:=Zcx (x:=vs[j]) 32 (by omega)
 have h1:X4 vs[j] 32=some ws:=h1
 rw[hi,Zln] at h2
 have hb:=Zml h2
 unfold Y4
 rw[if_pos (by simpa using hj),Zi hj,Option.bind_some,h1,Option.bind_some,hb]
 cases i with
 | w l=>
  have e0:idx (Z4 (.w l)) 0=some (strL [119,97,105,116,115]):=rfl
  rw[e0,Option.bind_some,Xk _ _ _ (Zk _),if_pos (by decide)]
  unfold Z4
  rw[Zl6,Option.bind_some,Zf8 (by have:=ok.1;omega) ok.2,Option.bind_some]
  rfl
 | s l=>
  have e0:idx (Z4 (.s l)) 0=some (strL [115,97,121,115]):=rfl
  rw[e0,Option.bind_some,Xk _ _ _ (Zk _),if_neg (by decide),Xk _ _ _ (Zk _),if_pos (by decide)]
  unfold Z4
  rw[Zl6,Option.bind_some,Zf8 (by have:=ok.1;omega) ok.2,Option.bind_some]
  rfl
 | p q=>
  obtain⟨o1,o2,o3⟩:=ok
  have e0:idx (Z4 (.p q)) 0=some (strL [112,111,115,116]):=rfl
  have e1:idx (Z4 (.p q)) 1=some (decB q.at_):=rfl
  have e2:idx (Z4 (.p q)) 2=some (decB q.who):=rfl
  have hlen:7≤(Z4 (.p q)).length:=by unfold Z4;simp
  have s13:Z7 (Z4 (.p q)) 1 3=some ([q.at_,q.who].map decB):=by
   have:=Yv (xs:=Z4 (.p q)) (a:=1) (b:=3) (by omega) (by omega)
   exact this
  have hT:=Zg3 o3 (Zj2 ⟨o1,o2,o3⟩).1.2.2
  have z1:=Qi o1.r
  have z2:=Qi o2.r
  rw[e0,Option.bind_some,Xk _ _ _ (Zk _),if_neg (by decide),Xk _ _ _ (Zk _),if_neg (by decide),if_pos (decide_eq_true (by omega)),s13,Option.bind_some,Zf8 (by simp) (by
   intro v hv
   simp only[List.mem_cons,List.not_mem_nil,or_false] at hv
   rcases hv with rfl|rfl
   ·exact o1
   ·exact o2),Option.bind_some,e1,Option.bind_some,e2,Option.bind_some]
  have z0:(strL [112,111,115,116]).size=4:=Zs _
  have hcut:addW (addW (addW ((strL [112,111,115,116]).size:Int) ((decB q.at_).size:Int)) ((decB q.who).size:Int)) 3=((7+(decB q.at_).size+(decB q.who).size:Nat):Int):=by
   rw[add3 (by omega)];omega
  have hl8:L8 vs[j]=([112,111,115,116,32]++Lib.itoa q.at_++[32]++Lib.itoa q.who++[32])++reqT q.req:=by rw[hi,Zvv]
  have hpre:([112,111,115,116,32]++Lib.itoa q.at_++[32]++Lib.itoa q.who++[32]:List UInt8).length=7+(decB q.at_).size+(decB q.who).size:=by
   rw[Zh,Zh,Ya,Ya]
   simp only[List.length_append,List.length_cons,List.length_nil];omega
  have hsz:vs[j].size=7+(decB q.at_).size+(decB q.who).size+(reqT q.req).length:=by rw[Zh,hl8,List.length_append,hpre]
  have hmin:minI ((vs[j].size:Nat):Int) (addW (addW (addW ((strL [112,111,115,116]).size:Int) ((decB q.at_).size:Int)) ((decB q.who).size:Int)) 3)=((7+(decB q.at_).size+(decB q.who).size:Nat):Int):=by
   rw[hcut];unfold minI
   split<;>omega
  obtain⟨y,y1,y2⟩:=Zbn (x:=vs[j]) (a:=7+(decB q.at_).size+(decB q.who).size) (b:=vs[j].size) (by omega) (by rw[Zh];exact Nat.le_refl _)
  have hy:L8 y=reqT q.req:=by
   rw[y2,hl8,←hpre,List.drop_left,hsz,hpre,List.take_of_length_le (by omega)]
  have j0:idx [q.at_,q.who] 0=some q.at_:=rfl
  have j1:idx [q.at_,q.who] 1=some q.who:=rfl
  rw[hmin,y1,Option.bind_some,Zlj (x:=y) ⟨o3,hy⟩ (by rw[Zh,hy];omega),Option.bind_some,j0,Option.bind_some,j1,Option.bind_some,Xc (by simp;omega) (by simp;omega),Option.bind_some]
  rfl
 | e=>
  have e0:idx (Z4 .e) 0=some ByteArray.empty:=rfl
  rw[e0,Option.bind_some,Xk _ [] _ Qq,if_neg (by decide),Xk _ [] _ Qq,if_neg (by decide),if_neg (by decide)]
  rfl
structure SInv (x:ByteArray) (z:GScript) (j:Nat):Prop where
 few:z.posts.length≤j
 posts:∀p∈z.posts,In18 p.at_∧In18 p.who∧(reqG p.req=true∨p.req=GReq.z0)
 w:z.waits.length < 1048577∧∀v∈z.waits,In18 v
 s:z.says.length < 1048577∧∀v∈z.says,In18 v
 ne:z.posts≠[]→L8 x≠[]
theorem SInv.n {x:ByteArray} {z:GScript} {j:Nat} (h:SInv x z j) (hj:j≤1048577):ScrN z:=by
 refine⟨by have:=h.few;omega,h.w.1,h.s.1,fun p hp=>?_,fun v hv=>(h.w.2 v hv).r,fun v hv=>(h.s.2 v hv).r⟩
 obtain⟨a,b,c⟩:=h.posts p hp
 rcases c with c|c
 ·exact Zj2 ⟨a,b,c⟩
 ·refine⟨⟨a.r,b.r,?_⟩,?_⟩
  ·rw[c];exact⟨⟨by decide,by decide⟩,fun v hv=>by simp at hv⟩
  ·rw[c];show ([]:List Int).length < _;simp
theorem Zkg {x:ByteArray} {z:GScript} {j:Nat} (h:SInv x z j) (hj:j≤1048577):∃r,(if (!((X7 (Wi z) z.posts).toList == x.toList))=true then some (GScript.z0,false) else some (z,true))=some r∧Zdo x r∧(IsScr x z→r=(z,true)):=by
 rw[Xv]
 unfold X7
 by_cases hall:z.posts.all (fun p=>reqG p.req)=true
 ·rw[if_pos hall,Yb (L8 (Wi z)++z.posts.flatMap W7),show L8 (Wi z)++z.posts.flatMap W7=scrT z from rfl]
  have hall':∀p∈z.posts,reqG p.req=true:=by simpa using hall
  by_cases he:scrT z=L8 x
  ·rw[decide_eq_true he,if_neg (by simp)]
   exact⟨_,rfl,.inr ⟨rfl,⟨fun p hp=>⟨(h.posts p hp).1,(h.posts p hp).2.1,hall' p hp⟩,by have:=h.few;show z.posts.length < _;omega,h.w,h.s,he.symm⟩⟩,fun _=>rfl⟩
  ·rw[decide_eq_false he,if_pos (by simp)]
   exact⟨_,rfl,.inl rfl,fun hh=>absurd hh.text.symm he⟩
 ·have hne:z.posts≠[]:=fun e=>hall (by rw[e];rfl)
  have hx:=h.ne hne
  rw[if_neg hall,Qq,decide_eq_false (fun e=>hx e.symm),if_pos (by simp)]
  exact⟨_,rfl,.inl rfl,fun hh=>absurd (by rw[List.all_eq_true];exact fun p hp=>(hh.reqs p hp).2.2) hall⟩
theorem Zno {x:ByteArray} {z:GScript} (h:IsScr x z):SInv x z z.posts.length:=by
 refine⟨Nat.le_refl _,fun p hp=>⟨(h.reqs p hp).1,(h.reqs p hp).2.1,.inl (h.reqs p hp).2.2⟩,h.w,h.s,fun hne he=>?_⟩
 have:=h.text
 rw[he] at this
 unfold scrT at this
 cases hp:z.posts with
 | nil=>exact hne hp
 | cons p ps=>
  rw[hp,List.flatMap_cons] at this
  have:=congrArg List.length this
  unfold W7 at this
  simp at this
theorem Zor (z:GScript) (i:SItem):(SItem.app z i).posts.length≤z.posts.length+1:=by cases i<;>simp[SItem.app]
theorem Ziu {vs:List ByteArray} {its:List SItem} (h:vs.map L8=its.map SItem.line) {j:Nat} (hj:j < vs.length):∃hi:j < its.length,L8 vs[j]=its[j].line:=by
 have hl:vs.length=its.length:=by simpa using congrArg List.length h
 refine⟨by omega,?_⟩
 have h1:(vs.map L8)[j]?=(its.map SItem.line)[j]?:=by rw[h]
 rw[List.getElem?_map,List.getElem?_map,List.getElem?_eq_getElem hj,List.getElem?_eq_getElem (by omega)] at h1
 simpa using h1
theorem Zd1 {x:ByteArray} {z:GScript} (hz:IsScr x z) (hzl:z.posts.length≤1048577) {vs:List ByteArray} {its:List SItem} (h:vs.map L8=its.map SItem.line) (hs:∀v∈vs,v.size≤1048576) (ok:∀i∈its,i.ok) (hl:vs.length≤1048577):∀(m j:Nat) (y:GScript),j≤vs.length→vs.length - j < m→y.posts.length≤j→(its.drop j).foldl SItem.app y=z→
  Ym x m y vs (vs.length:Int) (j:Int)=some (z,true):=by
 have hil:vs.length=its.length:=by simpa using congrArg List.length h
 intro m
 induction m with
 | zero=>intro j y _ h;omega
 | succ m ih=>
  intro j y hj hm hy hf
  show Y3 x (Ym x m) y vs (vs.length:Int) (j:Int)=some (z,true)
  by_cases hc:j < vs.length
  ·obtain⟨hi,hv⟩:=Ziu h hc
   rw[i_step hc rfl hv (hs _ (List.getElem_mem hc)) (ok _ (List.getElem_mem hi)) (by omega),Z9 (by omega)]
   refine ih (j+1) _ (by omega) (by omega) (by have:=Zor y its[j];omega) ?_
   rw[List.drop_eq_getElem_cons hi,List.foldl_cons] at hf
   exact hf
  ·rw[List.drop_eq_nil_of_le (by omega)] at hf
   have hf:y=z:=hf
   subst hf
   unfold Y3
   have hinv:=Zno hz
   rw[if_neg (by simpa using hc),J3 (hinv.n hzl),Option.bind_some]
   obtain⟨r,e1,_,e3⟩:=Zkg hinv hzl
   rw[e1,e3 hz]
theorem Zki {x:ByteArray} {z:GScript} (hz:IsScr x z) (hzl:z.posts.length≤1048577) {vs:List ByteArray} {its:List SItem} (h:vs.map L8=its.map SItem.line) (hs:∀v∈vs,v.size≤1048576) (ok:∀i∈its,i.ok) (hl:vs.length≤1048577):∀(m j:Nat) (y:GScript),j≤vs.length→vs.length - j < m→y.posts.length≤j→(its.drop j).foldl SItem.app y=z→
  Y8 x m y vs (j:Int)=some (z,true):=by
 have hil:vs.length=its.length:=by simpa using congrArg List.length h
 intro m
 induction m with
 | zero=>intro j y _ h;omega
 | succ m ih=>
  intro j y hj hm hy hf
  show Y4 x (Y8 x m) y vs (j:Int)=some (z,true)
  by_cases hc:j < vs.length
  ·obtain⟨hi,hv⟩:=Ziu h hc
   rw[s_step hc hv (hs _ (List.getElem_mem hc)) (ok _ (List.getElem_mem hi)) (by omega),Z9 (by omega)]
   refine ih (j+1) _ (by omega) (by omega) (by have:=Zor y its[j];omega) ?_
   rw[List.drop_eq_getElem_cons hi,List.foldl_cons] at hf
   exact hf
  ·rw[List.drop_eq_nil_of_le (by omega)] at hf
   have hf:y=z:=hf
   subst hf
   unfold Y4
   have hinv:=Zno hz
   rw[if_neg (by simpa using hc),J2 (hinv.n hzl),Option.bind_some]
   obtain⟨r,e1,_,e3⟩:=Zkg hinv hzl
   rw[e1,e3 hz]
theorem Znt {x:ByteArray} {z:GScript} (h:IsScr x z) (hx:x.size≤1048576):z.posts.length≤1048576:=by
 have hf:∀ps:List GPost,ps.length≤(ps.flatMap W7).length:=fun ps=>by
  induction ps with
  | nil=>simp
  | cons p ps ih=>
   rw[List.flatMap_cons,List.length_append,List.length_cons]
   have:1≤(W7 p).length:=by unfold W7;simp
   omega
 have h1:=congrArg List.length h.text
 rw[←Zh] at h1
 unfold scrT at h1
 rw[List.length_append] at h1
 have:=hf z.posts
 omega
theorem Zod {z:GScript}:∀w∈(Zc7 z).map SItem.line,∀y∈w,y≠10:=by
 intro w hw y hy
 obtain⟨i,_,rfl⟩:=List.mem_map.1 hw
 exact Zxe i y hy
theorem Zis {x:ByteArray} {z:GScript} (h:IsScr x z) (hx:x.size≤1048576):Wf x=some (z,true):=by
 have hfew:=Znt h hx
 obtain⟨vs,h1,h2⟩:=Zcx (x:=x) 10 (by omega)
 have h1:X4 x 10=some vs:=h1
 have hlen:=K1 h2
 have hz:∀v∈vs,v.size≤1048576:=fun v hv=>by have:=Wo h2 hv;omega
 have hm:vs.map L8=(Zc7 z++[SItem.e]).map SItem.line:=by
  rw[h2,h.text,Zm1,Zq4 Zod,List.map_append];rfl
 unfold Wf
 rw[h1,Option.bind_some]
 refine Zki h (by omega) hm hz (fun i hi=>?_) (by omega) FU 0 GScript.z0 (Nat.zero_le _) (by have:=Yk;omega) (by simp) ?_
 ·rcases List.mem_append.1 hi with hi|hi
  ·exact Zqm h i hi
  ·rw[List.mem_singleton.1 hi];trivial
 ·rw[List.drop_zero,List.foldl_append,Zhk];rfl
theorem Zdn {x:ByteArray} {z:GScript} (h:IsScr x z) (hx:x.size≤1048576):Xr x=some (z,true):=by
 have hfew:=Znt h hx
 have ht:∃y,Yz x (strL [10])=some y∧L8 y=Lib.trimSuffix (L8 x) [10]:=by
  unfold Yz
  rw[if_pos (by omega)]
  exact⟨_,rfl,rfl⟩
 obtain⟨y,t1,t2⟩:=ht
 have hy:y.size≤x.size:=by rw[Zh,t2,Zh];exact Lib.trimSuffix_le _ _
 obtain⟨vs,h1,h2⟩:=Zcn (x:=y) 10 (by omega)
 have hlen:=K1 h2
 have hz:∀v∈vs,v.size≤1048576:=fun v hv=>by have:=Wo h2 hv;omega
 unfold Xr
 rw[t1,Option.bind_some,h1,Option.bind_some]
 rw[h.text,Zm1] at t2
 by_cases he:Zc7 z=[]
 ·have hm:vs.map L8=[SItem.e].map SItem.line:=by
   rw[h2,t2,he];rfl
  refine Zd1 h (by omega) hm hz (fun i hi=>by rw[List.mem_singleton.1 hi];trivial) (by omega) FU 0 GScript.z0 (Nat.zero_le _) (by have:=Yk;omega) (by simp) ?_
  have:=Zhk z
  rw[he] at this
  exact this
 ·have hm:vs.map L8=(Zc7 z).map SItem.line:=by
   rw[h2,t2,Zuc (by simpa using he),Zx6,Zgh (by simpa using he) Zod]
  refine Zd1 h (by omega) hm hz (Zqm h) (by omega) FU 0 GScript.z0 (Nat.zero_le _) (by have:=Yk;omega) (by simp) ?_
  rw[List.drop_zero,Zhk]
theorem Zf0 (a:List UInt8) (l:List (List UInt8)):Lib.lens (a::l)=a.length+Lib.lens l:=by simp[Lib.lens]
theorem Zsh (c:UInt8):∀l:List UInt8,Lib.lens (Zu c l)+(Zu c l).length=l.length+1:=by
 intro l
 induction l with
 | nil=>rfl
 | cons x l ih=>
  unfold Zu
  split
  ·rw[Zf0,List.length_cons,List.length_cons];simp;omega
  ·split
   ·rename_i h;exact absurd h (Zip c l)
   ·rename_i w r h
    rw[h,Zf0,List.length_cons] at ih
    rw[Zf0,List.length_cons,List.length_cons,List.length_cons];omega
theorem Zve:∀(k:Nat) (l:List (List UInt8)),Lib.lens (l.drop k)≤Lib.lens l:=by
 intro k
 induction k with
 | zero=>intro l;simp
 | succ k ih=>
  intro l
  cases l with
  | nil=>simp
  | cons a l=>rw[List.drop_succ_cons,Zf0];have:=ih l;omega
theorem Zwg {c:UInt8} {l:List UInt8} {k:Nat} (h:k < (Zu c l).length):(Lib.join ((Zu c l).drop k) [32]).length≤l.length:=by
 have h1:=Zsh c l
 have h2:=Zve k (Zu c l)
 cases hd:(Zu c l).drop k with
 | nil=>
  have:=congrArg List.length hd
  simp at this;omega
 | cons a r=>
  have hr:r.length+1=(Zu c l).length - k:=by
   have:=congrArg List.length hd
   simp at this;omega
  rw[Lib.join_length]
  rw[hd] at h2
  simp;omega
theorem Zqh {x:ByteArray} {z:GScript} {j:Nat} (h:SInv x z j) {p:GPost} (hp:In18 p.at_∧In18 p.who∧(reqG p.req=true∨p.req=GReq.z0)) (hx:L8 x≠[]):SInv x {z with posts:=z.posts++[p]} (j+1):=by
 refine⟨by have:=h.few;simp;omega,fun q hq=>?_,h.w,h.s,fun _=>hx⟩
 rcases List.mem_append.1 hq with hq|hq
 ·exact h.posts q hq
 ·rw[List.mem_singleton.1 hq];exact hp
theorem SInv.next {x:ByteArray} {z:GScript} {j:Nat} (h:SInv x z j):SInv x z (j+1):={h with few:=by have:=h.few;omega}
theorem SInv.waits {x:ByteArray} {z:GScript} {j:Nat} (h:SInv x z j) {l:List Int} (hl:l.length < 1048577∧∀v∈l,In18 v):SInv x {z with waits:=l} (j+1):={h with few:=by have:=h.few;show z.posts.length≤_;omega,w:=hl}
theorem SInv.says {x:ByteArray} {z:GScript} {j:Nat} (h:SInv x z j) {l:List Int} (hl:l.length < 1048577∧∀v∈l,In18 v):SInv x {z with says:=l} (j+1):={h with few:=by have:=h.few;show z.posts.length≤_;omega,s:=hl}
theorem Zrm (x:ByteArray):SInv x GScript.z0 0:=⟨by simp,fun p hp=>by simp at hp,⟨by simp,fun v hv=>by simp at hv⟩,⟨by simp,fun v hv=>by simp at hv⟩,fun h=>absurd rfl h⟩
theorem Zok {x a:ByteArray} {c:UInt8} {vs ws:List ByteArray} (h:vs.map L8=Zu c (L8 x)) (ha:a∈vs) (h2:ws.map L8=Zu 32 (L8 a)) (hw:2≤ws.length):L8 x≠[]:=fun e=>by
 have h1:=Wo h ha
 have h3:x.size=0:=by rw[Zh,e];rfl
 have h4:L8 a=[]:=by
  have:(L8 a).length=0:=by rw[←Zh];omega
  exact List.eq_nil_of_length_eq_zero this
 exact Zgw h2 hw h4
theorem Zjw {x:ByteArray} (hx:x.size≤1048576):∃r,Wf x=some r∧Zdo x r:=by
 obtain⟨vs,h1,h2⟩:=Zcx (x:=x) 10 (by omega)
 have h1:X4 x 10=some vs:=h1
 have hlen:=K1 h2
 have key:∀(m j:Nat) (z:GScript),j≤vs.length→vs.length - j < m→SInv x z j→∃r,Y8 x m z vs (j:Int)=some r∧Zdo x r:=by
  intro m
  induction m with
  | zero=>intro j z _ h;omega
  | succ m ih=>
   intro j z hj hm hz
   show ∃r,Y4 x (Y8 x m) z vs (j:Int)=some r∧_
   unfold Y4
   by_cases hc:j < vs.length
   ·have hmem:=List.getElem_mem hc
    have hsz:=Wo h2 hmem
    obtain⟨ws,w1,w2⟩:=Zcx (x:=vs[j]) 32 (by omega)
    have w1:X4 vs[j] 32=some ws:=w1
    have hw:=K1 w2
    have i0:idx ws 0=some ws[0]:=Zi (k:=0) (by omega)
    have s1:Z7 ws 1 (ws.length:Int)=some ((ws.drop 1).take (ws.length - 1)):=Yv (a:=1) (by omega) (Nat.le_refl _)
    rw[if_pos (by simpa using hc),Zi hc,Option.bind_some,w1,Option.bind_some,i0,Option.bind_some,Z9 (by omega)]
    obtain⟨l,l1,l2,l3⟩:=Zic (ws:=(ws.drop 1).take (ws.length - 1)) (by simp;omega)
    have hl:l.length < 1048577:=by rw[l2];simp;omega
    split
    ·rw[s1,Option.bind_some,l1,Option.bind_some]
     exact ih (j+1) _ (by omega) (by omega) (hz.waits ⟨hl,l3⟩)
    ·split
     ·rw[s1,Option.bind_some,l1,Option.bind_some]
      exact ih (j+1) _ (by omega) (by omega) (hz.says ⟨hl,l3⟩)
     ·split
      ·rename_i h3
       have h3:ws.length > 3:=by have:=of_decide_eq_true h3;omega
       have s13:Z7 ws 1 3=some ((ws.drop 1).take (3 - 1)):=Yv (a:=1) (b:=3) (by omega) (by omega)
       obtain⟨d,d1,d2,d3⟩:=Zic (ws:=(ws.drop 1).take (3 - 1)) (by simp;omega)
       have hd:d.length=2:=by rw[d2];simp;omega
       have i1:idx ws 1=some ws[1]:=Zi (k:=1) (by omega)
       have i2:idx ws 2=some ws[2]:=Zi (k:=2) (by omega)
       have z0:=Wo w2 (List.getElem_mem (l:=ws) (n:=0) (by omega))
       have z1:=Wo w2 (List.getElem_mem (l:=ws) (n:=1) (by omega))
       have z2:=Wo w2 (List.getElem_mem (l:=ws) (n:=2) (by omega))
       have hmn:∃k:Nat,k≤vs[j].size∧minI ((vs[j].size:Nat):Int) (addW (addW (addW ((ws[0]'(by omega)).size:Int) ((ws[1]'(by omega)).size:Int)) ((ws[2]'(by omega)).size:Int)) 3)=(k:Int):=by
        rw[add3 (by omega)]
        unfold minI
        split
        ·exact⟨(ws[0]'(by omega)).size+(ws[1]'(by omega)).size+(ws[2]'(by omega)).size+3,by omega,by omega⟩
        ·exact⟨vs[j].size,Nat.le_refl _,rfl⟩
       obtain⟨k,k1,k2⟩:=hmn
       obtain⟨y,y1,y2⟩:=Zbn (x:=vs[j]) (a:=k) (b:=vs[j].size) k1 (by rw[Zh];exact Nat.le_refl _)
       have hy:y.size≤1048576:=by
        rw[Zh,y2,List.length_take,List.length_drop,←Zh];omega
       obtain⟨q,q1,q2⟩:=Zlv hy
       have j0:idx d 0=some d[0]:=Zi (k:=0) (by omega)
       have j1:idx d 1=some d[1]:=Zi (k:=1) (by omega)
       have hfew:=hz.few
       rw[s13,Option.bind_some,d1,Option.bind_some,i1,Option.bind_some,i2,Option.bind_some,k2,y1,Option.bind_some,q1,Option.bind_some,j0,Option.bind_some,j1,Option.bind_some,Xc (by simp;omega) (by simp;omega),Option.bind_some]
       refine ih (j+1) _ (by omega) (by omega) (Zqh hz (p:=⟨d[0],d[1],q.1⟩) ⟨d3 _ (List.getElem_mem _),d3 _ (List.getElem_mem _),?_⟩ (Zok h2 hmem w2 (by omega)))
       rcases q2 with rfl|⟨_,q3⟩
       ·exact .inr rfl
       ·exact .inl q3.1
      ·exact ih (j+1) _ (by omega) (by omega) hz.next
   ·rw[if_neg (by simpa using hc),J2 (hz.n (by omega)),Option.bind_some]
    obtain⟨r,e1,e2,_⟩:=Zkg hz (by omega)
    exact⟨r,e1,e2⟩
 unfold Wf
 rw[h1,Option.bind_some]
 exact key FU 0 _ (Nat.zero_le _) (by have:=Yk;omega) (Zrm x)
theorem Zdi {x:ByteArray} (hx:x.size≤1048576):∃r,Xr x=some r∧Zdo x r:=by
 have ht:∃y,Yz x (strL [10])=some y∧L8 y=Lib.trimSuffix (L8 x) [10]:=by
  unfold Yz
  rw[if_pos (by omega)]
  exact⟨_,rfl,rfl⟩
 obtain⟨y,t1,t2⟩:=ht
 have hy:y.size≤x.size:=by rw[Zh,t2,Zh];exact Lib.trimSuffix_le _ _
 obtain⟨vs,h1,h2⟩:=Zcn (x:=y) 10 (by omega)
 have hlen:=K1 h2
 have hxy:L8 y≠[]→L8 x≠[]:=fun h e=>by
  have:x.size=0:=by rw[Zh,e];rfl
  have:(L8 y).length=0:=by rw[←Zh];omega
  exact h (List.eq_nil_of_length_eq_zero this)
 have key:∀(m j:Nat) (z:GScript),j≤vs.length→vs.length - j < m→SInv x z j→∃r,Ym x m z vs (vs.length:Int) (j:Int)=some r∧Zdo x r:=by
  intro m
  induction m with
  | zero=>intro j z _ h;omega
  | succ m ih=>
   intro j z hj hm hz
   show ∃r,Y3 x (Ym x m) z vs (vs.length:Int) (j:Int)=some r∧_
   unfold Y3
   by_cases hc:j < vs.length
   ·have hmem:=List.getElem_mem hc
    have hsz:=Wo h2 hmem
    obtain⟨ws,w1,w2⟩:=Zcn (x:=vs[j]) 32 (by omega)
    have hw:=K1 w2
    have hwz:∀w∈ws,w.size≤281474976710656:=fun w hw'=>by have:=Wo w2 hw';omega
    have i0:idx ws 0=some ws[0]:=Zi (k:=0) (by omega)
    have s1:Z7 ws 1 (ws.length:Int)=some ((ws.drop 1).take (ws.length - 1)):=Yv (a:=1) (by omega) (Nat.le_refl _)
    rw[if_pos (by simpa using hc),Zi hc,Option.bind_some,w1,Option.bind_some,i0,Option.bind_some]
    have j4:∀b:Bool,∃r,Y7 x (Ym x m) z ws vs (vs.length:Int) (j:Int) b=some r∧Zdo x r:=fun b=>by
     unfold Y7
     rw[Z9 (by omega)]
     split
     ·obtain⟨l,l1,l2,l3,_⟩:=Zcb (ws:=(ws.drop 1).take (ws.length - 1)) (by simp;omega) fun w hw'=>hwz w (List.mem_of_mem_drop (List.mem_of_mem_take hw'))
      have hl:l.1.length < 1048577:=by simp at l3;omega
      rw[s1,Option.bind_some,l1,Option.bind_some]
      split
      ·exact⟨_,rfl,.inl rfl⟩
      ·rw[i0,Option.bind_some]
       split
       ·exact ih (j+1) _ (by omega) (by omega) (hz.waits ⟨hl,l2⟩)
       ·exact ih (j+1) _ (by omega) (by omega) (hz.says ⟨hl,l2⟩)
     ·exact ih (j+1) _ (by omega) (by omega) hz.next
    have j2:∀b:Bool,(b=true→3 < ws.length)→∃r,Yl x (Ym x m) z ws vs (vs.length:Int) (j:Int) b=some r∧Zdo x r:=fun b hb=>by
     unfold Yl
     split
     ·rename_i hbt
      have h3:=hb hbt
      have s13:Z7 ws 1 3=some ((ws.drop 1).take (3 - 1)):=Yv (a:=1) (b:=3) (by omega) (by omega)
      have s3:Z7 ws 3 (ws.length:Int)=some ((ws.drop 3).take (ws.length - 3)):=Yv (a:=3) (by omega) (Nat.le_refl _)
      have ht3:(ws.drop 3).take (ws.length - 3)=ws.drop 3:=List.take_of_length_le (by simp)
      obtain⟨d,d1,d2,_,d4⟩:=Zcb (ws:=(ws.drop 1).take (3 - 1)) (by simp;omega) fun w hw'=>hwz w (List.mem_of_mem_drop (List.mem_of_mem_take hw'))
      have hjn:(Lib.join ((ws.drop 3).map L8) (L8 (strL [32]))).length≤1048576:=by
       rw[Zk,List.map_drop,w2]
       have:=Zwg (c:=32) (l:=L8 vs[j]) (k:=3) (by rw[←w2];simpa using h3)
       rw[←Zh] at this
       omega
      obtain⟨q,q1,q2⟩:=Zl3 (x:=⟨(Lib.join ((ws.drop 3).map L8) (L8 (strL [32]))).toArray⟩) (by rw[Zh,Yb (Lib.join _ _)];exact hjn)
      rw[s13,Option.bind_some,d1,Option.bind_some,s3,Option.bind_some,ht3,Zgy (by simp;omega) (by omega),Option.bind_some,q1,Option.bind_some]
      unfold Wq
      rw[Z9 (by omega)]
      by_cases hd:d.2=true
      ·rw[if_neg (by simp[hd])]
       by_cases hq:q.2=true
       ·have hdl:d.1.length=2:=by rw[d4 hd];simp;omega
        have j0:idx d.1 0=some d.1[0]:=Zi (k:=0) (by omega)
        have j1:idx d.1 1=some d.1[1]:=Zi (k:=1) (by omega)
        have hfew:=hz.few
        rw[if_neg (by simp[hq]),j0,Option.bind_some,j1,Option.bind_some,Xc (by simp;omega) (by simp;omega),Option.bind_some]
        refine ih (j+1) _ (by omega) (by omega) (Zqh hz (p:=⟨d.1[0],d.1[1],q.1⟩) ⟨d2 _ (List.getElem_mem _),d2 _ (List.getElem_mem _),?_⟩ (hxy (Zok h2 hmem w2 (by omega))))
        rcases q2 with rfl|⟨_,q3⟩
        ·exact .inr rfl
        ·exact .inl q3.1
       ·rw[if_pos (by simp[hq])]
        exact⟨_,rfl,.inl rfl⟩
      ·rw[if_pos (by simp[hd]),if_pos rfl]
       exact⟨_,rfl,.inl rfl⟩
     ·rw[i0,Option.bind_some]
      split
      ·exact j4 true
      ·exact j4 _
    split
    ·exact j2 _ fun h=>by have:=of_decide_eq_true h;omega
    ·exact j2 false fun h=>by cases h
   ·rw[if_neg (by simpa using hc),J3 (hz.n (by omega)),Option.bind_some]
    obtain⟨r,e1,e2,_⟩:=Zkg hz (by omega)
    exact⟨r,e1,e2⟩
 unfold Xr
 rw[t1,Option.bind_some,h1,Option.bind_some]
 exact key FU 0 _ (Nat.zero_le _) (by have:=Yk;omega) (Zrm x)
theorem Zls {x:ByteArray} (hx:x.size≤1048576):∃r,Wf x=some r∧Xr x=some r∧Zdo x r:=by
 obtain⟨r,h1,h2⟩:=Zjw hx
 obtain⟨q,h3,h4⟩:=Zdi hx
 refine⟨r,h1,?_,h2⟩
 rcases h2 with rfl|⟨hr,hc⟩
 ·rcases h4 with rfl|⟨hq,hd⟩
  ·exact h3
  ·rw[Zis hd hx] at h1
   injection h1 with h1
   injection h1 with _ h1
   cases h1
 ·rw[Zdn hc hx]
  obtain⟨r1,r2⟩:=r
  simp only at hr
  rw[hr]
theorem Zp1 (a:Int):InR (IntKind.i64.wrap a):=by
 unfold InR
 simp[IntKind.wrap,IntKind.bits,IntKind.signed]
 constructor<;>omega
def Zb1 (c:GConf):Int:=if (0≤c.maxRetry∧c.maxRetry≤3)∧(0≤c.maxWait∧c.maxWait≤3) then (c.maxRetry+2)*(c.maxWait+6) else 0
def Zj5 (c:GConf):Int:=if Zb1 c=0 then 0 else if 1≤c.lockMost∧c.lockMost≤40 then 2*Zb1 c+c.lockMost else 0
def Zv0 (c:GConf):Nat:=c.masters.countP (·.prio)
def Zio (c:GConf) (m:GMConf):Bool:=decide (1≤m.weight∧m.weight≤4)&&if m.prio then decide (2*Zj5 c*Zv0 c≤m.every∧m.every≤1000)&&decide (1≤m.cap∧m.cap≤8) else decide (m.every=0)&&decide (m.cap=0)
def Zkd (c:GConf):Bool:=decide (1≤(c.masters.length:Int)∧(c.masters.length:Int)≤4)&&decide (1≤c.quantum∧c.quantum≤4)&&decide (1≤c.maxSplit∧c.maxSplit≤12)&&decide (Zj5 c≠0)&&c.masters.all (Zio c)
theorem Zqp (c:GConf):0≤Zb1 c∧Zb1 c≤45:=by
 unfold Zb1
 split
 ·rename_i h
  obtain⟨⟨h1,h2⟩,h3,h4⟩:=h
  generalize c.maxRetry=a at*
  generalize c.maxWait=b at*
  have:a=0∨a=1∨a=2∨a=3:=by omega
  rcases this with rfl|rfl|rfl|rfl<;>omega
 ·omega
theorem Zsd (c:GConf):Zb7 c=some (Zb1 c):=by
 unfold Zb7
 rw[Zav,Option.bind_some,Zav,Option.bind_some]
 unfold Zau Zb1
 by_cases h1:0≤c.maxRetry∧c.maxRetry≤3
 ·by_cases h2:0≤c.maxWait∧c.maxWait≤3
  ·have:=Zqp c
   unfold Zb1 at this
   rw[if_pos ⟨h1,h2⟩] at this
   simp only[h1,h2,decide_true,Bool.not_true,Bool.false_eq_true,if_false,and_self,if_true]
   rw[Yr (by omega) (by omega),Yr (by omega) (by omega),Ql (by omega) (by omega)]
  ·simp[h1,h2]
 ·simp[h1]
theorem Zru (c:GConf):Zd7 c=some (Zj5 c):=by
 have:=Zqp c
 unfold Zd7 Zj5
 rw[Zsd,Option.bind_some,Zav,Option.bind_some,Option.bind_some]
 by_cases h0:Zb1 c=0
 ·simp[h0]
 ·by_cases h1:1≤c.lockMost∧c.lockMost≤40
  ·simp only[h0,h1,decide_true,decide_false,Bool.not_true,Bool.false_eq_true,if_false,and_self,if_true]
   rw[Ql (by omega) (by omega),Yr (by omega) (by omega)]
  ·simp[h0,h1]
theorem Zpt {c:GConf} (h:Zkd c=true):1≤(c.masters.length:Int)∧(c.masters.length:Int)≤4:=by
 simp only[Zkd,Bool.and_eq_true,decide_eq_true_eq] at h
 exact h.1.1.1.1
def So {β:Type} (e:Option β) (R:β→Prop):Prop:=∃b,e=some b∧R b
theorem So.bind {α β:Type} {e:Option α} {Q:α→Prop} {f:α→Option β} {R:β→Prop} (h:So e Q) (k:∀a,Q a→So (f a) R):So (e.bind f) R:=by
 obtain⟨a,rfl,q⟩:=h
 exact k a q
theorem So.ret {β:Type} {b:β} {R:β→Prop} (h:R b):So (some b) R:=⟨b,rfl,h⟩
theorem So.ite {β:Type} {c:Prop} [Decidable c] {x y:Option β} {R:β→Prop} (h1:c→So x R) (h2:¬c→So y R):So (if c then x else y) R:=by
 split
 ·exact h1 ‹_›
 ·exact h2 ‹_›
def Zn (c:GL1Cur):Prop:=0≤c.i∧c.i≤(c.b.length:Int)∧c.b.length < 4611686018427387904
theorem Zv7 (a:Int):0≤andW a 255∧andW a 255≤255:=by
 have h:((BitVec.ofInt IntKind.i64.bits a &&& BitVec.ofInt IntKind.i64.bits 255).toNat)≤255:=by
  rw[BitVec.toNat_and]
  have:(BitVec.ofInt IntKind.i64.bits 255).toNat=255:=by decide
  rw[this]
  exact Nat.and_le_right
 unfold andW
 generalize (BitVec.ofInt IntKind.i64.bits a &&& BitVec.ofInt IntKind.i64.bits 255).toNat=n at*
 rw[Zjk (by omega) (by omega)]
 omega
theorem Zbq {c:GL1Cur} (h:Zn c):∃r c',Xz c=some (r,c')∧Zn c'∧0≤r∧r≤255:=by
 obtain⟨h1,h2,h3⟩:=h
 unfold Xz
 by_cases hc:c.i < (c.b.length:Int)
 ·obtain⟨k,hk⟩:∃k:Nat,c.i=k:=⟨c.i.toNat,by omega⟩
  have hk2:k < c.b.length:=by omega
  rw[if_pos (by simpa using hc),hk,Zi hk2,Option.bind_some]
  refine⟨_,_,rfl,⟨?_,?_,h3⟩,Zv7 _⟩
  ·show 0≤addW (k:Int) 1
   rw[Z9 (by omega)];omega
  ·show addW (k:Int) 1≤_
   rw[Z9 (by omega)];show ((k+1:Nat):Int)≤(c.b.length:Int);omega
 ·rw[if_neg (by simpa using hc)]
  exact⟨_,_,rfl,⟨h1,h2,h3⟩,Zv7 _⟩
theorem Ztk {a n:Int} (h0:0≤a) (hn:0 < n):0≤remW a n∧remW a n < n:=by
 unfold remW
 rw[Int.tmod_eq_emod_of_nonneg h0]
 exact⟨Int.emod_nonneg _ (by omega),Int.emod_lt_of_pos _ hn⟩
theorem Zg8 {c:GL1Cur} (n:Int) (h:Zn c):∃r c',Zd c n=some (r,c')∧Zn c'∧0≤r∧(0 < n→r < n)∧(n≤0→r=0):=by
 unfold Zd
 by_cases h0:n≤0
 ·rw[if_pos (by simpa using h0)]
  exact⟨_,_,rfl,h,by omega,fun _=>by omega,fun _=>rfl⟩
 ·rw[if_neg (by simpa using h0)]
  by_cases h1:n≤256
  ·rw[if_pos (by simpa using h1)]
   obtain⟨r,c',hr,hc,h2,h3⟩:=Zbq h
   rw[hr,Option.bind_some,Zew (by omega),Option.bind_some]
   have:=Ztk h2 (by omega:0 < n)
   exact⟨_,_,rfl,hc,this.1,fun _=>this.2,fun _=>by omega⟩
  ·rw[if_neg (by simpa using h1)]
   obtain⟨r,c',hr,hc,h2,h3⟩:=Zbq h
   obtain⟨r2,c2,hr2,hc2,h22,h32⟩:=Zbq hc
   obtain⟨r3,c3,hr3,hc3,h23,h33⟩:=Zbq hc2
   obtain⟨r4,c4,hr4,hc4,h24,h34⟩:=Zbq hc3
   rw[hr,Option.bind_some,hr2,Option.bind_some,hr3,Option.bind_some,hr4,Option.bind_some,Zew (by omega),Option.bind_some]
   have e:addW (addW (addW (mulW r 16777216) (mulW r2 65536)) (mulW r3 256)) r4=r*16777216+r2*65536+r3*256+r4:=by
    rw[Ql (by omega) (by omega),Ql (by omega) (by omega),Ql (by omega) (by omega),Yr (a:=r*16777216) (by omega) (by omega),Yr (a:=r*16777216+r2*65536) (by omega) (by omega),Yr (by omega) (by omega)]
   have:=Ztk (by rw[e];omega:0≤addW (addW (addW (mulW r 16777216) (mulW r2 65536)) (mulW r3 256)) r4) (by omega:0 < n)
   exact⟨_,_,rfl,hc4,this.1,fun _=>this.2,fun _=>by omega⟩
theorem Zre (x:List Int) (hl:x.length < 1048577):∃c,Zdh x=some c∧Zn c:=by
 unfold Zdh
 have key:∀(m k:Nat) (v:Int),k≤x.length→x.length - k < m→∃c,Q0 x m v k=some c∧Zn c:=by
  intro m
  induction m with
  | zero=>intro k _ _ h;omega
  | succ m ih=>
   intro k v hk hm
   have e:Q0 x (m+1) v k=Zcr x (Q0 x m) v k:=rfl
   rw[e]
   unfold Zcr Zbc
   by_cases hc:k < x.length
   ·rw[if_pos (by simpa using hc)]
    by_cases h4:(k:Int) < 4000
    ·rw[if_pos (by simpa using h4),Zi hc,Option.bind_some,Z9 (by omega)]
     exact ih (k+1) _ (by omega) (by omega)
    ·rw[if_neg (by simpa using h4)]
     exact⟨_,rfl,by simp[Zn];omega⟩
   ·rw[if_neg (by simpa using hc)]
    exact⟨_,rfl,by simp[Zn];omega⟩
 exact key FU 0 _ (Nat.zero_le _) (by have:=Yk;omega)
theorem Zwf {c:GL1Cur} (n:Int) (h:Zn c):∃r c',Kd c n=some (r,c')∧Zn c':=by
 unfold Kd
 obtain⟨r,c',hr,hc,_⟩:=Zg8 n h
 rw[hr]
 exact⟨_,_,rfl,hc⟩
theorem Zvn {α:Type} {xs:List α} {i:Int} (h0:0≤i) (h1:i < (xs.length:Int)):∃a,idx xs i=some a∧a∈xs:=by
 obtain⟨k,rfl⟩:∃k:Nat,i=k:=⟨i.toNat,by omega⟩
 have hk:k < xs.length:=by omega
 exact⟨_,Zi hk,List.getElem_mem hk⟩
theorem Zqq {c:GL1Cur} (xs:List Int) (hx:xs≠[]) (h:Zn c):∃r c',Zt c xs=some (r,c')∧Zn c'∧r∈xs:=by
 unfold Zt
 obtain⟨r,c',hr,hc,h0,h1,_⟩:=Zg8 (xs.length:Int) h
 have hl:0 < xs.length:=List.length_pos_iff.2 hx
 obtain⟨a,ha,hm⟩:=Zvn h0 (h1 (by omega))
 rw[hr,Option.bind_some,ha]
 exact⟨_,_,rfl,hc,hm⟩
theorem Zq {c:GL1Cur} (n:Int) (h:Zn c):So (Zd c n) fun r=>Zn r.2∧0≤r.1∧(0 < n→r.1 < n)∧(n≤0→r.1=0):=by
 obtain⟨r,c',e,h1,h2,h3,h4⟩:=Zg8 n h
 exact⟨_,e,h1,h2,h3,h4⟩
theorem Zj4 {c:GL1Cur} (n:Int) (h:Zn c):So (Kd c n) fun r=>Zn r.2:=by
 obtain⟨r,c',e,h1⟩:=Zwf n h
 exact⟨_,e,h1⟩
theorem Q3 {c:GL1Cur} (xs:List Int) (hx:xs≠[]) (h:Zn c):So (Zt c xs) fun r=>Zn r.2∧r.1∈xs:=by
 obtain⟨r,c',e,h1,h2⟩:=Zqq xs hx h
 exact⟨_,e,h1,h2⟩
theorem Zgz {α:Type} {xs:List α} {i:Int} (h0:0≤i) (h1:i < (xs.length:Int)):So (idx xs i) fun a=>a∈xs:=Zvn h0 h1
theorem Zjf {α:Type} (xs:List α) (i:Int) (a:α):So (setO xs i a) fun r=>r=xs.set i.toNat a:=⟨_,rfl,rfl⟩
theorem Zg4 {α:Type} (sz:Nat) (hz:sz≤1024) (xs ys:List α) (h:xs.length+ys.length≤1048600):So (appI sz xs ys) fun r=>r=xs++ys:=by
 have hb:(xs.length+ys.length)*sz≤140737488355328:=Nat.le_trans (Nat.mul_le_mul h hz) (by decide)
 exact⟨_,Xc hb (by omega),rfl⟩
theorem Zoc {x0:GL1Cur} (h:Zn x0):So (Zcf x0) fun r=>Zn r.2∧Zkd r.1=true:=by
 unfold Zcf
 refine (Zq 3 h).bind fun r1 ⟨h1,a1,b1,_⟩=>?_
 refine (Zq 3 h1).bind fun r2 ⟨h2,a2,b2,_⟩=>?_
 refine (Zq 3 h2).bind fun r3 ⟨h3,a3,b3,_⟩=>?_
 refine (Zq 6 h3).bind fun r4 ⟨h4,a4,b4,_⟩=>?_
 refine (Zq 12 h4).bind fun r5 ⟨h5,a5,b5,_⟩=>?_
 refine (Zq 4 h5).bind fun r6 ⟨h6,a6,b6,_⟩=>?_
 have b1:=b1 (by omega)
 have b2:=b2 (by omega)
 have b3:=b3 (by omega)
 have b4:=b4 (by omega)
 have b5:=b5 (by omega)
 have b6:=b6 (by omega)
 rw[Yr (by omega) (by omega),Yr (by omega) (by omega),Yr (by omega) (by omega),Yr (by omega) (by omega)]
 generalize r1.1=q at*
 generalize r2.1=w at*
 generalize r3.1=e at*
 generalize r4.1=s at*
 generalize r5.1=l at*
 have hcost:∀ms,Zb1 (GConf.mk ms (1+q) w e (1+s) (1+l))=(e+2)*(w+6):=fun ms=>by
  unfold Zb1
  rw[if_pos (by simp only;omega)]
 have hcl:12≤(e+2)*(w+6)∧(e+2)*(w+6)≤32:=by
  obtain rfl|rfl|rfl:e=0∨e=1∨e=2:=by omega
  all_goals omega
 have hslot:∀ms,Zj5 (GConf.mk ms (1+q) w e (1+s) (1+l))=2*((e+2)*(w+6))+(1+l):=fun ms=>by
  unfold Zj5
  rw[hcost,if_neg (by omega),if_pos (by simp only;omega)]
 generalize (e+2)*(w+6)=cost at*
 have key:∀(m k:Nat) (c:GL1Cur) (ms:List GMConf),Zn c→k < m→1≤ms.length+k→ms.length+k≤4→(∀x∈ms,(1≤x.weight∧x.weight≤4)∧x.prio=false∧x.every=0∧x.cap=0)→So (Qo x0 m c (GConf.mk ms (1+q) w e (1+s) (1+l)) (k:Int)) fun r=>Zn r.2∧Zkd r.1=true:=by
  intro m
  induction m with
  | zero=>intro k _ _ _ h;omega
  | succ m ih=>
   intro k c ms hc hm hl1 hl2 hms
   have eL:Qo x0 (m+1) c (GConf.mk ms (1+q) w e (1+s) (1+l)) (k:Int)=Zb9 x0 (Qo x0 m) c (GConf.mk ms (1+q) w e (1+s) (1+l)) (k:Int):=rfl
   rw[eL]
   unfold Zb9
   cases k with
   | succ k=>
    rw[if_pos (by simp)]
    refine (Zq 3 hc).bind fun r1 ⟨h1,a1,b1,_⟩=>?_
    have b1:=b1 (by omega)
    refine (Zg4 32 (by decide) _ _ (by simp only[List.length_cons,List.length_nil];omega)).bind fun z hz=>?_
    rw[Jj (by omega) (by omega),show ((k+1:Nat):Int) - 1=(k:Int) by omega]
    subst hz
    refine ih k r1.2 _ h1 (by omega) (by simp;omega) (by simp;omega) fun x hx=>?_
    rw[List.mem_append,List.mem_singleton] at hx
    rcases hx with hx|rfl
    ·exact hms x hx
    ·refine⟨?_,rfl,rfl,rfl⟩
     show 1≤addW 1 r1.1∧addW 1 r1.1≤4
     rw[Yr (by omega) (by omega)]
     omega
   | zero=>
    have hgood:∀ys:List GMConf,ys.length=ms.length→(∀x∈ys,Zio (GConf.mk ys (1+q) w e (1+s) (1+l)) x=true)→Zkd (GConf.mk ys (1+q) w e (1+s) (1+l))=true:=by
     intro ys hy h
     unfold Zkd
     rw[hslot]
     simp only[Bool.and_eq_true,decide_eq_true_eq,List.all_eq_true]
     refine⟨⟨⟨⟨?_,?_⟩,?_⟩,?_⟩,h⟩<;>omega
    rw[if_neg (by simp)]
    refine (Zj4 2 hc).bind fun r1 h1=>?_
    refine So.ite (fun _=>?_) fun _=>So.ret ⟨h1,hgood ms rfl fun x hx=>?_⟩
    ·refine (Zq (ms.length:Int) h1).bind fun r2 ⟨h2,a2,b2,_⟩=>?_
     have b2:=b2 (by omega)
     obtain⟨k,hk⟩:∃k:Nat,r2.1=(k:Int):=⟨r2.1.toNat,by omega⟩
     simp only[hk] at a2 b2 ⊢
     have hk2:k < ms.length:=by omega
     rw[Zi hk2,Option.bind_some,Znz,Option.bind_some,Zru,Option.bind_some,hslot]
     refine (Zq 30 h2).bind fun r3 ⟨h3,a3,b3,_⟩=>?_
     have b3:=b3 (by omega)
     rw[Int.toNat_natCast,Zi (by simpa using hk2),Option.bind_some,Znz,Option.bind_some]
     refine (Zq 4 h3).bind fun r4 ⟨h4,a4,b4,_⟩=>?_
     have b4:=b4 (by omega)
     rw[Int.toNat_natCast,Zi (by simpa using hk2),Option.bind_some,Znz,Option.bind_some,Int.toNat_natCast]
     refine So.ret ⟨h4,?_⟩
     simp only[List.getElem_set_self,List.set_set]
     rw[Ql (by omega) (by omega),Yr (by omega) (by omega),Yr (by omega) (by omega)]
     have hx:=hms _ (List.getElem_mem hk2)
     have hp:List.countP (fun x:GMConf=>x.prio) (ms.set k (GMConf.mk ms[k].weight true (2*(2*cost+(1+l))+r3.1) (1+r4.1)))=1:=by
      have h0:List.countP (fun x:GMConf=>x.prio) ms=0:=List.countP_eq_zero.2 fun x hx=>by simp[(hms x hx).2.1]
      rw[List.countP_set hk2,h0]
      simp[hx.2.1]
     refine hgood _ (by simp) fun x hx2=>?_
     rcases List.mem_or_eq_of_mem_set hx2 with hx2|rfl
     ·have:=hms x hx2
      unfold Zio
      rw[this.2.1]
      simp[this.1,this.2.2]
     ·unfold Zio
      simp only[hslot]
      unfold Zv0
      rw[hp]
      simp only[if_true,Bool.and_eq_true,decide_eq_true_eq]
      refine⟨hx.1,⟨?_,?_⟩,?_⟩<;>omega
    ·have:=hms x hx
     unfold Zio
     rw[this.2.1]
     simp[this.1,this.2.2]
 rw[show (1:Int)+r6.1=((r6.1.toNat+1:Nat):Int) by omega]
 exact key FU (r6.1.toNat+1) r6.2 [] h6 (by have:=Yk;omega) (by simp) (by simp;omega) (by simp)
theorem Zxy {c:GL1Cur} (h:Zn c):So (Zfi c) fun r=>Zn r.2∧r.1.masters.length≤4:=by
 unfold Zfi
 refine (Zoc h).bind fun r1 ⟨h1,g1⟩=>?_
 have hl:=Zpt g1
 refine (Zq 14 h1).bind fun r2 ⟨h2,_⟩=>?_
 refine So.ite (fun _=>?_) fun _=>So.ite (fun _=>?_) fun _=>So.ite (fun _=>?_) fun _=>So.ite (fun _=>?_) fun _=>So.ite (fun _=>?_) fun _=>So.ite (fun _=>?_) fun _=>So.ite (fun _=>?_) fun _=>?_
 ·refine (Q3 _ (by simp) h2).bind fun r3 ⟨h3,_⟩=>?_
  refine (Zgz (by omega) (by omega)).bind fun a _=>?_
  refine (Zjf _ _ _).bind fun y hy=>So.ret ⟨h3,?_⟩
  subst hy
  simp;omega
 ·refine (Zgz (by omega) (by omega)).bind fun a _=>?_
  refine (Zjf _ _ _).bind fun y hy=>So.ret ⟨h2,?_⟩
  subst hy
  simp;omega
 ·exact (Q3 _ (by simp) h2).bind fun r3 ⟨h3,_⟩=>So.ret ⟨h3,by simp;omega⟩
 ·exact (Q3 _ (by simp) h2).bind fun r3 ⟨h3,_⟩=>So.ret ⟨h3,by simp;omega⟩
 ·exact (Q3 _ (by simp) h2).bind fun r3 ⟨h3,_⟩=>So.ret ⟨h3,by simp;omega⟩
 ·exact So.ret ⟨h2,by simp⟩
 ·exact (Q3 _ (by simp) h2).bind fun r3 ⟨h3,_⟩=>So.ret ⟨h3,by simp;omega⟩
 ·exact So.ret ⟨h2,by dsimp only;omega⟩
theorem Zqa {c:GL1Cur} (h:Zn c):So (Za1 c) fun r=>Zn r.2:=by
 unfold Za1
 exact (Zq 6 h).bind fun r1 ⟨h1,_⟩=>So.ret h1
theorem Zoj {c:GL1Cur} (n:Int) (hn:0 < n∧n≤1000) (h:Zn c):So (Jc c n) fun r=>Zn r.2∧r.1.length≤6∧∀x∈r.1,0≤x∧x < n:=by
 unfold Jc
 refine (Zq 6 h).bind fun r1 ⟨h1,a1,b1,_⟩=>?_
 have b1:=b1 (by omega)
 have key:∀(m k:Nat) (c1:GL1Cur) (l:List Int),Zn c1→k < m→l.length+k≤6→(∀x∈l,0≤x∧x < n)→So (Qm c n m c1 l (k:Int)) fun r=>Zn r.2∧r.1.length≤6∧∀x∈r.1,0≤x∧x < n:=by
  intro m
  induction m with
  | zero=>intro k _ _ _ h;omega
  | succ m ih=>
   intro k c1 l hc hm hl hx
   have eL:Qm c n (m+1) c1 l (k:Int)=Zch c n (Qm c n m) c1 l (k:Int):=rfl
   rw[eL]
   unfold Zch
   cases k with
   | zero=>rw[if_neg (by simp)];exact So.ret ⟨hc,by omega,hx⟩
   | succ k=>
    rw[if_pos (by simp)]
    refine (Zq n hc).bind fun r2 ⟨h2,a2,b2,_⟩=>?_
    refine (Zg4 8 (by decide) _ _ (by simp only[List.length_cons,List.length_nil];omega)).bind fun z hz=>?_
    rw[Jj (by omega) (by omega),show ((k+1:Nat):Int) - 1=(k:Int) by omega]
    subst hz
    refine ih k _ _ h2 (by omega) (by simp;omega) fun x hx2=>?_
    rw[List.mem_append,List.mem_singleton] at hx2
    rcases hx2 with hx2|rfl
    ·exact hx x hx2
    ·exact⟨a2,b2 (by omega)⟩
 have:=key FU r1.1.toNat r1.2 [] h1 (by have:=Yk;omega) (by simp;omega) (by simp)
 rwa [show ((r1.1.toNat:Nat):Int)=r1.1 by omega] at this
theorem Zvq (x0:GL1Cur) (c:GConf):∀(m:Nat) (c1:GL1Cur) (s:GScript) (v w:Int),X2 x0 c m c1 s v w=Y0 x0 c m c1 s v w:=by
 intro m
 induction m with
 | zero=>intros;rfl
 | succ m ih=>
  intro c1 s v w
  have e:X2 x0 c m=Y0 x0 c m:=by funext a b d e;exact ih a b d e
  show Zdq x0 c (X2 x0 c m) c1 s v w=Ko x0 c (Y0 x0 c m) c1 s v w
  rw[e]
  rfl
theorem Zus (x0:GL1Cur) (c:GConf):Za9 x0 c=Qs x0 c:=by
 unfold Za9 Qs
 simp only[Zvq]
theorem Zii {α:Type} (xs:List α):lenE xs xs=some ():=by
 unfold lenE
 simp
def ReqQ (r:GReq):Prop:=r.data_.length≤9∧r.nums
def Zuy (p:GPost):Prop:=ReqQ p.req∧(-1≤p.at_∧p.at_≤10000)∧(-1≤p.who∧p.who≤100)
structure ScrQ (s:GScript):Prop where
 posts:s.posts.length≤6
 reqs:∀p∈s.posts,Zuy p
 waits:s.waits.length≤6
 says:s.says.length≤6
 wmin:∀w∈s.waits,0≤w∧w < 5
 smin:∀w∈s.says,0≤w∧w < 5
theorem ScrQ.set {s:GScript} (h:ScrQ s) (i:Nat) (p:GPost) (hp:Zuy p):ScrQ {s with posts:=s.posts.set i p}:=
 ⟨by simpa using h.posts,fun q hq=>by
  rcases List.mem_or_eq_of_mem_set hq with hq|rfl
  ·exact h.reqs q hq
  ·exact hp,h.waits,h.says,h.wmin,h.smin⟩
theorem Zn6 {x0:GL1Cur} (h:Zn x0):So (Zbp x0) fun r=>Zn r.2∧r.1.data_.length≤8∧r.1.nums:=by
 unfold Zbp
 refine (Zj4 2 h).bind fun r1 h1=>?_
 refine (Q3 _ (by simp) h1).bind fun r2 ⟨h2,m2⟩=>?_
 refine (Q3 _ (by simp) h2).bind fun r3 ⟨h3,m3⟩=>?_
 refine (Zj4 6 h3).bind fun r4 h4=>?_
 rw[Kv,Option.bind_some]
 refine (Zq 128 h4).bind fun r5 ⟨h5,_⟩=>?_
 refine (Zq 128 h5).bind fun r6 ⟨h6,_⟩=>?_
 refine (Zq 64 h6).bind fun r7 ⟨h7,_⟩=>?_
 refine (Zq 40 h7).bind fun r8 ⟨h8,_⟩=>?_
 refine (Zq 512 h8).bind fun r9 ⟨h9,_⟩=>?_
 refine (Q3 _ (by simp) h9).bind fun r10 ⟨h10,_⟩=>?_
 have hb:0 < Yn r2.1:=by
  rw[Zjc]
  simp only[List.mem_cons,List.not_mem_nil,or_false] at m2
  omega
 rw[Zew (by omega),Option.bind_some,Zi8,Option.bind_some]
 have key:∀(g:GReq) (c:GL1Cur),Zn c→g.data_=[]→InR g.addr→So (Ji x0 c g) fun r=>Zn r.2∧r.1.data_.length≤8∧r.1.nums:=by
  intro g c hc hg ha
  unfold Ji
  have key2:∀(m k:Nat) (c:GL1Cur) (g:GReq),Zn c→k≤8→8 - k < m→g.data_.length=k→g.nums→So (Q2 x0 m c g (k:Int)) fun r=>Zn r.2∧r.1.data_.length≤8∧r.1.nums:=by
   intro m
   induction m with
   | zero=>intro k _ _ _ _ h;omega
   | succ m ih=>
    intro k c g hc hk hm hg hn
    have eL:Q2 x0 (m+1) c g (k:Int)=Zcu x0 (Q2 x0 m) c g (k:Int):=rfl
    rw[eL]
    unfold Zcu Zbg
    rw[Ks,Option.bind_some]
    have hbl:=K2 g.burst
    by_cases hlt:(k:Int) < Zz g.burst
    ·rw[if_pos (by simpa using hlt)]
     refine So.ite (fun _=>?_) fun _=>So.ret ⟨hc,by dsimp only;omega,hn⟩
     rw[Zel,Option.bind_some,Option.bind_some]
     have hlim:=Zfs g.size
     refine (Q3 _ (by simp) hc).bind fun r1 ⟨h1,m1⟩=>?_
     have hm1:r1.1≤4294967296:=by
      simp only[List.mem_cons,List.not_mem_nil,or_false] at m1
      unfold minI at m1
      rcases m1 with m1|m1
      ·split at m1<;>omega
      ·omega
     refine (Zq _ h1).bind fun r2 ⟨h2,a2,b2,c2⟩=>?_
     have hr2:InR r2.1:=by
      constructor
      ·omega
      ·by_cases h0:0 < r1.1
       ·have:=b2 h0;omega
       ·have:=c2 (by omega);omega
     refine (Zg4 8 (by decide) _ _ (by simp only[List.length_cons,List.length_nil];omega)).bind fun z hz=>?_
     rw[Z9 (by omega)]
     subst hz
     refine ih (k+1) _ _ h2 (by omega) (by omega) (by simp[hg]) ⟨hn.1,fun v hv=>?_⟩
     rcases List.mem_append.1 hv with hv|hv
     ·exact hn.2 v hv
     ·rw[List.mem_singleton.1 hv];exact hr2
    ·rw[if_neg (by simpa using hlt),if_neg (by simp)]
     exact So.ret ⟨hc,by dsimp only;omega,hn⟩
  have:=key2 FU 0 c g hc (by omega) (by have:=Yk;omega) (by simp[hg]) ⟨ha,fun v hv=>by rw[hg] at hv;simp at hv⟩
  simpa using this
 exact So.ite (fun _=>key _ _ h10 rfl (Zp1 _)) fun _=>key _ _ h10 rfl (Zp1 _)
theorem Zv1 {c:GL1Cur} (h:Zn c):So (Zbo c) fun r=>Zn r.2∧ReqQ r.1:=by
 unfold Zbo
 refine (Zn6 h).bind fun r1 ⟨h1,g1,n1⟩=>?_
 refine (Zq 12 h1).bind fun r2 ⟨h2,_⟩=>?_
 refine So.ite (fun _=>?_) fun _=>So.ite (fun _=>?_) fun _=>So.ite (fun _=>?_) fun _=>So.ite (fun _=>?_) fun _=>So.ite (fun _=>?_) fun _=>?_
 ·refine (Q3 _ (by simp) h2).bind fun r3 ⟨h3,m3⟩=>So.ret ⟨h3,by show r1.1.data_.length≤9;omega,?_,n1.2⟩
  simp only[List.mem_cons,List.not_mem_nil,or_false] at m3
  show InR r3.1
  constructor<;>omega
 ·exact So.ret ⟨h2,by show r1.1.data_.length≤9;omega,n1⟩
 ·exact (Zqa h2).bind fun r3 h3=>So.ret ⟨h3,by show r1.1.data_.length≤9;omega,n1⟩
 ·exact (Zqa h2).bind fun r3 h3=>So.ret ⟨h3,by show r1.1.data_.length≤9;omega,n1⟩
 ·refine (Zg4 8 (by decide) _ _ (by simp only[List.length_cons,List.length_nil];omega)).bind fun z hz=>So.ret ⟨h2,by subst hz;simp;omega,n1.1,fun v hv=>?_⟩
  subst hz
  rcases List.mem_append.1 hv with hv|hv
  ·exact n1.2 v hv
  ·rw[List.mem_singleton.1 hv];constructor<;>omega
 ·exact So.ret ⟨h2,by show r1.1.data_.length≤9;omega,n1⟩
theorem Zp4 {s:GScript} (hs:ScrQ s) {x0:GL1Cur} {c:GConf} (hcl:c.masters.length≤4) (k:GL1Cur→GScript→Int→Int→Option (GScript×GL1Cur×GConf)) {R:GScript×GL1Cur×GConf→Prop} {c1:GL1Cur} (v6 v7:Int) (h6:0≤v6∧v6≤1000) (b:Bool) (h1:Zn c1)
  (hk:b=true→∀c2 p v,Zn c2→Zuy p→0≤v→v≤v6+9→So (k c2 {s with posts:=s.posts++[p]} v (subW v7 1)) R) (hb:b=false→R (s,c1,c)):So (Qu x0 c k c1 s v6 v7 b) R:=by
 unfold Qu
 refine So.ite (fun e=>?_) fun e=>So.ret (hb (by simpa using e))
 refine (Q3 _ (by simp) h1).bind fun r2 ⟨h2,m2⟩=>?_
 have m2:0≤r2.1∧r2.1≤9:=by
  simp only[List.mem_cons,List.not_mem_nil,or_false] at m2
  omega
 refine (Zq _ h2).bind fun r3 ⟨h3,a3,b3,c3⟩=>?_
 have hw:r3.1≤100:=by
  by_cases h0:(0:Int) < (c.masters.length:Int)
  ·have:=b3 h0;omega
  ·have:=c3 (by omega);omega
 refine (Zn6 h3).bind fun r4 ⟨h4,g4,n4⟩=>?_
 have:=hs.posts
 rw[Yr (by omega) (by omega)]
 refine (Zg4 80 (by decide) _ _ (by simp only[List.length_cons,List.length_nil];omega)).bind fun z hz=>?_
 subst hz
 exact hk e _ _ _ h4 ⟨⟨by show r4.1.data_.length≤9;omega,n4⟩,by show -1≤v6+r2.1∧v6+r2.1≤10000;omega,by show -1≤r3.1∧r3.1≤100;omega⟩ (by omega) (by omega)
theorem Ze7 {x0:GL1Cur} (c:GConf) (hcl:c.masters.length≤4) (h:Zn x0):So (Qs x0 c) fun r=>ScrQ r.1∧Zn r.2.1∧r.2.2=c:=by
 unfold Qs
 refine (Zoj 5 (by omega) h).bind fun r1 ⟨h1,l1,m1⟩=>?_
 refine (Zoj 5 (by omega) h1).bind fun r2 ⟨h2,l2,m2⟩=>?_
 refine (Zq 6 h2).bind fun r3 ⟨h3,a3,b3,_⟩=>?_
 have b3:=b3 (by omega)
 have key:∀(m k:Nat) (c1:GL1Cur) (s:GScript) (v:Int),Zn c1→k < m→s.posts.length+k≤6→ScrQ s→(0≤v∧v+9*k≤100)→So (Y0 x0 c m c1 s v (k:Int)) fun r=>ScrQ r.1∧Zn r.2.1∧r.2.2=c:=by
  intro m
  induction m with
  | zero=>intro k _ _ _ _ h;omega
  | succ m ih=>
   intro k c1 s v hc hm hl hs hv
   have eL:Y0 x0 c (m+1) c1 s v (k:Int)=Ko x0 c (Y0 x0 c m) c1 s v (k:Int):=rfl
   rw[eL]
   unfold Ko
   cases k with
   | zero=>rw[if_neg (by simp)];exact Zp4 hs hcl _ _ _ (by omega) _ hc (fun e=>absurd e (by simp)) fun _=>⟨hs,hc,rfl⟩
   | succ k=>
    rw[if_pos (by simp)]
    refine Zp4 hs hcl _ _ _ (by omega) _ hc (fun e c2 p w h2 hp w0 w1=>?_) fun _=>⟨hs,hc,rfl⟩
    rw[Jj (by omega) (by omega),show ((k+1:Nat):Int) - 1=(k:Int) by omega]
    refine ih k c2 _ w h2 (by omega) (by simp;omega) ⟨by simp;omega,fun q hq=>?_,hs.waits,hs.says,hs.wmin,hs.smin⟩ (by omega)
    rw[List.mem_append,List.mem_singleton] at hq
    rcases hq with hq|rfl
    ·exact hs.reqs q hq
    ·exact hp
 have:=key FU r3.1.toNat r3.2 (GScript.mk [] r1.1 r2.1) 0 h3 (by have:=Yk;omega) (by simp;omega) ⟨by simp,fun p hp=>absurd hp (by simp),l1,l2,m1,m2⟩ (by omega)
 rwa [show ((r3.1.toNat:Nat):Int)=r3.1 by omega] at this
theorem Zn2 {c:GConf} {s:GScript} {c1:GL1Cur} (hs:ScrQ s) (h1:Zn c1) {R:GScript×GL1Cur×GConf→Prop} (f:GScript→GL1Cur→Option (GScript×GL1Cur×GConf)) (hf:∀s2 c2,ScrQ s2→Zn c2→So (f s2 c2) R):
  So (if decide ((s.posts.length:Int)=0)=true then f s c1 else
   (Zd c1 (s.posts.length:Int)).bind fun r404=>
   (Zd r404.2 14).bind fun r501=>
   if decide (r501.1=0)=true then (
    (Zt r501.2 [(-1),0,99,4001]).bind fun r705=>
    (idx s.posts r404.1).bind fun a706=>
    (setO s.posts r404.1 {a706 with at_:=r705.1}).bind fun y708=>
    f {s with posts:=y708} r705.2)
   else (
    if decide (r501.1=1)=true then (
     (Zd r501.2 6).bind fun r904=>
     (idx s.posts r404.1).bind fun a906=>
     (setO s.posts r404.1 {a906 with who:=(subW r904.1 1)}).bind fun y908=>
     f {s with posts:=y908} r904.2)
    else (
     if decide (r501.1=2)=true then (
      (Zbo r501.2).bind fun r1104=>
      (idx s.posts r404.1).bind fun a1105=>
      (setO s.posts r404.1 {a1105 with req:=r1104.1}).bind fun y1107=>
      f {s with posts:=y1107} r1104.2)
     else (
      f s r501.2)))) R:=by
 refine So.ite (fun _=>hf _ _ hs h1) fun h0=>?_
 have h0:¬((s.posts.length:Int)=0):=by simpa using h0
 refine (Zq _ h1).bind fun r2 ⟨h2,a2,b2,_⟩=>?_
 have b2:=b2 (by omega)
 refine (Zq 14 h2).bind fun r3 ⟨h3,_⟩=>?_
 refine So.ite (fun _=>?_) fun _=>So.ite (fun _=>?_) fun _=>So.ite (fun _=>?_) fun _=>hf _ _ hs h3
 ·refine (Q3 _ (by simp) h3).bind fun r4 ⟨h4,m4⟩=>?_
  refine (Zgz a2 b2).bind fun a ha=>?_
  refine (Zjf _ _ _).bind fun y hy=>?_
  subst hy
  have hq:=hs.reqs a ha
  refine hf _ _ (hs.set _ _ ⟨hq.1,?_,hq.2.2⟩) h4
  simp only[List.mem_cons,List.not_mem_nil,or_false] at m4
  show -1≤r4.1∧r4.1≤10000
  omega
 ·refine (Zq 6 h3).bind fun r4 ⟨h4,a4,b4,_⟩=>?_
  have b4:=b4 (by omega)
  refine (Zgz a2 b2).bind fun a ha=>?_
  refine (Zjf _ _ _).bind fun y hy=>?_
  subst hy
  have hq:=hs.reqs a ha
  refine hf _ _ (hs.set _ _ ⟨hq.1,hq.2.1,?_⟩) h4
  show -1≤subW r4.1 1∧subW r4.1 1≤100
  rw[Jj (by omega) (by omega)];omega
 ·refine (Zv1 h3).bind fun r4 ⟨h4,g4⟩=>?_
  refine (Zgz a2 b2).bind fun a ha=>?_
  refine (Zjf _ _ _).bind fun y hy=>?_
  subst hy
  have hq:=hs.reqs a ha
  exact hf _ _ (hs.set _ _ ⟨g4,hq.2⟩) h4
theorem Zvu {x0:GL1Cur} (c:GConf) (hcl:c.masters.length≤4) (h:Zn x0):So (Zbt x0 c) fun r=>ScrQ r.1∧Zn r.2.1∧r.2.2=c:=by
 unfold Zbt
 refine (Ze7 c hcl h).bind fun r1 ⟨g1,h1,e1⟩=>?_
 exact Zn2 (c:=c) g1 h1 (fun s c2=>some (s,c2,c)) fun s2 c2 p q=>So.ret ⟨p,q,rfl⟩
theorem Zuw {x0:GL1Cur} (c:GConf) (hcl:c.masters.length≤4) (h:Zn x0):So (Zaq x0 c) fun r=>ScrQ r.1∧Zn r.2.1∧r.2.2=c:=by
 unfold Zaq
 have key:∀(s:GScript) (c1:GL1Cur),ScrQ s→Zn c1→So (Kt x0 c c1 c.masters s) fun r=>ScrQ r.1∧Zn r.2.1∧r.2.2=c:=by
  intro s c1 hs hc
  unfold Kt
  rw[Zii]
  exact Zn2 (c:=c) hs hc (fun s c2=>some (s,c2,c)) fun s2 c2 p q=>So.ret ⟨p,q,rfl⟩
 refine So.ite (fun _=>?_) fun _=>?_
 ·refine (Ze7 _ (by simp) h).bind fun r1 ⟨g1,h1,e1⟩=>?_
  exact key _ _ g1 h1
 ·rw[Zus]
  refine (Ze7 c hcl h).bind fun r1 ⟨g1,h1,e1⟩=>?_
  rw[e1,Zii,Option.bind_some]
  exact key _ _ g1 h1
theorem Zmg {x0:GL1Cur} (h:Zn x0):So (Zb2 x0) fun r=>r.1.masters.length≤4∧ScrQ r.2.1∧Zn r.2.2:=by
 unfold Zb2
 refine (Zoc h).bind fun r1 ⟨h1,g1⟩=>?_
 have hl:=Zpt g1
 refine (Zj4 16 h1).bind fun r2 h2=>?_
 have key:∀(c:GConf) (c1:GL1Cur),c.masters.length≤4→Zn c1→So (if decide (c.masters.length=0)=true then (
   (Zbt c1 {c with masters:=[]}).bind fun r403=>
   some (c,r403.1,r403.2.1))
  else (
   (Zaq c1 c).bind fun r403=>
   (lenE c.masters r403.2.2.masters).bind fun q4_1024=>
   some ({c with masters:=r403.2.2.masters},r403.1,r403.2.1))) fun r=>r.1.masters.length≤4∧ScrQ r.2.1∧Zn r.2.2:=by
  intro c c1 hc h1
  refine So.ite (fun _=>?_) fun _=>?_
  ·exact (Zvu _ (by simp) h1).bind fun r3 ⟨g3,h3,e3⟩=>So.ret ⟨hc,g3,h3⟩
  ·refine (Zuw c hc h1).bind fun r3 ⟨g3,h3,e3⟩=>?_
   rw[e3,Zii,Option.bind_some]
   exact So.ret ⟨hc,g3,h3⟩
 refine So.ite (fun _=>?_) fun _=>?_
 ·exact (Zxy h2).bind fun r3 ⟨h3,l3⟩=>key _ _ l3 h3
 ·exact key _ _ (by omega) h2
theorem Zcm {x:ByteArray} {a b:Int} (h0:0≤a) (h1:a≤b) (h2:b≤(x.size:Int)):So (subS x a b) fun y=>y.size≤x.size:=by
 obtain⟨m,rfl⟩:∃m:Nat,a=m:=⟨a.toNat,by omega⟩
 obtain⟨n,rfl⟩:∃n:Nat,b=n:=⟨b.toNat,by omega⟩
 obtain⟨y,e,hy⟩:=Zbn (x:=x) (a:=m) (b:=n) (by omega) (by rw[←Zh];omega)
 refine⟨y,e,?_⟩
 show y.size≤x.size
 rw[Zh,hy,Zh,List.length_take,List.length_drop];omega
theorem Zef {a b:ByteArray} (h:a.size+b.size < 9223372036854775808):So (catI a b) fun _=>True:=⟨_,X1 h,trivial⟩
theorem Zop (l:List Int):(strB l).size=l.length:=by rw[Zh];simp[strB,L8]
theorem Zn4 {c:GL1Cur} (h:Zn c):So (Xz c) fun r=>Zn r.2:=by
 obtain⟨r,c',e,h1,_⟩:=Zbq h
 exact⟨_,e,h1⟩
theorem Zvd {x0:GL1Cur} {n:Int} (h:Zn x0) (hn:0≤n∧n≤1000):So (Zeb x0 n) fun r=>Zn r.2∧(r.1.size:Int)≤n:=by
 unfold Zeb
 refine (Zq 4 h).bind fun r1 ⟨h1,_,_,_⟩=>?_
 refine (Zq _ h1).bind fun r2 ⟨h2,a2,b2,_⟩=>?_
 rw[Yr (by omega) (by omega)] at b2
 have b2:=b2 (by omega)
 have key:∀(m k:Nat) (c:GL1Cur) (v:List Int),Zn c→k < m→(v.length:Int)+k≤n→So (Wd x0 n m c v r1.1 (k:Int)) fun r=>Zn r.2∧(r.1.size:Int)≤n:=by
  intro m
  induction m with
  | zero=>intro k _ _ _ h;omega
  | succ m ih=>
   intro k c v hc hk hv
   show So (Zb0 x0 n (Wd x0 n m) c v r1.1 (k:Int)) _
   unfold Zb0
   cases k with
   | zero=>
    rw[if_neg (by simp)]
    exact So.ret ⟨hc,by show ((strB v).size:Int)≤n;rw[Zop];omega⟩
   | succ k=>
    rw[if_pos (by simp)]
    refine (Zn4 hc).bind fun q hq=>?_
    have next:∀b:Int,So (Kp x0 n (Wd x0 n m) q.2 v r1.1 ((k+1:Nat):Int) b) fun r=>Zn r.2∧(r.1.size:Int)≤n:=fun b=>by
     unfold Kp
     refine (Zg4 1 (by decide) _ _ (by simp;omega)).bind fun z hz=>?_
     rw[Jj (by omega) (by omega),show ((k+1:Nat):Int) - 1=(k:Int) by omega]
     refine ih k _ _ hq (by omega) (by rw[hz];simp;omega)
    have j2:∀b:Int,So (Kz x0 n (Wd x0 n m) q.2 v r1.1 ((k+1:Nat):Int) b) fun r=>Zn r.2∧(r.1.size:Int)≤n:=fun b=>by
     unfold Kz
     exact So.ite (fun _=>next _) fun _=>next _
    exact So.ite (fun _=>j2 _) fun _=>j2 _
 obtain⟨k,hk⟩:∃k:Nat,r2.1=(k:Int):=⟨r2.1.toNat,by omega⟩
 rw[hk]
 exact key FU k r2.2 [] h2 (by have:=Yk;omega) (by simp;omega)
theorem Zug {c:GL1Cur} {x:ByteArray} (h:Zn c) (hx:x.size≤1000000):So (Zcz c x) fun r=>Zn r.2∧r.1.size≤2*x.size+3:=by
 unfold Zcz
 refine So.ite (fun _=>?_) fun h0=>?_
 ·refine (Zvd h (n:=3) (by omega)).bind fun r ⟨h1,h2⟩=>So.ret ⟨h1,by show r.1.size≤_;omega⟩
 ·have h0:x.size≠0:=by simpa using h0
  refine (Zq _ h).bind fun r1 ⟨h1,a1,b1,_⟩=>?_
  have b1:=b1 (by omega)
  refine (Zq 4 h1).bind fun r2 ⟨h2,_,_,_⟩=>?_
  have ha:addW r1.1 1=r1.1+1:=Yr (by omega) (by omega)
  rw[ha]
  have s1:∀z:Int,(strB [z]).size=1:=fun z=>by rw[Zop];rfl
  refine So.ite (fun _=>?_) fun _=>So.ite (fun _=>?_) fun _=>So.ite (fun _=>?_) fun _=>?_
  ·refine (Zcm (by omega) (by omega) (by omega)).bind fun y hy=>?_
   refine (Zcm (by omega) (by omega) (by omega)).bind fun w hw=>?_
   refine (Zef (by omega)).bind fun _ _=>So.ret ⟨h2,?_⟩
   show (y++w).size≤_
   rw[Z6];omega
  ·refine (Zcm (by omega) (by omega) (by omega)).bind fun y hy=>?_
   refine (Zn4 h2).bind fun q hq=>?_
   refine (Zef (by rw[s1];omega)).bind fun _ _=>?_
   refine (Zcm (by omega) (by omega) (by omega)).bind fun w hw=>?_
   refine (Zef (by rw[Z6,s1];omega)).bind fun _ _=>So.ret ⟨hq,?_⟩
   show ((y++_)++w).size≤_
   rw[Z6,Z6,s1];omega
  ·refine (Zcm (by omega) (by omega) (by omega)).bind fun y hy=>So.ret ⟨h2,?_⟩
   show y.size≤_
   omega
  ·refine (Zcm (by omega) (by omega) (by omega)).bind fun y hy=>?_
   obtain⟨k,hk⟩:∃k:Nat,r1.1=(k:Int):=⟨r1.1.toNat,by omega⟩
   obtain⟨v,hat⟩:∃v,atS x r1.1=some v:=by rw[hk];exact⟨_,Zcp (by rw[←Zh];omega)⟩
   rw[hat,Option.bind_some]
   refine (Zq 255 h2).bind fun q ⟨hq,_,_,_⟩=>?_
   refine (Zef (by rw[s1];omega)).bind fun _ _=>?_
   refine (Zcm (by omega) (by omega) (by omega)).bind fun w hw=>?_
   refine (Zef (by rw[Z6,s1];omega)).bind fun _ _=>So.ret ⟨hq,?_⟩
   show ((y++_)++w).size≤_
   rw[Z6,Z6,s1];omega
theorem Zt7 {c:GL1Cur} (xs:List ByteArray) (hx:xs≠[]) (h:Zn c):So (Zd4 c xs) fun r=>Zn r.2∧r.1∈xs:=by
 unfold Zd4
 have hl:0 < xs.length:=List.length_pos_iff.2 hx
 refine (Zq _ h).bind fun r ⟨h1,a1,b1,_⟩=>?_
 have b1:=b1 (by omega)
 exact (Zgz a1 b1).bind fun a ha=>So.ret ⟨h1,ha⟩
theorem ScrQ.n {s:GScript} (h:ScrQ s):ScrN s:=by
 refine⟨by have:=h.posts;omega,by have:=h.waits;omega,by have:=h.says;omega,fun p hp=>?_,fun v hv=>?_,fun v hv=>?_⟩
 ·obtain⟨⟨a,b⟩,c,d⟩:=h.reqs p hp
  exact⟨⟨⟨by omega,by omega⟩,⟨by omega,by omega⟩,b⟩,by unfold GReq.sm;omega⟩
 ·have:=h.wmin v hv;exact⟨by omega,by omega⟩
 ·have:=h.smin v hv;exact⟨by omega,by omega⟩
theorem ScrQ.text_le {s:GScript} (h:ScrQ s):(X7 (Wi s) s.posts).size≤100000:=by
 have hw:=K9 (l:=s.waits) fun v hv=>h.n.wn v hv
 have hs:=K9 (l:=s.says) fun v hv=>h.n.sn v hv
 have h1:=h.waits
 have h2:=h.says
 have h3:=h.posts
 have hh:(Wi s).size≤400:=by
  unfold Wi
  rw[Z6,Zh,Zh,Yb (W3 _ s.waits),Yb (W3 _ s.says)]
  have a:(W3 [119,97,105,116,115] s.waits).length≤200:=by
   unfold W3;split
   ·simp
   ·simp only[List.length_append,List.length_cons,List.length_nil];omega
  have b:(W3 [115,97,121,115] s.says).length≤200:=by
   unfold W3;split
   ·simp
   ·simp only[List.length_append,List.length_cons,List.length_nil];omega
  omega
 unfold X7
 split
 ·rename_i hall
  have hall:∀p∈s.posts,reqG p.req=true:=by simpa using hall
  rw[Zh,Yb (L8 (Wi s)++s.posts.flatMap W7),List.length_append,←Zh]
  have hf:∀ps:List GPost,(∀p∈ps,p∈s.posts)→(ps.flatMap W7).length≤400*ps.length:=by
   intro ps
   induction ps with
   | nil=>intro _;simp
   | cons p ps ih=>
    intro hh
    have h1:=ih fun q hq=>hh q (List.mem_cons_of_mem _ hq)
    have hp:=hh p List.mem_cons_self
    obtain⟨⟨n1,n2,n3⟩,_⟩:=h.n.posts p hp
    have t:=Zg3 (hall p hp) n3
    have i1:=Zej n1
    have i2:=Zej n2
    rw[List.flatMap_cons,List.length_append,List.length_cons]
    have:(W7 p).length≤400:=by
     unfold W7
     simp only[List.length_append,List.length_cons,List.length_nil];omega
    omega
  have:=hf s.posts fun _ h=>h
  omega
 ·show (0:Nat)≤_;omega
theorem Zkj (x:List Int) (hl:x.length < 1048577):So (Kf x) fun r=>r.size≤1048576:=by
 unfold Kf
 refine So.bind (Zre x hl) fun r0 h0=>?_
 refine (Zmg h0).bind fun r1 ⟨_,g1,h1⟩=>?_
 have hz:=g1.text_le
 rw[J2 g1.n,Option.bind_some]
 refine (Zq 4 h1).bind fun r3 ⟨h3,_,_,_⟩=>?_
 refine So.ite (fun _=>?_) fun _=>So.ite (fun _=>?_) fun _=>So.ret (by omega)
 ·refine (Zug h3 (by omega)).bind fun r ⟨_,h⟩=>So.ret (by show r.1.size≤_;omega)
 ·refine (Zt7 _ (by simp) h3).bind fun r ⟨_,h⟩=>?_
  have hr:r.1.size≤100:=by
   simp only[List.mem_cons,List.not_mem_nil,or_false] at h
   rcases h with h|h|h|h|h|h<;>(rw[h,Zs];decide)
  refine (Zef (by omega)).bind fun _ _=>So.ret ?_
  show (_++r.1).size≤_
  rw[Z6];omega
theorem Zgd (l:List Int) (hl:l.length < 1048577):Zax l l=some true:=by
 unfold Zax
 rw[if_neg (by simp)]
 refine Zct (n:=l.length) (by omega) (B:=fun κ i=>Jy l l κ i) (L:=fun m i=>Zan l l m i) (fun m i=>rfl) (fun k hk κ=>?_) fun κ=>?_
 ·unfold Jy
  rw[if_pos (by simpa using hk),Zi hk,Option.bind_some,Option.bind_some,if_neg (by simp)]
 ·unfold Jy
  rw[if_neg (by simp)]
theorem Zhq (l:List Int) (hl:l.length < 1048577):Y1 l l=some true:=by
 unfold Y1
 rw[if_neg (by simp)]
 refine Zct (n:=l.length) (by omega) (B:=fun κ i=>Xf l l κ i) (L:=fun m i=>Xm l l m i) (fun m i=>rfl) (fun k hk κ=>?_) fun κ=>?_
 ·unfold Xf
  rw[if_pos (by simpa using hk),Zi hk,Option.bind_some,Option.bind_some,if_neg (by simp)]
 ·unfold Xf
  rw[if_neg (by simp)]
theorem Zkl {s:GScript} (h:ScrQ s):Zaw s s=some true:=by
 unfold Zaw
 rw[Zgd _ (by have:=h.waits;omega),Option.bind_some,if_neg (by simp),Zgd _ (by have:=h.says;omega),Option.bind_some,if_neg (by simp)]
 unfold Ws
 rw[if_neg (by simp)]
 refine Zct (n:=s.posts.length) (by have:=h.posts;omega) (B:=fun κ i=>Qx s s κ i) (L:=fun m i=>Q5 s s m i) (fun m i=>rfl) (fun k hk κ=>?_) fun κ=>?_
 ·unfold Qx
  have hq:=h.reqs _ (List.getElem_mem hk)
  have e:Zdb s.posts[k].req s.posts[k].req=some true:=by
   unfold Zdb
   simp[Zgd _ (show s.posts[k].req.data_.length < 1048577 by have:=hq.1.1;omega)]
  rw[if_pos (by simpa using hk),Zi hk,Option.bind_some,Option.bind_some,if_neg (by simp),if_neg (by simp),e,Option.bind_some,if_neg (by simp)]
 ·unfold Qx
  rw[if_neg (by simp)]
theorem Zkn {s:GScript} (h:ScrQ s):Zal s s=some true:=by
 unfold Zal
 rw[Zhq _ (by have:=h.waits;omega),Option.bind_some,if_pos rfl,Zhq _ (by have:=h.says;omega),Option.bind_some,if_pos rfl]
 unfold Z5
 rw[if_neg (by simp)]
 have:Zm s.posts s.posts FU 0=some true:=by
  refine Zct (n:=s.posts.length) (by have:=h.posts;omega) (B:=fun κ i=>Zo s.posts s.posts κ i) (L:=fun m i=>Zm s.posts s.posts m i) (fun m i=>rfl) (fun k hk κ=>?_) fun κ=>?_
  ·unfold Zo
   have hq:=h.reqs _ (List.getElem_mem hk)
   have e:K7 s.posts[k] s.posts[k]=some true:=by
    unfold K7 Zgi
    simp[Zhq _ (show s.posts[k].req.data_.length < 1048577 by have:=hq.1.1;omega)]
   rw[if_pos (by simpa using hk),Zi hk,Option.bind_some,Option.bind_some,e,Option.bind_some,if_neg (by simp)]
  ·unfold Zo
   rw[if_neg (by simp)]
 rw[this];rfl
theorem Zl5 (x:List Int) (h:x.length≤maxLen∧∀v∈x,(Lit.int .u8 v).wf=true):Zdy x=some true:=by
 unfold Zdy
 rw[show Zm6 x=some (decide ((x.length:Int) > 1048576)) from rfl,Option.bind_some]
 by_cases hb:(x.length:Int) > 1048576
 ·rw[if_pos (by simpa using hb)]
 ·have hl:x.length < 1048577:=by omega
  rw[if_neg (by simpa using hb)]
  have d1:So (Q9 x) fun r=>ScrQ r:=by
   unfold Q9
   refine So.bind (Zre x hl) fun r0 h0=>?_
   exact (Zmg h0).bind fun r1 ⟨_,g1,_⟩=>So.ret g1
  obtain⟨z,e1,hz⟩:=d1
  obtain⟨s,e4,hs⟩:=Zkj x hl
  obtain⟨r,t1,t2,t3⟩:=Zls hs
  have htl:=hz.text_le
  obtain⟨q,q1,q2⟩:=Zdi (x:=X7 (Wi z) z.posts) (by omega)
  rw[e1,Option.bind_some,J3 hz.n,Option.bind_some,q1,e4]
  simp only[Option.bind_some,t1,t2,J2 hz.n]
  have fin:Y2 x r.1 s r.2 r.2 false=some true:=by
   unfold Y2
   rw[if_neg (by simp),if_pos (beq_self_eq_true _)]
   rcases t3 with rfl|⟨hr,hg⟩
   ·rfl
   ·have hinv:=Zno hg
    have hfew:=Znt hg hs
    rw[if_neg (by simp[hr]),J3 (hinv.n (by omega)),Option.bind_some,Xv]
    unfold X7
    rw[if_pos (by rw[List.all_eq_true];exact fun p hp=>(hg.reqs p hp).2.2),Yb (L8 (Wi r.1)++r.1.posts.flatMap W7),decide_eq_true (show L8 (Wi r.1)++r.1.posts.flatMap W7=L8 s from hg.text.symm)]
  rw[if_neg (by simp)]
  by_cases he:(!((X7 (Wi z) z.posts).toList == ByteArray.empty.toList))=true
  ·rw[if_pos he]
   rw[Xv,Qq] at he
   have hne:¬L8 (X7 (Wi z) z.posts)=[]:=by simpa using he
   have hall:∀p∈z.posts,reqG p.req=true:=by
    by_cases ha:z.posts.all (fun p=>reqG p.req)=true
    ·simpa using ha
    ·exfalso
     unfold X7 at hne
     rw[if_neg ha] at hne
     exact hne Qq
   have hs':IsScr (X7 (Wi z) z.posts) z:=by
    refine⟨fun p hp=>?_,by have:=hz.posts;omega,⟨by have:=hz.waits;omega,fun v hv=>?_⟩,⟨by have:=hz.says;omega,fun v hv=>?_⟩,?_⟩
    ·obtain⟨_,c,d⟩:=hz.reqs p hp
     exact⟨⟨by omega,by omega⟩,⟨by omega,by omega⟩,hall p hp⟩
    ·have:=hz.wmin v hv;exact⟨by omega,by omega⟩
    ·have:=hz.smin v hv;exact⟨by omega,by omega⟩
    ·unfold X7
     rw[if_pos (by rw[List.all_eq_true];exact hall)]
     exact Yb _
   have hq:q=(z,true):=by
    have:=Zdn hs' (by omega)
    rw[this] at q1
    injection q1 with q1
    exact q1.symm
   subst hq
   rw[if_neg (by simp),Zkl hz,Option.bind_some,if_neg (by simp),Zkn hz,Option.bind_some]
   exact fin
  ·rw[if_neg he]
   exact fin
end Go.Proofs.YtlcfolgfmlgncaaGreatDoor.Ev
