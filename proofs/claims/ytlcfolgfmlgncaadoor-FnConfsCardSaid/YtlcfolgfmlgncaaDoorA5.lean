/- A part of the proof of FnConfs: see the text YtlcfolgfmlgncaaDoorLawFnConfs for what is proved and its conditions. Conditions here: those in each line. -/
import Derived.Test.YtlcfolgfmlgncaaDoorA4
import Derived.Lib.AtoiAllCases
import Derived.Lib.SplitLaws
namespace Go.Proofs.YtlcfolgfmlgncaaDoor.Ev
open Go Go.Proofs
set_option linter.unusedVariables false
set_option linter.unusedSimpArgs false
theorem Zf9 {n:Int} (h1:-9223372036854775808≤n) (h2:n < 9223372036854775808):IntKind.i64.wrap n=n:=w64_of h1 h2
theorem Yr {a b:Int} (h1:-9223372036854775808≤a+b) (h2:a+b < 9223372036854775808):addW a b=a+b:=Zf9 h1 h2
theorem Zle {a b:Int} (h1:-9223372036854775808≤a - b) (h2:a - b < 9223372036854775808):subW a b=a - b:=Zf9 h1 h2
theorem W1 {a b:Int} (h1:-9223372036854775808≤a*b) (h2:a*b < 9223372036854775808):mulW a b=a*b:=Zf9 h1 h2
theorem Yy {k:Nat} (h:k < 4611686018427387904):addW (k:Int) 1=((k+1:Nat):Int):=by rw[Yr (by omega) (by omega)];rfl
section
variable {α β σ ρ:Type}
theorem Zl {xs:List α} {k:Nat} (h:k < xs.length):idx xs (k:Int)=some xs[k]:=by
 simp[idx,h]
theorem Ww:4611686018427387904 < FU:=by decide
def runL (step:α→σ→Option (σ ⊕ ρ)) (fin:σ→Option ρ):List α→σ→Option ρ
 | [],s=>fin s
 | a::l,s=>(step a s).bind fun r=>match r with|.inl s'=>runL step fin l s'|.inr x=>some x
def goL (k:σ→Option ρ):σ ⊕ ρ→Option ρ
 | .inl s=>k s
 | .inr x=>some x
theorem Znj (xs:List α) (hl:xs.length < 4611686018427387904) (step:α→σ→Option (σ ⊕ ρ)) (fin:σ→Option ρ) (L:Nat→σ→Int→Option ρ)
  (hL:∀m s i,L (m+1) s i=if decide (i < (xs.length:Int))=true then (idx xs i).bind fun a=>(step a s).bind (goL fun s'=>L m s' (addW i 1)) else fin s):
  ∀(m k:Nat) (s:σ),k≤xs.length→xs.length - k < m→L m s k=runL step fin (xs.drop k) s:=by
 intro m
 induction m with
 | zero=>intro k s _ h;omega
 | succ m ih=>
  intro k s hk hm
  rw[hL]
  by_cases hc:k < xs.length
  ·have h1:decide ((k:Int) < (xs.length:Int))=true:=by simpa using hc
   rw[if_pos h1,Zl hc,Option.bind_some,List.drop_eq_getElem_cons hc]
   simp only[runL]
   congr 1
   funext r
   cases r with
   | inl s'=>
    simp only[goL]
    rw[Yy (by omega)]
    exact ih (k+1) s' (by omega) (by omega)
   | inr x=>rfl
  ·have h1:¬decide ((k:Int) < (xs.length:Int))=true:=by simpa using hc
   rw[if_neg h1,List.drop_eq_nil_of_le (by omega)]
   rfl
theorem Zji (xs:List α) (hl:xs.length < 4611686018427387904) (step:α→σ→Option (σ ⊕ ρ)) (fin:σ→Option ρ) (L:Nat→σ→Int→Option ρ)
  (hL:∀m s i,L (m+1) s i=if decide (i < (xs.length:Int))=true then (idx xs i).bind fun a=>(step a s).bind (goL fun s'=>L m s' (addW i 1)) else fin s) (s:σ):
  L FU s 0=runL step fin xs s:=by
 have:=Znj xs hl step fin L hL FU 0 s (Nat.zero_le _) (by have:=Ww;omega)
 simpa using this
theorem X8 {sz:Nat} {xs ys:List α} (h1:(xs.length+ys.length)*sz≤140737488355328) (h2:xs.length+ys.length≤9223372036854775807):appI sz xs ys=some (xs++ys):=by
 unfold appI
 rw[if_pos ⟨h1,h2⟩]
end
section
variable {α:Type}
theorem Zgl (xs:List α) (i:Int) (a:α):setO xs i a=some (xs.set i.toNat a):=rfl
theorem Zny {n:Int} (h:n≠0):nzI n=some ():=by unfold nzI;rw[if_neg h]
end
theorem Zac {σ ρ:Type} {n:Nat} (hn:n < 4611686018427387904) (st:Nat→σ) {B:(σ→Int→ρ)→σ→Int→ρ} {L:Nat→σ→Int→ρ} (hL:∀m s i,L (m+1) s i=B (L m) s i)
  (hs:∀k,k < n→∀κ,B κ (st k) (k:Int)=κ (st (k+1)) (addW (k:Int) 1)) {r:ρ} (hf:∀κ,B κ (st n) (n:Int)=r):L FU (st 0) 0=r:=by
 have key:∀(m k:Nat),k≤n→n - k < m→L m (st k) (k:Int)=r:=by
  intro m
  induction m with
  | zero=>intro k _ h;omega
  | succ m ih=>
   intro k hk hm
   rw[hL]
   by_cases hc:k < n
   ·rw[hs k hc,Yy (by omega)]
    exact ih (k+1) (by omega) (by omega)
   ·have:k=n:=by omega
    subst this
    exact hf _
 have:=key FU 0 (Nat.zero_le _) (by have:=Ww;omega)
 simpa using this
theorem Zic {ρ:Type} {n:Nat} (hn:n < 4611686018427387904) {B:(Int→ρ)→Int→ρ} {L:Nat→Int→ρ} (hL:∀m i,L (m+1) i=B (L m) i)
  (hs:∀k,k < n→∀κ,B κ (k:Int)=κ (addW (k:Int) 1)) {r:ρ} (hf:∀κ,B κ (n:Int)=r):L FU 0=r:=
 Zac (σ:=Unit) hn (fun _=>()) (B:=fun κ _ i=>B (κ ()) i) (L:=fun m _ i=>L m i) (fun m _ i=>hL m i) (fun k hk κ=>hs k hk _) fun κ=>hf _
def L8 (b:ByteArray):List UInt8:=b.data.toList
theorem Zbv (a b:ByteArray):L8 (a++b)=L8 a++L8 b:=by simp[L8]
theorem Zcd {a b:ByteArray} (h:L8 a=L8 b):a=b:=by
 cases a;cases b
 simp only[L8] at h
 rw[Array.toList_inj.1 h]
theorem Z5 (a:ByteArray):a.size=(L8 a).length:=by show a.data.size=a.data.toList.length;rw[Array.length_toList]
theorem Zhv (l:List UInt8):L8 ⟨l.toArray⟩=l:=rfl
theorem Q3 (l:List UInt8):L8 (strL l)=l:=rfl
theorem Zpa:L8 ByteArray.empty=[]:=rfl
theorem Zb3 {a b:ByteArray} (h:a.size+b.size < 9223372036854775808):catI a b=some ():=by
 unfold catI
 rw[if_neg (by simp[IntKind.max,IntKind.signed,IntKind.bits];omega)]
theorem Xg (a b:ByteArray):(a++b).size=a.size+b.size:=by rw[Z5,Zbv,List.length_append,Z5,Z5]
theorem Wj (l:List UInt8):(strL l).size=l.length:=by rw[Z5,Q3]
theorem Zap:∀(k u:Nat),u < 10^(k+1)→(Lib.decDigits u).length≤k+1:=by
 intro k
 induction k with
 | zero=>
  intro u hu
  rw[Lib.decDigits,dif_pos (by omega)];simp
 | succ k ih=>
  intro u hu
  rw[Lib.decDigits]
  split
  ·simp
  ·rw[List.length_append]
   have:=ih (u / 10) (by rw[Nat.pow_succ] at hu;omega)
   simp;omega
def dgL (u:Nat):List UInt8:=if u=0 then [] else Lib.decDigits u
theorem Zom {u:Nat} (h:u≠0):dgL u=dgL (u / 10)++[UInt8.ofNat (48+u % 10)]:=by
 unfold dgL
 rw[if_neg h,Lib.decDigits]
 split
 ·rename_i h1
  rw[if_pos (by omega),Nat.mod_eq_of_lt h1];rfl
 ·rw[if_neg (by omega)]
def InR (x:Int):Prop:=-9223372036854775808≤x∧x≤9223372036854775807
def decB (x:Int):ByteArray:=⟨(Lib.itoa x).toArray⟩
theorem Yp (x:Int):L8 (decB x)=Lib.itoa x:=rfl
theorem Xo {x:Int} (h:InR x):(Lib.itoa x).length≤20:=by
 obtain⟨h1,h2⟩:=h
 unfold Lib.itoa
 split
 ·have:=Zap 18 x.natAbs (by omega)
  simp;omega
 ·have:=Zap 18 x.toNat (by omega)
  omega
theorem Wi {x:Int} (h:InR x):(decB x).size≤20:=by rw[Z5,Yp];exact Xo h
theorem Zqp {x:Int} (h:x≠0):Lib.itoa x=(if x < 0 then [45] else [])++dgL x.natAbs:=by
 unfold Lib.itoa dgL
 have hn:¬x.natAbs=0:=by omega
 by_cases hx:x < 0
 ·rw[if_pos hx,if_pos hx,if_neg hn];rfl
 ·have:x.toNat=x.natAbs:=by omega
  rw[if_neg hx,if_neg hx,if_neg hn,this];rfl
theorem Zmy:Lib.itoa 0=[48]:=by
 unfold Lib.itoa
 rw[if_neg (by omega),show (0:Int).toNat=0 from rfl,Lib.decDigits,dif_pos (by omega)];rfl
theorem digB {d:Int} (h0:0≤d) (h1:d < 10):strB [w8 (addW 48 d)]=strL [UInt8.ofNat (48+d.toNat)]:=by
 have:w8 (addW 48 d)=((48+d.toNat:Nat):Int):=by
  simp[w8,addW,IntKind.wrap,IntKind.bits,IntKind.signed];omega
 rw[this]
 rfl
theorem Zlm (x0:Int):∀(m:Nat) (v0:Int) (v1:ByteArray),v0.natAbs < m→InR v0→(v1.size+v0.natAbs < 9223372036854775807∨v1.size=0)→
  ∃r,Qg x0 m v0 v1=some r∧L8 r=(if x0 < 0 then [45] else [])++dgL v0.natAbs++L8 v1:=by
 intro m
 induction m with
 | zero=>intro v0 v1 h;omega
 | succ m ih=>
  intro v0 v1 hm hr hs
  show ∃r,Zan x0 (Qg x0 m) v0 v1=some r∧_
  unfold Zan
  obtain⟨hr1,hr2⟩:=hr
  by_cases h0:v0=0
  ·subst h0
   rw[if_neg (by simp)]
   by_cases hx:x0 < 0
   ·rw[if_pos (by simpa using hx),Zb3 (by
     have hz:(0:Int).natAbs=0:=rfl
     rw[hz] at hs
     rw[Wj]
     show 1+v1.size < _
     omega),Option.bind_some]
    exact⟨_,rfl,by rw[if_pos hx,Zbv];rfl⟩
   ·rw[if_neg (by simpa using hx)]
    exact⟨_,rfl,by rw[if_neg hx];rfl⟩
  ·rw[if_pos (by simpa using h0)]
   have hq:quoW v0 10=v0.tdiv 10:=by
    unfold quoW
    have:(v0.tdiv 10).natAbs=v0.natAbs / 10:=by rw[Int.natAbs_tdiv];rfl
    simp[IntKind.wrap,IntKind.bits,IntKind.signed];omega
   have hqa:(v0.tdiv 10).natAbs=v0.natAbs / 10:=by rw[Int.natAbs_tdiv];rfl
   have hra:(v0.tmod 10).natAbs=v0.natAbs % 10:=by rw[Int.natAbs_tmod];rfl
   have step:∀d:Int,0≤d→d.toNat=v0.natAbs % 10→∃r,Q7 x0 (Qg x0 m) v0 v1 d=some r∧L8 r=(if x0 < 0 then [45] else [])++dgL v0.natAbs++L8 v1:=fun d hd0 hd=>by
    unfold Q7
    rw[digB hd0 (by omega),Zb3 (by rw[Wj];simp;omega),Option.bind_some,hq]
    obtain⟨r,h1,h2⟩:=ih (v0.tdiv 10) (strL [UInt8.ofNat (48+d.toNat)]++v1) (by omega) (by constructor<;>omega) (.inl (by rw[Xg,Wj,hqa];simp;omega))
    refine⟨r,h1,?_⟩
    rw[h2,hqa,Zbv,Q3,Zom (u:=v0.natAbs) (by omega),hd]
    simp
   unfold remW at*
   by_cases hn:v0.tmod 10 < 0
   ·rw[if_pos (by simpa using hn)]
    have hneg:negW (v0.tmod 10)=-(v0.tmod 10):=by
     simp[negW,IntKind.wrap,IntKind.bits,IntKind.signed];omega
    rw[hneg]
    exact step _ (by omega) (by omega)
   ·rw[if_neg (by simpa using hn)]
    exact step _ (by omega) (by omega)
theorem Wq {x:Int} (h:InR x):Wa x=some (decB x):=by
 unfold Wa
 by_cases h0:x=0
 ·subst h0
  rw[if_pos (by simp)]
  exact congrArg some (Zcd (by rw[Yp,Zmy,Q3]))
 ·rw[if_neg (by simpa using h0)]
  obtain⟨r,h1,h2⟩:=Zlm x FU x ByteArray.empty (by obtain⟨h1,h2⟩:=h;unfold FU;omega) h (.inr rfl)
  rw[h1]
  exact congrArg some (Zcd (by rw[h2,Yp,Zqp h0,Zpa,List.append_nil]))
theorem Zjp {x:Int} (h:InR x):Zb1 x=some (decB x):=by
 unfold Zb1 Q0
 rw[if_pos (show _∧_ from h)]
 rfl
theorem Zkz {ws:List ByteArray} {sep:ByteArray} (h1:ws.length≤1000000000) (h2:(Lib.join (ws.map L8) (L8 sep)).length≤140737488355328):X1 ws sep=some ⟨(Lib.join (ws.map L8) (L8 sep)).toArray⟩:=by
 unfold X1
 rw[if_pos ⟨by omega,h2⟩]
 rfl
def Z0 (c:UInt8):List UInt8→List (List UInt8)
 | []=>[[]]
 | x::l=>if x=c then []::Z0 c l else match Z0 c l with
  | []=>[[x]]
  | w::r=>(x::w)::r
theorem Zg8 (c:UInt8) (l:List UInt8):Z0 c l≠[]:=by
 cases l with
 | nil=>simp[Z0]
 | cons x l=>
  unfold Z0
  split
  ·simp
  ·split<;>simp
theorem J3 {c:UInt8}:∀{w:List UInt8},(∀x∈w,x≠c)→∀l,Z0 c (w++c::l)=w::Z0 c l:=by
 intro w
 induction w with
 | nil=>intro _ l;simp[Z0]
 | cons x w ih=>
  intro h l
  rw[List.cons_append,Z0,if_neg (h x List.mem_cons_self),ih (fun y hy=>h y (List.mem_cons_of_mem _ hy)) l]
theorem Jo {c:UInt8}:∀{w:List UInt8},(∀x∈w,x≠c)→Z0 c w=[w]:=by
 intro w
 induction w with
 | nil=>intro _;rfl
 | cons x w ih=>
  intro h
  rw[Z0,if_neg (h x List.mem_cons_self),ih (fun y hy=>h y (List.mem_cons_of_mem _ hy))]
theorem Zj9 {c:UInt8}:∀{ws:List (List UInt8)},ws≠[]→(∀w∈ws,∀x∈w,x≠c)→Z0 c (Lib.join ws [c])=ws:=by
 intro ws
 induction ws with
 | nil=>intro h;exact absurd rfl h
 | cons w r ih=>
  intro _ h
  have hw:=h w List.mem_cons_self
  cases r with
  | nil=>rw[Lib.join_one,Jo hw]
  | cons v r=>
   have e:Lib.join (w::v::r) [c]=w++c::Lib.join (v::r) [c]:=by
    rw[Lib.join_cons,Lib.join_cons]
    simp[Lib.joinTail]
   rw[e,J3 hw,ih (by simp) fun u hu=>h u (List.mem_cons_of_mem _ hu)]
theorem Zn6 (c:UInt8):∀l:List UInt8,(Z0 c l).length≤l.length+1:=by
 intro l
 induction l with
 | nil=>simp[Z0]
 | cons x l ih=>
  unfold Z0
  split
  ·simp;omega
  ·split
   ·simp
   ·rename_i w r h
    rw[h] at ih
    simp at ih ⊢;omega
theorem Zly {c:UInt8}:∀{l w:List UInt8},w∈Z0 c l→w.length≤l.length:=by
 intro l
 induction l with
 | nil=>intro w h;simp[Z0] at h;simp[h]
 | cons x l ih=>
  intro w h
  unfold Z0 at h
  split at h
  ·rcases List.mem_cons.1 h with rfl|h
   ·simp
   ·have:=ih h;simp;omega
  ·split at h
   ·rename_i hs;exact absurd hs (Zg8 c l)
   ·rename_i v r hs
    rcases List.mem_cons.1 h with rfl|h
    ·have:=ih (w:=v) (by rw[hs];exact List.mem_cons_self);simp;omega
    ·have:=ih (w:=w) (by rw[hs];exact List.mem_cons_of_mem _ h);simp;omega
theorem Zme (c:UInt8):∀s:List UInt8,Lib.splitK [c] 0 (s.count c) s=Z0 c s:=by
 intro s
 induction s with
 | nil=>rfl
 | cons b l ih=>
  by_cases hb:b=c
  ·subst hb
   rw[List.count_cons_self,Lib.splitK]
   have hi:Lib.index (b::l) [b]=0:=by
    unfold Lib.index
    rw[if_pos (by simp[List.isPrefixOf])]
   rw[hi,if_neg (by decide),Z0,if_pos rfl]
   show _::Lib.splitK [b] 0 (l.count b) l=_
   rw[ih];rfl
  ·have hc:(b::l).count c=l.count c:=List.count_cons_of_ne hb
   have hi:Lib.index (b::l) [c]=if (Lib.index l [c] == -1)=true then -1 else Lib.index l [c]+1:=by
    rw[Lib.index,if_neg (by simp[List.isPrefixOf];exact fun h=>hb h.symm)]
   rw[hc,Z0,if_neg hb,←ih]
   cases hk:l.count c with
   | zero=>rfl
   | succ k=>
    have hne:¬(Lib.index l [c] == -1)=true:=fun h=>by
     have h0:Lib.count l [c]=0:=Lib.count_miss (beq_iff_eq.1 h)
     rw[Lib.count_one] at h0
     omega
    have hg:=Lib.index_ge l [c]
    have hne2:Lib.index l [c]≠-1:=fun h=>hne (beq_iff_eq.2 h)
    rw[if_neg hne] at hi
    rw[Lib.splitK,Lib.splitK,hi,if_neg hne,if_neg (by rw[beq_iff_eq];omega)]
    have e1:(Lib.index l [c]+1).toNat=(Lib.index l [c]).toNat+1:=by omega
    rw[e1]
    rfl
theorem Zcu {x:ByteArray} (c:UInt8) (h:x.size < 4294967281):∃ws,Xr x (strL [c])=some ws∧ws.map L8=Z0 c (L8 x):=by
 unfold Xr
 rw[if_pos ⟨h,by rw[Wj];simp⟩]
 refine⟨_,rfl,?_⟩
 have:=Lib.splitB_data (strL [c]) 0 (Lib.countB x (strL [c])) x
 have e:Lib.countB x (strL [c])=(L8 x).count c:=Lib.count_one c (L8 x)
 rw[e] at this ⊢
 exact this.trans (Zme c (L8 x))
theorem Jj {x:ByteArray} {k:Nat} (h:k < (L8 x).length):atS x (k:Int)=some ((L8 x)[k].toNat:Int):=by
 have h2:k < x.size:=by rw[Z5];exact h
 unfold atS
 rw[if_pos (by omega),Int.toNat_natCast]
 have:x[k]?=some (L8 x)[k]:=by
  rw[getElem?_pos x k h2]
  rfl
 rw[this];rfl
theorem Ze5 {x:ByteArray} {a b:Nat} (h1:a≤b) (h2:b≤(L8 x).length):∃y,subS x (a:Int) (b:Int)=some y∧L8 y=((L8 x).drop a).take (b - a):=by
 unfold subS
 rw[if_pos ⟨by omega,by omega,by rw[Z5,Int.toNat_natCast];exact h2⟩]
 exact⟨_,rfl,Lib.extract_data x _ _⟩
theorem Zcm {x:ByteArray} (c:UInt8) (h:x.size < 4294967281):∃ws,Wh x (c.toNat:Int)=some ws∧ws.map L8=Z0 c (L8 x):=by
 rw[Z5] at h
 have key:∀(m i a:Nat) (out:List ByteArray),i≤(L8 x).length→(L8 x).length - i < m→a≤i→out.length≤a→(∀y∈((L8 x).drop a).take (i - a),y≠c)→
   ∃ws,Qf x (c.toNat:Int) m out (a:Int) (i:Int)=some ws∧ws.map L8=out.map L8++Z0 c ((L8 x).drop a):=by
  intro m
  induction m with
  | zero=>intro i a out _ hm;omega
  | succ m ih=>
   intro i a out hi hm ha ho hn
   show ∃ws,Jf x (c.toNat:Int) (Qf x (c.toNat:Int) m) out (a:Int) (i:Int)=some ws∧_
   unfold Jf
   by_cases hc:i < (L8 x).length
   ·rw[if_pos (by rw[Z5];simpa using hc),Jj hc,Option.bind_some]
    have hdrop:(L8 x).drop a=((L8 x).drop a).take (i - a)++(L8 x)[i]::(L8 x).drop (i+1):=by
     have e:=(List.take_append_drop (i - a) ((L8 x).drop a)).symm
     rw[List.drop_drop,show a+(i - a)=i by omega,List.drop_eq_getElem_cons hc] at e
     exact e
    by_cases hx:(L8 x)[i]=c
    ·obtain⟨y,hy1,hy2⟩:=Ze5 (x:=x) ha hi
     rw[if_pos (by rw[hx];simp),hy1,Option.bind_some,X8 (by simp;omega) (by simp;omega),Option.bind_some,Yy (by omega)]
     obtain⟨ws,h1,h2⟩:=ih (i+1) (i+1) (out++[y]) (by omega) (by omega) (by omega) (by simp;omega) (by simp)
     refine⟨ws,h1,?_⟩
     rw[hx] at hdrop
     rw[h2,hdrop,J3 hn,List.map_append,List.append_assoc,List.map_cons,List.map_nil,hy2]
     rfl
    ·rw[if_neg (by
      rw[decide_eq_true_eq]
      intro he
      exact hx (UInt8.toNat_inj.1 (by omega))),Yy (by omega)]
     refine ih (i+1) a out (by omega) (by omega) (by omega) ho fun y hy=>?_
     rw[show i+1 - a=(i - a)+1 by omega,List.take_add_one] at hy
     rcases List.mem_append.1 hy with hy|hy
     ·exact hn y hy
     ·rw[List.getElem?_drop,show a+(i - a)=i by omega,List.getElem?_eq_getElem hc] at hy
      simp at hy
      rw[hy];exact hx
   ·have hil:i=(L8 x).length:=by omega
    obtain⟨y,hy1,hy2⟩:=Ze5 (x:=x) (a:=a) (b:=(L8 x).length) (by omega) (Nat.le_refl _)
    rw[if_neg (by rw[Z5];simpa using hc),show ((x.size:Nat):Int)=((L8 x).length:Int) by rw[Z5],hy1,Option.bind_some,X8 (by simp;omega) (by simp;omega),Option.bind_some]
    refine⟨_,rfl,?_⟩
    have ht:((L8 x).drop a).take ((L8 x).length - a)=(L8 x).drop a:=by rw[List.take_of_length_le (by simp)]
    rw[hil,ht] at hn
    rw[List.map_append,List.map_cons,List.map_nil,hy2,ht,Jo hn]
 obtain⟨ws,h1,h2⟩:=key FU 0 0 [] (Nat.zero_le _) (by have:=Ww;omega) (Nat.le_refl _) (Nat.le_refl _) (by simp)
 exact⟨ws,h1,by simpa using h2⟩
def isDg (c:UInt8):Prop:=48≤c.toNat∧c.toNat≤57
instance (c:UInt8):Decidable (isDg c):=inferInstanceAs (Decidable (_∧_))
theorem Zab {d:Nat} (h:d < 10):(UInt8.ofNat (48+d)).toNat=48+d:=by
 rw[UInt8.toNat_ofNat'];omega
theorem Zjk:∀(k u:Nat),u < 10^(k+1)→∀c∈Lib.decDigits u,isDg c:=by
 intro k
 induction k with
 | zero=>
  intro u hu c hc
  rw[Lib.decDigits,dif_pos (by omega)] at hc
  rw[List.mem_singleton] at hc;subst hc
  have:=Zab (d:=u) (by omega)
  unfold isDg;omega
 | succ k ih=>
  intro u hu c hc
  rw[Lib.decDigits] at hc
  split at hc
  ·rw[List.mem_singleton] at hc;subst hc
   have:=Zab (d:=u) (by omega)
   unfold isDg;omega
  ·rcases List.mem_append.1 hc with hc|hc
   ·exact ih (u / 10) (by rw[Nat.pow_succ] at hu;omega) c hc
   ·rw[List.mem_singleton] at hc;subst hc
    have:=Zab (d:=u % 10) (by omega)
    unfold isDg;omega
theorem Zio (u:Nat):u < 10^(u+1):=by
 have h1:u < 2^u:=Nat.lt_two_pow_self
 have h2:2^u≤10^u:=Nat.pow_le_pow_left (by omega) u
 have h3:10^u≤10^(u+1):=Nat.pow_le_pow_right (by omega) (by omega)
 omega
theorem Ki {u:Nat} {c:UInt8} (h:c∈Lib.decDigits u):isDg c:=Zjk u u (Zio u) c h
theorem Zdu (u:Nat):Lib.decDigits u≠[]:=by
 rw[Lib.decDigits];split<;>simp
theorem Zqr {v:Int} {c:UInt8} (h:c∈Lib.itoa v):c=45∨isDg c:=by
 unfold Lib.itoa at h
 split at h
 ·rcases List.mem_cons.1 h with h|h
  ·exact .inl h
  ·exact .inr (Ki h)
 ·exact .inr (Ki h)
theorem Jh {v:Int} {c b:UInt8} (h:c∈Lib.itoa v) (hb:b.toNat=32∨b.toNat=58∨b.toNat=10):c≠b:=by
 rintro rfl
 rcases Zqr h with rfl|h
 ·rcases hb with hb|hb|hb<;>cases hb
 ·unfold isDg at h;omega
theorem Zk9 (v:Int):Lib.itoa v≠[]:=by
 unfold Lib.itoa
 split
 ·simp
 ·exact Zdu _
theorem Zja {v:Int}:∃c l,Lib.itoa v=c::l:=by
 cases h:Lib.itoa v with
 | nil=>exact absurd h (Zk9 v)
 | cons c l=>exact⟨c,l,rfl⟩
def dgF (a:Nat) (c:UInt8):Nat:=if isDg c then a*10+(c.toNat - 48) else a
theorem Zj6:∀(k u:Nat),u < 10^(k+1)→(Lib.decDigits u).foldl dgF 0=u:=by
 intro k
 induction k with
 | zero=>
  intro u hu
  have e:=Zab (d:=u) (by omega)
  rw[Lib.decDigits,dif_pos (by omega)]
  simp only[List.foldl_cons,List.foldl_nil,dgF]
  rw[if_pos (by unfold isDg;omega)];omega
 | succ k ih=>
  intro u hu
  rw[Lib.decDigits]
  split
  ·have e:=Zab (d:=u) (by omega)
   simp only[List.foldl_cons,List.foldl_nil,dgF]
   rw[if_pos (by unfold isDg;omega)];omega
  ·have e:=Zab (d:=u % 10) (by omega)
   rw[List.foldl_append,ih (u / 10) (by rw[Nat.pow_succ] at hu;omega)]
   simp only[List.foldl_cons,List.foldl_nil,dgF]
   rw[if_pos (by unfold isDg;omega)];omega
theorem Zej (u:Nat):(Lib.decDigits u).foldl dgF 0=u:=Zj6 u u (Zio u)
theorem Zmq (v:Int):(Lib.itoa v).foldl dgF 0=v.natAbs:=by
 unfold Lib.itoa
 split
 ·rw[List.foldl_cons]
  show (Lib.decDigits v.natAbs).foldl dgF (if isDg 45 then _ else 0)=_
  rw[if_neg (by unfold isDg;decide),Zej]
 ·rw[Zej];omega
theorem Zm6:∀(l1 l2:List UInt8) (a:Nat),Lib.parseUint10 a (l1++l2)=match Lib.parseUint10 a l1 with|.ok u=>Lib.parseUint10 u l2|Lib.NumEnd.syntax=>Lib.NumEnd.syntax|.range=>.range:=by
 intro l1
 induction l1 with
 | nil=>intro l2 a;rfl
 | cons c r ih=>
  intro l2 a
  simp only[List.cons_append,Lib.parseUint10]
  split
  ·split
   ·rfl
   ·split
    ·rfl
    ·exact ih l2 _
  ·rfl
theorem Zir:∀(k u:Nat),u < 10^(k+1)→u < 18446744073709551616→Lib.parseUint10 0 (Lib.decDigits u)=.ok u:=by
 intro k
 induction k with
 | zero=>
  intro u hu hb
  have e:=Zab (d:=u) (by omega)
  rw[Lib.decDigits,dif_pos (by omega)]
  simp only[Lib.parseUint10]
  rw[if_pos (by omega),if_neg (by omega),if_neg (by omega)]
  congr 1;omega
 | succ k ih=>
  intro u hu hb
  rw[Lib.decDigits]
  split
  ·have e:=Zab (d:=u) (by omega)
   simp only[Lib.parseUint10]
   rw[if_pos (by omega),if_neg (by omega),if_neg (by omega)]
   congr 1;omega
  ·have e:=Zab (d:=u % 10) (by omega)
   rw[Zm6,ih (u / 10) (by rw[Nat.pow_succ] at hu;omega) (by omega)]
   simp only[Lib.parseUint10]
   rw[if_pos (by omega),if_neg (by omega),if_neg (by omega)]
   congr 1;omega
theorem Zn1 {v:Int} (h:InR v):Lib.atoiAll (Lib.itoa v)=.ok v:=by
 obtain⟨h1,h2⟩:=h
 have hp:∀u:Nat,u < 18446744073709551616→Lib.parseMag (Lib.decDigits u)=.ok u:=fun u hu=>by
  unfold Lib.parseMag
  rw[if_neg (Zdu u),Zir u u (Zio u) hu]
 unfold Lib.itoa
 split
 ·rename_i hn
  rw[Lib.atoiAll_minus,hp _ (by omega)]
  unfold Lib.signed
  simp only
  rw[if_neg (by omega)]
  congr 1;omega
 ·rename_i hn
  obtain⟨c,l,hl⟩:∃c l,Lib.decDigits v.toNat=c::l:=by
   cases h:Lib.decDigits v.toNat with
   | nil=>exact absurd h (Zdu _)
   | cons c l=>exact⟨c,l,rfl⟩
  have hd:isDg c:=Ki (u:=v.toNat) (by rw[hl];exact List.mem_cons_self)
  unfold isDg at hd
  rw[hl,Lib.atoiAll_plain c l (by omega) (by omega),←hl,hp _ (by omega)]
  unfold Lib.signless
  simp only
  rw[if_neg (by omega)]
  congr 1;omega
theorem Zbk {k u:Nat} (h:u < 10^(k+1)):(Lib.decDigits u).length≤k+1:=Zap k u h
theorem Zl1 {v d:Int} (h:-1000000000000000000 < v∧v < 1000000000000000000) (hd:18≤d):W9 (decB v) d=some (v,true):=by
 have hr:InR v:=⟨by omega,by omega⟩
 have hz:=Wi hr
 unfold W9
 have e:(decB v).data.toList=Lib.itoa v:=rfl
 rw[if_pos (by omega),e,Zn1 hr]
 simp only
 rw[if_pos]
 refine⟨trivial,?_⟩
 unfold Lib.trimPrefix
 by_cases hn:v < 0
 ·have e2:Lib.itoa v=45::Lib.decDigits v.natAbs:=by unfold Lib.itoa;rw[if_pos hn]
  have:=Zbk (k:=17) (u:=v.natAbs) (by omega)
  rw[e2,if_pos (by simp[Lib.hasPrefix,List.isPrefixOf])]
  simp;omega
 ·have e2:Lib.itoa v=Lib.decDigits v.toNat:=by unfold Lib.itoa;rw[if_neg hn]
  have:=Zbk (k:=17) (u:=v.toNat) (by omega)
  rw[e2]
  split
  ·simp;omega
  ·omega
theorem Zh9 {x:ByteArray} {d:Int} (h:x.size≤281474976710656):∃r,W9 x d=some r∧(r.2=true→L8 x=Lib.itoa r.1∧InR r.1):=by
 unfold W9
 rw[if_pos h]
 match hq:Lib.atoiAll x.data.toList with
 | .ok v=>
  simp only
  by_cases hc:Lib.itoa v=x.data.toList∧((Lib.trimPrefix x.data.toList [45]).length:Int)≤d
  ·rw[if_pos hc]
   refine⟨_,rfl,fun _=>⟨hc.1.symm,?_⟩⟩
   unfold Lib.atoiAll at hq
   split at hq
   ·cases hq
   ·simp only at hq
    split at hq
    ·cases hq
    ·cases hq
    ·split at hq
     ·cases hq
     ·rename_i h1
      split at hq
      ·cases hq
      ·rename_i h2
       injection hq with hq
       split at hq
       ·rename_i h3
        have:=Nat.le_of_not_lt fun hh=>h2 ⟨h3,hh⟩
        exact⟨by show _≤v;omega,by show v≤_;omega⟩
       ·rename_i h3
        have:=Nat.lt_of_not_le fun hh=>h1 ⟨h3,hh⟩
        exact⟨by show _≤v;omega,by show v≤_;omega⟩
  ·rw[if_neg hc];exact⟨_,rfl,fun h=>by cases h⟩
 | Lib.NumEnd.syntax=>exact⟨_,rfl,fun h=>by cases h⟩
 | .range=>exact⟨_,rfl,fun h=>by cases h⟩
theorem Za6 (x a b:Int):Yt x a b=some (decide (a≤x∧x≤b)):=by
 unfold Yt
 by_cases h:a≤x<;>simp[h]
theorem Kh (x a b:Int):Ya x a b=some (decide (a≤x∧x≤b)):=by
 unfold Ya
 by_cases h:a≤x<;>simp[h]
def Wf (c:GConf):Int:=if (0≤c.maxRetry∧c.maxRetry≤3)∧(0≤c.maxWait∧c.maxWait≤3) then (c.maxRetry+2)*(c.maxWait+6) else 0
def Yn (c:GConf):Int:=if Wf c=0 then 0 else if 1≤c.lockMost∧c.lockMost≤40 then 2*Wf c+c.lockMost else 0
def Yd (c:GConf):Nat:=c.masters.countP (·.prio)
def Y4 (c:GConf) (m:GMConf):Bool:=decide (1≤m.weight∧m.weight≤4)&&if m.prio then decide (2*Yn c*Yd c≤m.every∧m.every≤1000)&&decide (1≤m.cap∧m.cap≤8) else decide (m.every=0)&&decide (m.cap=0)
def Ym (c:GConf):Bool:=decide (1≤(c.masters.length:Int)∧(c.masters.length:Int)≤4)&&decide (1≤c.quantum∧c.quantum≤4)&&decide (1≤c.maxSplit∧c.maxSplit≤12)&&decide (Yn c≠0)&&c.masters.all (Y4 c)
theorem Zcy (c:GConf):0≤Wf c∧Wf c≤45:=by
 unfold Wf
 split
 ·rename_i h
  obtain⟨⟨h1,h2⟩,h3,h4⟩:=h
  generalize c.maxRetry=a at*
  generalize c.maxWait=b at*
  have:a=0∨a=1∨a=2∨a=3:=by omega
  rcases this with rfl|rfl|rfl|rfl<;>omega
 ·omega
theorem Zcw (c:GConf):0≤Yn c∧Yn c≤130:=by
 have:=Zcy c
 unfold Yn
 split
 ·omega
 ·split<;>omega
theorem Jp (c:GConf):W8 c=some (Wf c):=by
 unfold W8
 rw[Kh,Option.bind_some,Kh,Option.bind_some]
 unfold Qx Wf
 by_cases h1:0≤c.maxRetry∧c.maxRetry≤3
 ·by_cases h2:0≤c.maxWait∧c.maxWait≤3
  ·have:=Zcy c
   unfold Wf at this
   rw[if_pos ⟨h1,h2⟩] at this
   simp only[h1,h2,decide_true,Bool.not_true,Bool.false_eq_true,if_false,and_self,if_true]
   rw[Yr (by omega) (by omega),Yr (by omega) (by omega),W1 (by omega) (by omega)]
  ·simp[h1,h2]
 ·simp[h1]
theorem Zkd (c:GConf):Kx c=some (Wf c):=by
 rw[←Jp]
 unfold Kx W8
 simp only[Kh,Za6]
 rfl
theorem Zbq (c:GConf):Xx c=some (Yn c):=by
 have:=Zcy c
 unfold Xx Yn
 rw[Jp,Option.bind_some,Kh,Option.bind_some,Option.bind_some]
 by_cases h0:Wf c=0
 ·simp[h0]
 ·by_cases h1:1≤c.lockMost∧c.lockMost≤40
  ·simp only[h0,h1,decide_true,decide_false,Bool.not_true,Bool.false_eq_true,if_false,and_self,if_true]
   rw[W1 (by omega) (by omega),Yr (by omega) (by omega)]
  ·simp[h0,h1]
theorem Zeb (c:GConf):K8 c=some (Yn c):=by
 rw[←Zbq]
 unfold K8 Xx
 simp only[Kh,Za6,Jp,Zkd]
theorem Zhl (c:GConf):K2 c=some (decide (1≤c.quantum∧c.quantum≤4)&&decide (1≤c.maxSplit∧c.maxSplit≤12)&&decide (Yn c≠0)):=by
 have:=Zcy c
 unfold K2 Yn
 simp only[Kh,Jp,Option.bind_some]
 by_cases h1:1≤c.quantum∧c.quantum≤4
 ·by_cases h2:Wf c=0
  ·simp[h2]
  ·have h3:Wf c > 0:=by omega
   by_cases h4:1≤c.maxSplit∧c.maxSplit≤12
   ·by_cases h5:1≤c.lockMost∧c.lockMost≤40
    ·have:¬(2*Wf c+c.lockMost=0):=by omega
     simp[h1,h2,h3,h4,h5,this]
    ·simp[h1,h2,h3,h4,h5]
   ·simp[h1,h2,h3,h4]
 ·simp[h1]
theorem Zfy (xs:List GMConf):∀(n:Int),0≤n→n+xs.length < 4611686018427387904→∀{ρ:Type} (fin:Int→Option ρ),runL (fun (a:GMConf) n=>some (.inl (if a.prio=true then addW n 1 else n))) fin xs n=fin (n+(xs.countP (·.prio):Nat)):=by
 induction xs with
 | nil=>intro n _ _ ρ fin;simp[runL]
 | cons a l ih=>
  intro n h0 hl ρ fin
  simp only[List.length_cons] at hl
  simp only[runL,Option.bind_some,List.countP_cons]
  by_cases h:a.prio=true
  ·rw[if_pos h,Yr (by omega) (by omega),ih _ (by omega) (by omega),if_pos h]
   congr 1;omega
  ·rw[if_neg h,ih _ (by omega) (by omega),if_neg h]
   congr 1
theorem Zlq (c:GConf) (hl:c.masters.length < 1048577):Za3 c=some (Yd c:Int):=by
 unfold Za3
 rw[Zji c.masters (by omega) (fun (a:GMConf) n=>some (.inl (if a.prio=true then addW n 1 else n))) some (Q8 c) (fun m s i=>?_) 0,Zfy _ _ (by omega) (by omega)]
 ·simp[Yd]
 ·show Jk c _ s i=_
  unfold Jk
  congr 1;congr 1;funext a
  by_cases h:a.prio=true<;>simp[h,goL]
theorem Zg4 (c:GConf):Yd c≤c.masters.length:=List.countP_le_length
theorem Zi5 (c:GConf) (hl:c.masters.length < 1048577):0≤Yn c*(Yd c:Int)∧Yn c*(Yd c:Int)≤136314880:=by
 have h1:=Zcw c
 have h2:=Zg4 c
 constructor
 ·exact Int.mul_nonneg h1.1 (by omega)
 ·have h3:Yn c*(Yd c:Int)≤130*(Yd c:Int):=Int.mul_le_mul_of_nonneg_right h1.2 (by omega)
  omega
theorem Zfa (c:GConf) (hl:c.masters.length < 1048577):Qz c=some (2*Yn c*Yd c):=by
 have h1:=Zcw c
 have h2:=Zi5 c hl
 unfold Qz
 rw[Zeb,Option.bind_some,Zlq c hl,Option.bind_some]
 rw[W1 (a:=2) (by omega) (by omega),W1 (by rw[Int.mul_assoc];omega) (by rw[Int.mul_assoc];omega)]
theorem Zhp (c:GConf) (m:GMConf) (hl:c.masters.length < 1048577):K1 m c=some (!Y4 c m):=by
 unfold K1 Y4
 simp only[Za6,Option.bind_some,Zfa c hl]
 by_cases h1:1≤m.weight∧m.weight≤4
 ·by_cases h2:m.prio=true
  ·by_cases h3:2*Yn c*Yd c≤m.every∧m.every≤1000
   ·simp[h1,h2,h3]
   ·simp[h1,h2,h3]
  ·by_cases h3:m.every=0
   ·simp[h1,h2,h3]
   ·simp[h1,h2,h3]
 ·simp[h1]
theorem Zki (c:GConf) (xs:List GMConf) (hl:c.masters.length < 1048577) (hx:xs.length < 4611686018427387904):Zp xs c=some (!xs.all (Y4 c)):=by
 unfold Zp Yb
 have key:∀(m k:Nat),k≤xs.length→xs.length - k < m→∃r,Zg xs c m k=some r∧decide (r≥0)=!(xs.drop k).all (Y4 c):=by
  intro m
  induction m with
  | zero=>intro k _ h;omega
  | succ m ih=>
   intro k hk hm
   have e:Zg xs c (m+1) k=Zy xs c (Zg xs c m) k:=rfl
   rw[e]
   unfold Zy
   by_cases hc:k < xs.length
   ·have h1:decide ((k:Int) < (xs.length:Int))=true:=by simpa using hc
    rw[if_pos h1,Zl hc,Option.bind_some,Zhp c _ hl,Option.bind_some,List.drop_eq_getElem_cons hc,List.all_cons]
    by_cases hq:Y4 c xs[k]=true
    ·have h2:¬(!Y4 c xs[k])=true:=by simp[hq]
     rw[if_neg h2,Yy (by omega),hq,Bool.true_and]
     exact ih (k+1) (by omega) (by omega)
    ·have h2:(!Y4 c xs[k])=true:=by simpa using hq
     rw[if_pos h2]
     refine⟨_,rfl,?_⟩
     simp[hq]
   ·have h1:¬decide ((k:Int) < (xs.length:Int))=true:=by simpa using hc
    rw[if_neg h1,List.drop_eq_nil_of_le (by omega)]
    exact⟨_,rfl,by simp⟩
 obtain⟨r,hr,hq⟩:=key FU 0 (Nat.zero_le _) (by have:=Ww;omega)
 rw[show ((0:Nat):Int)=0 from rfl] at hr
 rw[hr,Option.bind_some,hq,List.drop_zero]
theorem Zbr (c:GConf) (hl:c.masters.length < 1048577):W3 c=some (Ym c):=by
 unfold W3 Ym
 simp only[Za6,Option.bind_some,Zeb,Zki c c.masters hl (by omega),Bool.not_not]
 by_cases h1:1≤(c.masters.length:Int)∧(c.masters.length:Int)≤4
 ·by_cases h2:1≤c.quantum∧c.quantum≤4
  ·by_cases h3:1≤c.maxSplit∧c.maxSplit≤12
   ·by_cases h4:Yn c=0<;>simp[h1,h2,h3,h4]
   ·simp[h1,h2,h3]
  ·simp[h1,h2]
 ·simp[h1]
theorem Zok (c:GConf) (m:GMConf) (hl:c.masters.length < 1048577) (k:Option Bool):
  ((Ya m.weight 1 4).bind fun r1102=>
  if (!r1102)=true then some false
  else if (!m.prio)=true then
    if decide (m.every≠0)=true then some false
    else if decide (m.cap≠0)=true then some false
     else if m.prio=true then
       (Xx c).bind fun r1128=>
       (Ya m.every (mulW (mulW 2 (Yd c:Int)) r1128) 1000).bind fun r1130=>
       if (!r1130)=true then some false
       else (Ya m.cap 1 8).bind fun r1135=>if (!r1135)=true then some false else k
      else k
   else if m.prio=true then
     (Xx c).bind fun r1128=>
     (Ya m.every (mulW (mulW 2 (Yd c:Int)) r1128) 1000).bind fun r1130=>
     if (!r1130)=true then some false
     else (Ya m.cap 1 8).bind fun r1135=>if (!r1135)=true then some false else k
    else k)=if Y4 c m=true then k else some false:=by
 have h1:=Zcw c
 have h2:=Zi5 c hl
 have h3:=Zg4 c
 have e:mulW (mulW 2 (Yd c:Int)) (Yn c)=2*Yn c*Yd c:=by
  have e2:2*(Yd c:Int)*Yn c=2*(Yn c*(Yd c:Int)):=by rw[Int.mul_assoc,Int.mul_comm (Yd c:Int)]
  rw[W1 (a:=2) (by omega) (by omega),W1 (by rw[e2];omega) (by rw[e2];omega),e2,Int.mul_assoc]
 unfold Y4
 simp only[Kh,Option.bind_some,Zbq,e]
 by_cases h1:1≤m.weight∧m.weight≤4
 ·by_cases h2:m.prio=true
  ·by_cases h3:2*Yn c*Yd c≤m.every∧m.every≤1000
   ·by_cases h4:1≤m.cap∧m.cap≤8<;>simp[h1,h2,h3,h4]
   ·simp[h1,h2,h3]
  ·by_cases h3:m.every=0
   ·by_cases h4:m.cap=0<;>simp[h1,h2,h3,h4]
   ·simp[h1,h2,h3]
 ·simp[h1]
theorem Zfm (c:GConf) (hl:c.masters.length < 1048577):Y1 c FU (Yd c:Int) 0=some (Ym c):=by
 have key:∀(m k:Nat),k≤c.masters.length→c.masters.length - k < m→Y1 c m (Yd c:Int) k=some (decide (1≤(c.masters.length:Int)∧(c.masters.length:Int)≤4)&&decide (1≤c.quantum∧c.quantum≤4)&&decide (1≤c.maxSplit∧c.maxSplit≤12)&&decide (Yn c≠0)&&(c.masters.drop k).all (Y4 c)):=by
  intro m
  induction m with
  | zero=>intro k _ h;omega
  | succ m ih=>
   intro k hk hm
   have e:Y1 c (m+1) (Yd c:Int) k=Kt c (Y1 c m) (Yd c:Int) k:=rfl
   rw[e]
   unfold Kt
   by_cases hc:k < c.masters.length
   ·have h1:decide ((k:Int) < (c.masters.length:Int))=true:=by simpa using hc
    rw[if_pos h1,Zl hc,Option.bind_some,Zok c _ hl,List.drop_eq_getElem_cons hc,List.all_cons,Yy (by omega),ih (k+1) (by omega) (by omega)]
    by_cases hq:Y4 c c.masters[k]=true
    ·simp[hq]
    ·simp[hq]
   ·have h1:¬decide ((k:Int) < (c.masters.length:Int))=true:=by simpa using hc
    rw[if_neg h1,List.drop_eq_nil_of_le (by omega),Kh,Option.bind_some,Zhl]
    by_cases h2:1≤(c.masters.length:Int)∧(c.masters.length:Int)≤4
    ·simp[h2]
    ·simp[h2]
 have:=key FU 0 (Nat.zero_le _) (by have:=Ww;omega)
 simpa [Ym] using this
theorem Zeg (c:GConf) (hl:c.masters.length < 1048577):Kw c=some (Ym c):=by
 unfold Kw
 rw[Zji c.masters (by omega) (fun (a:GMConf) n=>some (.inl (if a.prio=true then addW n 1 else n))) (fun n=>Y1 c FU n 0) (Q1 c) (fun m s i=>?_) 0,Zfy _ _ (by omega) (by omega)]
 ·rw[show (0:Int)+(c.masters.countP (·.prio):Nat)=(Yd c:Int) by simp[Yd]]
  exact Zfm c hl
 ·show Kn c _ s i=_
  unfold Kn
  congr 1;congr 1;funext a
  by_cases h:a.prio=true<;>simp[h,goL]
theorem Zju {c:GConf} {m:GMConf} (h:Ym c=true) (hm:m∈c.masters):1≤m.weight∧m.weight≤4:=by
 simp only[Ym,Bool.and_eq_true,List.all_eq_true] at h
 have:=h.2 m hm
 simp only[Y4,Bool.and_eq_true,decide_eq_true_eq] at this
 exact this.1
theorem Zku {c:GConf} {m:GMConf} (h:Y4 c m=true):-1≤m.every∧m.every≤1000∧0≤m.cap∧m.cap≤8:=by
 have h1:=Zcw c
 have h2:0≤2*Yn c*(Yd c:Int):=Int.mul_nonneg (by omega) (by omega)
 simp only[Y4,Bool.and_eq_true,decide_eq_true_eq] at h
 obtain⟨h3,h4⟩:=h
 split at h4
 ·simp only[Bool.and_eq_true,decide_eq_true_eq] at h4;omega
 ·simp only[Bool.and_eq_true,decide_eq_true_eq] at h4;omega
theorem Zhg {l:List Int} (hl:l.length < 1048577) (h:∀x∈l,InR x):Kd l=some (l.map decB):=by
 unfold Kd
 refine Zac (σ:=List ByteArray) (n:=l.length) (by omega) (fun k=>(l.take k).map decB) (B:=fun κ st j=>Kc l κ st j) (L:=fun m st j=>Kl l m st j) (fun m s i=>rfl) (fun k hk κ=>?_) fun κ=>?_
 ·unfold Kc
  have h2:(l.take k).length≤k:=by rw[List.length_take];omega
  rw[if_pos (by simpa using hk),Zl hk,Option.bind_some,Zjp (h _ (List.getElem_mem hk)),Option.bind_some,X8 (by simp;omega) (by simp;omega),Option.bind_some,List.take_succ_eq_append_getElem hk,List.map_append]
  rfl
 ·unfold Kc
  rw[if_neg (by simp),List.take_length]
theorem Zoa (a:Int):InR (IntKind.i64.wrap a):=by
 unfold InR
 simp[IntKind.wrap,IntKind.bits,IntKind.signed]
 constructor<;>omega
theorem Zn2:∀(l:List UInt8) (a k:Nat),a < 10^k→l.foldl dgF a < 10^(k+l.length):=by
 intro l
 induction l with
 | nil=>intro a k h;exact h
 | cons c l ih=>
  intro a k h
  rw[List.foldl_cons,List.length_cons,show k+(l.length+1)=(k+1)+l.length by omega]
  refine ih _ _ ?_
  unfold dgF
  rw[Nat.pow_succ]
  split
  ·rename_i hd;unfold isDg at hd;omega
  ·omega
def rdN (l:List UInt8):Nat:=l.foldl dgF 0
def rdK (l:List UInt8):Nat:=l.countP fun c=>decide (isDg c)
theorem Zps (l:List UInt8) (c:UInt8):rdN (l++[c])=dgF (rdN l) c:=by unfold rdN;rw[List.foldl_append];rfl
theorem Zoh (l:List UInt8) (c:UInt8):rdK (l++[c])=rdK l+if isDg c then 1 else 0:=by
 unfold rdK
 rw[List.countP_append,List.countP_cons,List.countP_nil]
 simp
theorem dgW {c:UInt8} (h:isDg c):w64 (Zmi (c.toNat:Int) 48)=((c.toNat - 48:Nat):Int):=by
 unfold isDg at h
 simp[w64,Zmi,IntKind.wrap,IntKind.bits,IntKind.signed];omega
theorem Zdc (x:ByteArray):Yi x=(if 0 < (L8 x).length then (atS x 0).bind fun a=>Zq x (rdN ((L8 x).take 11)) (rdK ((L8 x).take 11)) (decide (a=45)) else Zq x (rdN ((L8 x).take 11)) (rdK ((L8 x).take 11)) false):=by
 unfold Yi
 have hsz:=Z5 x
 have fin:∀(κ:Int→Int→Int→Option (Int×Bool)) (n k:Int) (i:Int),Xp x κ n k i false=(if 0 < (L8 x).length then (atS x 0).bind fun a=>Zq x n k (decide (a=45)) else Zq x n k false):=fun κ n k i=>by
  unfold Xp
  rw[if_neg (by simp),hsz]
  by_cases h0:0 < (L8 x).length
  ·rw[if_pos (by simpa using h0),if_pos h0]
  ·rw[if_neg (by simpa using h0),if_neg h0]
 have hT:((L8 x).take 11).length=min 11 (L8 x).length:=List.length_take
 have:=Zac (σ:=Int×Int) (n:=((L8 x).take 11).length) (by omega) (fun k=>((rdN (((L8 x).take 11).take k):Int),(rdK (((L8 x).take 11).take k):Int))) (B:=fun κ st j=>W7 x (fun a b c=>κ (a,b) c) st.1 st.2 j) (L:=fun m st j=>Ql x m st.1 st.2 j) (fun m s i=>rfl) (fun k hk κ=>?_) (r:=(if 0 < (L8 x).length then (atS x 0).bind fun a=>Zq x (rdN ((L8 x).take 11)) (rdK ((L8 x).take 11)) (decide (a=45)) else Zq x (rdN ((L8 x).take 11)) (rdK ((L8 x).take 11)) false)) fun κ=>?_
 ·simpa [rdN,rdK] using this
 ·have hk1:k < (L8 x).length:=by omega
  have hk2:k < 11:=by omega
  have hg:((L8 x).take 11)[k]=(L8 x)[k]:=by simp
  have e:=List.take_succ_eq_append_getElem (l:=(L8 x).take 11) hk
  have hb:=Zn2 (((L8 x).take 11).take k) 0 0 (by simp)
  have hb2:10^(0+(((L8 x).take 11).take k).length)≤10^11:=Nat.pow_le_pow_right (by omega) (by simp;omega)
  have hb3:rdN (((L8 x).take 11).take k) < 10^11:=Nat.lt_of_lt_of_le hb hb2
  have hkc:rdK (((L8 x).take 11).take k)≤11:=by
   unfold rdK
   have:=List.countP_le_length (p:=fun c=>decide (isDg c)) (l:=((L8 x).take 11).take k)
   simp at this;omega
  unfold W7
  rw[if_pos (by rw[hsz];simpa using hk1)]
  unfold Xp
  simp only
  rw[if_pos (by simp;omega),Jj hk1,Option.bind_some,e,Zps,Zoh,hg]
  have step:∀b:Bool,(b=true↔isDg (L8 x)[k])→Wk x (fun a b c=>κ (a,b) c) (rdN (((L8 x).take 11).take k)) (rdK (((L8 x).take 11).take k)) k b=κ (((dgF (rdN (((L8 x).take 11).take k)) (L8 x)[k]:Nat):Int),((rdK (((L8 x).take 11).take k)+if isDg (L8 x)[k] then 1 else 0:Nat):Int)) (addW k 1):=fun b hb=>by
   unfold Wk dgF
   by_cases hd:isDg (L8 x)[k]
   ·rw[if_pos (hb.2 hd),if_pos hd,if_pos hd,Jj hk1,Option.bind_some,dgW hd,W1 (by omega) (by omega),Yr (a:=_*10) (by unfold isDg at hd;omega) (by unfold isDg at hd;omega),Yy (by omega)]
    rfl
   ·rw[if_neg (fun h=>hd (hb.1 h)),if_neg hd,if_neg hd];rfl
  by_cases h48:48≤(L8 x)[k].toNat
  ·rw[if_pos (decide_eq_true (by omega))]
   exact step _ (by unfold isDg;simp;omega)
  ·rw[if_neg (by rw[decide_eq_true_eq];omega)]
   exact step _ (by unfold isDg;simp;omega)
 ·unfold W7
  rw[List.take_length]
  simp only
  by_cases hc:((L8 x).take 11).length < (L8 x).length
  ·rw[if_pos (by rw[hsz];simpa using hc),show decide (((((L8 x).take 11).length:Nat):Int) < 11)=false by simp;omega,fin]
  ·rw[if_neg (by rw[hsz];simpa using hc),fin]
theorem rdN_lt (l:List UInt8):rdN (l.take 11) < 10^11:=by
 have hb:=Zn2 (l.take 11) 0 0 (by simp)
 exact Nat.lt_of_lt_of_le hb (Nat.pow_le_pow_right (by omega) (by simp;omega))
theorem Y9 (x:ByteArray):∃r,Yi x=some r:=by
 have h11:=rdN_lt (L8 x)
 have j5:∀(v k:Int),InR v→∃r,Y6 x v k=some r:=fun v k hv=>by
  unfold Y6
  rw[Wq hv,Option.bind_some]
  split
  ·exact⟨_,rfl⟩
  ·split
   ·exact⟨_,rfl⟩
   ·split<;>exact⟨_,rfl⟩
 have j4:∀b,∃r,Zq x (rdN ((L8 x).take 11)) (rdK ((L8 x).take 11)) b=some r:=fun b=>by
  unfold Zq
  split
  ·exact j5 _ _ (Zoa _)
  ·exact j5 _ _ ⟨by omega,by omega⟩
 rw[Zdc]
 split
 ·rename_i h0
  rw[show (0:Int)=((0:Nat):Int) from rfl,Jj h0,Option.bind_some]
  exact j4 _
 ·exact j4 _
theorem Zfw {l:List UInt8} (h:∀c∈l,isDg c):rdK l=l.length:=by
 unfold rdK
 rw[List.countP_eq_length]
 intro c hc
 exact decide_eq_true (h c hc)
theorem Zm3 (x:ByteArray):(x.toList == x.toList)=true:=beq_self_eq_true _
theorem Xi {v:Int} (h:-1000000000 < v∧v < 1000000000):Yi (decB v)=some (v,true):=by
 have hr:InR v:=⟨by omega,by omega⟩
 have key:∀k:Int,k≤9→(decB v).size≤10→Y6 (decB v) v k=some (v,true):=fun k hk hz=>by
  unfold Y6
  rw[if_neg (by rw[decide_eq_true_eq];omega),if_neg (by rw[decide_eq_true_eq];omega),Wq hr,Option.bind_some,if_neg (by rw[Zm3];simp)]
 have ha:=Zmq v
 rw[Zdc,Yp]
 by_cases hn:v < 0
 ·have e2:Lib.itoa v=45::Lib.decDigits v.natAbs:=by unfold Lib.itoa;rw[if_pos hn]
  have hl:=Zbk (k:=8) (u:=v.natAbs) (by omega)
  have ht:(Lib.itoa v).take 11=Lib.itoa v:=List.take_of_length_le (by rw[e2];simp;omega)
  have hk:rdK (Lib.itoa v)=(Lib.decDigits v.natAbs).length:=by
   rw[e2]
   unfold rdK
   rw[List.countP_cons,if_neg (by decide)]
   exact Zfw fun c hc=>Ki hc
  rw[if_pos (by rw[e2];simp),ht,show (0:Int)=((0:Nat):Int) from rfl,Jj (by rw[Yp,e2];simp),Option.bind_some]
  have h45:(L8 (decB v))[0]'(by rw[Yp,e2];simp)=45:=by simp[Yp,e2]
  rw[h45]
  show Zq (decB v) _ _ true=_
  unfold Zq
  rw[if_pos rfl,show ((rdN (Lib.itoa v):Nat):Int)=-v by unfold rdN;rw[ha];omega,hk]
  have:negW (-v)=v:=by simp[negW,IntKind.wrap,IntKind.bits,IntKind.signed];omega
  rw[this]
  exact key _ (by omega) (by rw[Z5,Yp,e2];simp;omega)
 ·have e2:Lib.itoa v=Lib.decDigits v.toNat:=by unfold Lib.itoa;rw[if_neg hn]
  have hl:=Zbk (k:=8) (u:=v.toNat) (by omega)
  have ht:(Lib.itoa v).take 11=Lib.itoa v:=List.take_of_length_le (by rw[e2];omega)
  have hne:=Zk9 v
  have hpos:0 < (Lib.itoa v).length:=List.length_pos_iff.2 hne
  have hk:rdK (Lib.itoa v)=(Lib.decDigits v.toNat).length:=by
   rw[e2];exact Zfw fun c hc=>Ki hc
  rw[if_pos hpos,ht,show (0:Int)=((0:Nat):Int) from rfl,Jj (by rw[Yp];exact hpos),Option.bind_some]
  have hd:isDg ((L8 (decB v))[0]'(by rw[Yp];exact hpos)):=by
   refine Ki (u:=v.toNat) ?_
   rw[←e2]
   exact List.getElem_mem hpos
  rw[show decide ((((L8 (decB v))[0]'(by rw[Yp];exact hpos)).toNat:Int)=45)=false by unfold isDg at hd;simp;omega]
  unfold Zq
  rw[if_neg (by simp),show ((rdN (Lib.itoa v):Nat):Int)=v by unfold rdN;rw[ha];omega,hk]
  exact key _ (by omega) (by rw[Z5,Yp,e2];omega)
theorem Zc7 {ws:List ByteArray} (hl:ws.length < 1048600) (hz:∀w∈ws,w.size≤281474976710656):∃r,Qh ws=some r∧(r.2=true→r.1.length=ws.length∧∀v∈r.1,InR v):=by
 have key:∀(m k:Nat) (out:List Int),k≤ws.length→ws.length - k < m→out.length=k→(∀v∈out,InR v)→∃r,Xq ws m out (k:Int)=some r∧(r.2=true→r.1.length=ws.length∧∀v∈r.1,InR v):=by
  intro m
  induction m with
  | zero=>intro k out _ h;omega
  | succ m ih=>
   intro k out hk hm ho hv
   show ∃r,Xh ws (Xq ws m) out (k:Int)=some r∧_
   unfold Xh
   by_cases hc:k < ws.length
   ·obtain⟨r,h1,h2⟩:=Zh9 (d:=18) (hz _ (List.getElem_mem hc))
    rw[if_pos (by simpa using hc),Zl hc,Option.bind_some,h1,Option.bind_some]
    by_cases hr:r.2=true
    ·rw[if_neg (by simp[hr]),X8 (by simp;omega) (by simp;omega),Option.bind_some,Yy (by omega)]
     refine ih (k+1) _ (by omega) (by omega) (by simp;omega) fun v hv2=>?_
     rcases List.mem_append.1 hv2 with hv2|hv2
     ·exact hv v hv2
     ·rw[List.mem_singleton.1 hv2];exact (h2 hr).2
    ·rw[if_pos (by simp[hr])]
     exact⟨_,rfl,fun h=>by cases h⟩
   ·rw[if_neg (by simpa using hc)]
    exact⟨_,rfl,fun _=>⟨by show out.length=_;omega,hv⟩⟩
 exact key FU 0 [] (Nat.zero_le _) (by have:=Ww;omega) rfl (by simp)
theorem Zem {l:List Int} (hl:l.length < 1048600) (h:∀v∈l,-1000000000000000000 < v∧v < 1000000000000000000):Qh (l.map decB)=some (l,true):=by
 unfold Qh
 refine Zac (σ:=List Int) (n:=l.length) (by omega) (fun k=>l.take k) (B:=fun κ st j=>Xh (l.map decB) κ st j) (L:=fun m st j=>Xq (l.map decB) m st j) (fun m s i=>rfl) (fun k hk κ=>?_) fun κ=>?_
 ·unfold Xh
  rw[if_pos (by simpa using hk),Zl (by simpa using hk),Option.bind_some,List.getElem_map,Zl1 (h _ (List.getElem_mem hk)) (by omega),Option.bind_some,if_neg (by simp),X8 (by simp;omega) (by simp;omega),Option.bind_some,List.take_succ_eq_append_getElem hk]
 ·unfold Xh
  rw[if_neg (by simp),List.take_length]
theorem Zgw {ws:List ByteArray} {l:List Int} (h:ws.map L8=l.map Lib.itoa):ws=l.map decB:=by
 induction ws generalizing l with
 | nil=>cases l with
  | nil=>rfl
  | cons a l=>simp at h
 | cons w ws ih=>cases l with
  | nil=>simp at h
  | cons a l=>
   simp only[List.map_cons,List.cons.injEq] at h ⊢
   exact⟨Zcd h.1,ih h.2⟩
def mW (m:GMConf):List UInt8:=if m.prio=true then Lib.itoa m.weight++[58]++Lib.itoa m.every++[58]++Lib.itoa m.cap else Lib.itoa m.weight
def Zd5 (c:GConf):List UInt8:=Lib.itoa c.quantum++[32]++Lib.itoa c.maxWait++[32]++Lib.itoa c.maxRetry++[32]++Lib.itoa c.maxSplit++[32]++Lib.itoa c.lockMost
def Xa (c:GConf):List UInt8:=Zd5 c++c.masters.flatMap fun m=>[32]++mW m
def Yc (c:GConf):List Int:=[c.quantum,c.maxWait,c.maxRetry,c.maxSplit,c.lockMost]
def Xd (c:GConf):List (List UInt8):=(Yc c).map Lib.itoa++c.masters.map mW
theorem Zcv (c:GConf):Xa c=Lib.join (Xd c) [32]:=by
 unfold Xa Xd Zd5 Yc
 simp only[List.map_cons,List.map_nil,List.cons_append,List.nil_append]
 rw[Lib.join_cons]
 unfold Lib.joinTail
 simp only[List.map_cons,List.flatten_cons,List.append_assoc,List.map_map,List.flatMap_def]
 rfl
structure ConfS (c:GConf):Prop where
 q:1≤c.quantum∧c.quantum≤4
 w:0≤c.maxWait∧c.maxWait≤3
 r:0≤c.maxRetry∧c.maxRetry≤3
 s:1≤c.maxSplit∧c.maxSplit≤12
 k:1≤c.lockMost∧c.lockMost≤40
 n:1≤c.masters.length∧c.masters.length≤4
 m:∀m∈c.masters,(1≤m.weight∧m.weight≤4)∧(-1≤m.every∧m.every≤1000)∧(0≤m.cap∧m.cap≤8)∧(m.prio=false→m.every=0∧m.cap=0)
theorem Zds {c:GConf} (h:Ym c=true):ConfS c:=by
 have h0:=h
 simp only[Ym,Bool.and_eq_true,decide_eq_true_eq,List.all_eq_true] at h
 obtain⟨⟨⟨⟨h1,h2⟩,h3⟩,h4⟩,h5⟩:=h
 have hk:Wf c≠0∧1≤c.lockMost∧c.lockMost≤40:=by
  unfold Yn at h4
  split at h4
  ·exact absurd rfl h4
  ·split at h4
   ·rename_i a b;exact⟨a,b⟩
   ·exact absurd rfl h4
 have hc:(0≤c.maxRetry∧c.maxRetry≤3)∧(0≤c.maxWait∧c.maxWait≤3):=by
  have:=hk.1
  unfold Wf at this
  split at this
  ·assumption
  ·exact absurd rfl this
 refine⟨h2,hc.2,hc.1,h3,hk.2,by omega,fun m hm=>?_⟩
 have hm2:=h5 m hm
 have he:=Zku hm2
 refine⟨Zju h0 hm,⟨he.1,he.2.1⟩,he.2.2,fun hp=>?_⟩
 simp only[Y4,Bool.and_eq_true,decide_eq_true_eq,hp] at hm2
 simpa using hm2.2
theorem Zls {m:GMConf} (h1:InR m.weight) (h2:InR m.every) (h3:InR m.cap):(mW m).length≤62:=by
 have:=Xo h1
 have:=Xo h2
 have:=Xo h3
 unfold mW
 split<;>simp<;>omega
theorem Zdb {c:GConf} (hl:c.masters.length < 1048577):Wy c=some (if Ym c=true then ⟨(Xa c).toArray⟩ else ByteArray.empty):=by
 unfold Wy
 rw[Zeg c hl,Option.bind_some]
 by_cases h:Ym c=true
 ·obtain⟨hq,hw,hr,hs,hk,hn,hm⟩:=Zds h
  have iq:InR c.quantum:=⟨by omega,by omega⟩
  have iw:InR c.maxWait:=⟨by omega,by omega⟩
  have ir:InR c.maxRetry:=⟨by omega,by omega⟩
  have is_:InR c.maxSplit:=⟨by omega,by omega⟩
  have ik:InR c.lockMost:=⟨by omega,by omega⟩
  have z1:=Wi iq
  have z2:=Wi iw
  have z3:=Wi ir
  have z4:=Wi is_
  have z5:=Wi ik
  rw[if_neg (by simp[h]),if_pos h]
  simp only[Wq iq,Wq iw,Wq ir,Wq is_,Wq ik,Option.bind_some]
  simp (disch:=(first|omega|(simp only[Xg,Wj,List.length_cons,List.length_nil];omega))) only[Zb3,Option.bind_some]
  have key:∀(m k:Nat) (v0:ByteArray),k≤c.masters.length→c.masters.length - k < m→v0.size≤200+70*k→X3 c m v0 (k:Int)=some ⟨(L8 v0++(c.masters.drop k).flatMap fun m=>[32]++mW m).toArray⟩:=by
   intro m
   induction m with
   | zero=>intro k v0 _ h;omega
   | succ m ih=>
    intro k v0 hk hm' hv
    show Q5 c (X3 c m) v0 (k:Int)=_
    unfold Q5
    by_cases hc:k < c.masters.length
    ·obtain⟨⟨m1,m2⟩,⟨m3,m4⟩,⟨m5,m6⟩,_⟩:=hm _ (List.getElem_mem hc)
     have i1:InR c.masters[k].weight:=⟨by omega,by omega⟩
     have i2:InR c.masters[k].every:=⟨by omega,by omega⟩
     have i3:InR c.masters[k].cap:=⟨by omega,by omega⟩
     have y1:=Wi i1
     have y2:=Wi i2
     have y3:=Wi i3
     rw[if_pos (by simpa using hc),Zl hc,Option.bind_some,Wq i1,Wq i2,Wq i3,List.drop_eq_getElem_cons hc,List.flatMap_cons]
     simp (disch:=(first|omega|(simp only[Xg,Wj,List.length_cons,List.length_nil];omega))) only[Zb3,Option.bind_some]
     rw[Yy (by omega)]
     by_cases hp:c.masters[k].prio=true
     ·rw[if_pos hp,ih (k+1) _ (by omega) (by omega) (by simp only[Xg,Wj,List.length_cons,List.length_nil];omega)]
      simp only[Zbv,Q3,Yp,mW,hp,if_true,List.append_assoc]
     ·rw[if_neg hp,ih (k+1) _ (by omega) (by omega) (by simp only[Xg,Wj,List.length_cons,List.length_nil];omega)]
      simp only[Zbv,Q3,Yp,mW,hp,if_false,List.append_assoc,Bool.false_eq_true]
    ·rw[if_neg (by simpa using hc),List.drop_eq_nil_of_le (by omega)]
     exact congrArg some (Zcd (by rw[Zhv (L8 v0++([]:List GMConf).flatMap _)];simp))
  rw[show (0:Int)=((0:Nat):Int) from rfl,key FU 0 _ (Nat.zero_le _) (by have:=Ww;omega) (by simp only[Xg,Wj,List.length_cons,List.length_nil];omega)]
  simp only[Zbv,Q3,Yp,List.drop_zero,Xa,Zd5]
 ·rw[if_pos (by simp[h]),if_neg h]
theorem J0 {c:GConf} (hl:c.masters.length < 1048577):Y8 c=some (if Ym c=true then ⟨(Xa c).toArray⟩ else ByteArray.empty):=by
 unfold Y8
 rw[Zbr c hl,Option.bind_some]
 by_cases h:Ym c=true
 ·obtain⟨hq,hw,hr,hs,hk,hn,hm⟩:=Zds h
  have iq:InR c.quantum:=⟨by omega,by omega⟩
  have iw:InR c.maxWait:=⟨by omega,by omega⟩
  have ir:InR c.maxRetry:=⟨by omega,by omega⟩
  have is_:InR c.maxSplit:=⟨by omega,by omega⟩
  have ik:InR c.lockMost:=⟨by omega,by omega⟩
  rw[if_neg (by simp[h]),if_pos h]
  have hi:∀x∈Yc c,InR x:=by
   intro x hx
   unfold Yc at hx
   simp only[List.mem_cons,List.not_mem_nil,or_false] at hx
   rcases hx with rfl|rfl|rfl|rfl|rfl<;>assumption
  have e0:Kd [c.quantum,c.maxWait,c.maxRetry,c.maxSplit,c.lockMost]=some ((Yc c).map decB):=Zhg (l:=Yc c) (by simp[Yc]) hi
  rw[e0,Option.bind_some]
  have mi:∀m∈c.masters,InR m.weight∧InR m.every∧InR m.cap:=fun m hm'=>by
   obtain⟨⟨m1,m2⟩,⟨m3,m4⟩,⟨m5,m6⟩,_⟩:=hm m hm'
   exact⟨⟨by omega,by omega⟩,⟨by omega,by omega⟩,⟨by omega,by omega⟩⟩
  have hj:(Lib.join (Xd c) [32]).length≤1000:=by
   rw[←Zcv]
   unfold Xa Zd5
   have:=Xo iq;have:=Xo iw;have:=Xo ir;have:=Xo is_;have:=Xo ik
   have hf:∀l:List GMConf,(∀m∈l,m∈c.masters)→(l.flatMap fun m=>[32]++mW m).length≤63*l.length:=by
    intro l
    induction l with
    | nil=>intro _;simp
    | cons m l ih=>
     intro hh
     have h1:=ih fun x hx=>hh x (List.mem_cons_of_mem _ hx)
     obtain⟨a1,a2,a3⟩:=mi m (hh m List.mem_cons_self)
     have h2:=Zls a1 a2 a3
     rw[List.flatMap_cons,List.length_append,List.length_cons]
     simp only[List.length_append,List.length_cons,List.length_nil];omega
   have:=hf c.masters fun _ h=>h
   simp only[List.length_append,List.length_cons,List.length_nil];omega
  refine Zac (σ:=List ByteArray) (n:=c.masters.length) (by omega) (fun k=>(Yc c).map decB++(c.masters.take k).map fun m=>(⟨(mW m).toArray⟩:ByteArray)) (B:=fun κ st j=>Ws c κ st j) (L:=fun m st j=>W5 c m st j) (fun m s i=>rfl) (fun k hk' κ=>?_) fun κ=>?_
  ·unfold Ws
   obtain⟨i1,i2,i3⟩:=mi _ (List.getElem_mem hk')
   have h2:(c.masters.take k).length≤k:=by rw[List.length_take];omega
   have h5:(Yc c).length=5:=rfl
   rw[if_pos (by simpa using hk'),Zl hk',Option.bind_some,Zjp i1,Option.bind_some,List.take_succ_eq_append_getElem hk',List.map_append,←List.append_assoc]
   by_cases hp:c.masters[k].prio=true
   ·have ed:Kd [c.masters[k].weight,c.masters[k].every,c.masters[k].cap]=some ([c.masters[k].weight,c.masters[k].every,c.masters[k].cap].map decB):=Zhg (by simp) (by
     intro x hx
     simp only[List.mem_cons,List.not_mem_nil,or_false] at hx
     rcases hx with rfl|rfl|rfl<;>assumption)
    have ej:Lib.join (([c.masters[k].weight,c.masters[k].every,c.masters[k].cap].map decB).map L8) (L8 (strL [58]))=mW c.masters[k]:=by
     unfold mW
     rw[if_pos hp]
     simp only[List.map_cons,List.map_nil,Yp,Q3]
     rw[Lib.join_cons]
     simp[Lib.joinTail]
    have hz:=Zls i1 i2 i3
    rw[if_pos hp,ed,Option.bind_some,Zkz (by simp) (by rw[ej];omega),Option.bind_some,ej,X8 (by simp;omega) (by simp;omega),Option.bind_some]
    rfl
   ·rw[if_neg hp,X8 (by simp;omega) (by simp;omega),Option.bind_some]
    have:decB c.masters[k].weight=⟨(mW c.masters[k]).toArray⟩:=Zcd (by rw[Yp,Zhv (mW _)];unfold mW;rw[if_neg hp])
    rw[this];rfl
  ·unfold Ws
   have em:((Yc c).map decB++(c.masters.take c.masters.length).map fun m=>(⟨(mW m).toArray⟩:ByteArray)).map L8=Xd c:=by
    rw[List.take_length,List.map_append,List.map_map,List.map_map]
    rfl
   rw[if_neg (by simp),Zkz (by simp[Yc];omega) (by rw[em,Q3];omega),Option.bind_some,em,Q3,←Zcv]
 ·rw[if_pos (by simp[h]),if_neg h]
def Zdh (x:ByteArray) (c:GConf):Prop:=Ym c=true∧L8 x=Xa c
def X9 (x:ByteArray) (r:GConf×Bool):Prop:=r=(GConf.z0,false)∨(r.2=true∧Zdh x r.1)
theorem Zjo (c:GConf):Xa c≠[]:=by
 unfold Xa Zd5
 obtain⟨a,l,h⟩:=Zja (v:=c.quantum)
 rw[h];simp
theorem Zf2 {x:ByteArray} {c:GConf} (h:L8 x=Xa c):Z0 32 (L8 x)=Xd c:=by
 rw[h,Zcv,Zj9 (by simp[Xd,Yc])]
 intro w hw y hy
 unfold Xd at hw
 rcases List.mem_append.1 hw with hw|hw
 ·obtain⟨v,_,rfl⟩:=List.mem_map.1 hw
  exact Jh hy (.inl rfl)
 ·obtain⟨m,_,rfl⟩:=List.mem_map.1 hw
  unfold mW at hy
  split at hy
  ·simp only[List.mem_append,List.mem_singleton] at hy
   rcases hy with (((hy|hy)|hy)|hy)|hy
   ·exact Jh hy (.inl rfl)
   ·subst hy;decide
   ·exact Jh hy (.inl rfl)
   ·subst hy;decide
   ·exact Jh hy (.inl rfl)
  ·exact Jh hy (.inl rfl)
def Kb (m:GMConf):List Int:=if m.prio=true then [m.weight,m.every,m.cap] else [m.weight]
theorem Zid (m:GMConf):Z0 58 (mW m)=(Kb m).map Lib.itoa:=by
 have h58:∀v:Int,∀y∈Lib.itoa v,y≠58:=fun v y hy=>Jh hy (.inr (.inl rfl))
 unfold mW Kb
 by_cases hp:m.prio=true
 ·rw[if_pos hp,if_pos hp]
  have e:Lib.itoa m.weight++[58]++Lib.itoa m.every++[58]++Lib.itoa m.cap=Lib.itoa m.weight++58::(Lib.itoa m.every++58::Lib.itoa m.cap):=by simp
  rw[e,J3 (h58 _),J3 (h58 _),Jo (h58 _)];rfl
 ·rw[if_neg hp,if_neg hp,Jo (h58 _)];rfl
theorem Zb6 {x:ByteArray} {c:GConf} (hl:c.masters.length < 1048577):∃r,((Wy c).bind fun r4=>
  if (!(r4.toList == x.toList))=true then (some (GConf.z0,false)) else (if (x.toList == ByteArray.empty.toList)=true then (some (GConf.z0,false)) else (some (c,true))))=some r∧X9 x r∧(Zdh x c→r=(c,true)):=by
 rw[Zdb hl,Option.bind_some]
 by_cases h:Ym c=true
 ·rw[if_pos h,Lib.toList_data,Lib.toList_data,Lib.toList_data]
  by_cases he:Xa c=L8 x
  ·have e1:((⟨(Xa c).toArray⟩:ByteArray).data.toList == x.data.toList)=true:=beq_iff_eq.2 he
   have e2:¬(x.data.toList == ByteArray.empty.data.toList)=true:=fun hh=>Zjo c (by rw[he];exact beq_iff_eq.1 hh)
   rw[if_neg (by simp[e1]),if_neg e2]
   exact⟨_,rfl,.inr ⟨rfl,h,he.symm⟩,fun _=>rfl⟩
  ·have e1:¬((⟨(Xa c).toArray⟩:ByteArray).data.toList == x.data.toList)=true:=fun hh=>he (beq_iff_eq.1 hh)
   rw[if_pos (by simpa using e1)]
   exact⟨_,rfl,.inl rfl,fun hh=>absurd hh.2.symm he⟩
 ·rw[if_neg h]
  split
  ·exact⟨_,rfl,.inl rfl,fun hh=>absurd hh.1 h⟩
  ·rename_i h1
   have h2:(ByteArray.empty.toList == x.toList)=true:=by simpa using h1
   rw[if_pos (by rw[beq_iff_eq] at h2 ⊢;exact h2.symm)]
   exact⟨_,rfl,.inl rfl,fun hh=>absurd hh.1 h⟩
theorem K7 {x w:ByteArray} {c:UInt8} {ws:List ByteArray} (h:ws.map L8=Z0 c (L8 x)) (hw:w∈ws):w.size≤x.size:=by
 rw[Z5,Z5]
 refine Zly (c:=c) ?_
 rw[←h]
 exact List.mem_map_of_mem hw
theorem Za4 {x:ByteArray} {c:UInt8} {ws:List ByteArray} (h:ws.map L8=Z0 c (L8 x)):ws.length≤x.size+1∧1≤ws.length:=by
 have h1:=congrArg List.length h
 rw[List.length_map] at h1
 have h2:=Zn6 c (L8 x)
 rw[←Z5] at h2
 have h3:0 < (Z0 c (L8 x)).length:=List.length_pos_iff.2 (Zg8 c (L8 x))
 omega
theorem Zfq {x:ByteArray} {ws:List ByteArray} (hw:ws.map L8=Z0 32 (L8 x)) (hx:x.size≤1048576):∀(m j:Nat) (c:GConf),j≤ws.length→ws.length - j < m→c.masters.length+5≤j→
  ∃r,Yg x m c ws (j:Int)=some r∧X9 x r:=by
 have hlen:=Za4 hw
 intro m
 induction m with
 | zero=>intro j c _ h;omega
 | succ m ih=>
  intro j c hj hm hc
  show ∃r,Xv x (Yg x m) c ws (j:Int)=some r∧_
  unfold Xv
  by_cases hlt:j < ws.length
  ·have hsz:ws[j].size≤x.size:=K7 hw (List.getElem_mem hlt)
   obtain⟨ps,h1,h2⟩:=Zcm (x:=ws[j]) 58 (by omega)
   have h1:Wh ws[j] 58=some ps:=h1
   have hp:=Za4 h2
   rw[if_pos (by simpa using hlt),Zl hlt,Option.bind_some,h1,Option.bind_some,show (0:Int)=((0:Nat):Int) from rfl,Zl (by omega),Option.bind_some]
   obtain⟨q1,e1⟩:=Y9 ps[0]
   rw[e1,Option.bind_some]
   have next:∀mc:GMConf,∃r,Yw x (Yg x m) c mc ws (j:Int)=some r∧X9 x r:=fun mc=>by
    unfold Yw
    rw[X8 (by simp;omega) (by simp;omega),Option.bind_some,Yy (by omega)]
    exact ih (j+1) _ (by omega) (by omega) (by simp;omega)
   by_cases h3:ps.length=3
   ·obtain⟨q2,e2⟩:=Y9 ps[1]
    obtain⟨q3,e3⟩:=Y9 ps[2]
    rw[if_pos (by simp[h3]),show (1:Int)=((1:Nat):Int) from rfl,Zl (by omega),Option.bind_some,e2,Option.bind_some,show (2:Int)=((2:Nat):Int) from rfl,Zl (by omega),Option.bind_some,e3,Option.bind_some]
    exact next _
   ·rw[if_neg (by simp;omega)]
    exact next _
  ·rw[if_neg (by simpa using hlt)]
   obtain⟨r,h1,h2,_⟩:=Zb6 (x:=x) (c:=c) (by omega)
   exact⟨r,h1,h2⟩
theorem Ze4 {x:ByteArray} (hx:x.size≤1048576):∃r,X5 x=some r∧X9 x r:=by
 obtain⟨ws,h1,h2⟩:=Zcm (x:=x) 32 (by omega)
 have h1:Wh x 32=some ws:=h1
 unfold X5
 rw[h1,Option.bind_some]
 by_cases hl:ws.length < 6
 ·rw[if_pos (by simp;omega)]
  exact⟨_,rfl,.inl rfl⟩
 ·obtain⟨q0,e0⟩:=Y9 ws[0]
  obtain⟨q1,e1⟩:=Y9 ws[1]
  obtain⟨q2,e2⟩:=Y9 ws[2]
  obtain⟨q3,e3⟩:=Y9 ws[3]
  obtain⟨q4,e4⟩:=Y9 ws[4]
  have i0:idx ws 0=some ws[0]:=Zl (k:=0) (by omega)
  have i1:idx ws 1=some ws[1]:=Zl (k:=1) (by omega)
  have i2:idx ws 2=some ws[2]:=Zl (k:=2) (by omega)
  have i3:idx ws 3=some ws[3]:=Zl (k:=3) (by omega)
  have i4:idx ws 4=some ws[4]:=Zl (k:=4) (by omega)
  rw[if_neg (by simp;omega),i0,Option.bind_some,e0,Option.bind_some,i1,Option.bind_some,e1,Option.bind_some,i2,Option.bind_some,e2,Option.bind_some,i3,Option.bind_some,e3,Option.bind_some,i4,Option.bind_some,e4,Option.bind_some]
  exact Zfq h2 hx FU 5 _ (by omega) (by have:=Ww;have:=Za4 h2;omega) (by simp)
theorem Zlh {ws:List ByteArray} {c:GConf} (h:ws.map L8=Xd c) {i:Nat} (hi:i < c.masters.length):∃hl:5+i < ws.length,L8 ws[5+i]=mW c.masters[i]:=by
 have hlen:ws.length=5+c.masters.length:=by
  have:=congrArg List.length h
  simp[Xd,Yc] at this;omega
 refine⟨by omega,?_⟩
 have h1:(ws.map L8)[5+i]?=some (mW c.masters[i]):=by
  rw[h]
  unfold Xd
  rw[List.getElem?_append_right (by simp[Yc])]
  simp[Yc,hi]
 rw[List.getElem?_map,List.getElem?_eq_getElem (by omega)] at h1
 simpa using h1
theorem Zb7 {ws:List ByteArray} {c:GConf} (h:ws.map L8=Xd c) {i:Nat} (hi:i < 5):∃hl:i < ws.length,ws[i]=decB ((Yc c)[i]'hi):=by
 have hlen:ws.length=5+c.masters.length:=by
  have:=congrArg List.length h
  simp[Xd,Yc] at this;omega
 refine⟨by omega,Zcd ?_⟩
 have h1:(ws.map L8)[i]?=some (Lib.itoa ((Yc c)[i]'hi)):=by
  rw[h]
  unfold Xd
  rw[List.getElem?_append_left (by simpa [Yc] using hi),List.getElem?_map,List.getElem?_eq_getElem (show i < (Yc c).length from hi)]
  rfl
 rw[List.getElem?_map,List.getElem?_eq_getElem (by omega)] at h1
 rw[Yp]
 simpa using h1
theorem Zgz {c:GConf} {l:List GMConf} (h:l=c.masters):({c with masters:=l}:GConf)=c:=by subst h;rfl
theorem m_eta {m:GMConf} (h:m.prio=true):GMConf.mk m.weight true m.every m.cap=m:=by cases m;simp at h;simp[h]
theorem Znf {m:GMConf} (h:m.prio=false) (h2:m.every=0∧m.cap=0):GMConf.mk m.weight false 0 0=m:=by cases m;simp at h h2;simp[h,h2]
theorem Ze1 {x:ByteArray} {c:GConf} (h:Zdh x c) (hx:x.size≤1048576):X5 x=some (c,true):=by
 obtain⟨hg,ht⟩:=h
 have hS:=Zds hg
 obtain⟨hq,hw,hr,hs,hk,hn,hm⟩:=hS
 obtain⟨ws,h1,h2⟩:=Zcm (x:=x) 32 (by omega)
 have h1:Wh x 32=some ws:=h1
 have hc:ws.map L8=Xd c:=by rw[h2,Zf2 ht]
 have hlen:ws.length=5+c.masters.length:=by
  have:=congrArg List.length hc
  simp[Xd,Yc] at this;omega
 obtain⟨l0,w0⟩:=Zb7 hc (i:=0) (by omega)
 obtain⟨l1,w1⟩:=Zb7 hc (i:=1) (by omega)
 obtain⟨l2,w2⟩:=Zb7 hc (i:=2) (by omega)
 obtain⟨l3,w3⟩:=Zb7 hc (i:=3) (by omega)
 obtain⟨l4,w4⟩:=Zb7 hc (i:=4) (by omega)
 have w0:ws[0]=decB c.quantum:=w0
 have w1:ws[1]=decB c.maxWait:=w1
 have w2:ws[2]=decB c.maxRetry:=w2
 have w3:ws[3]=decB c.maxSplit:=w3
 have w4:ws[4]=decB c.lockMost:=w4
 have i0:idx ws 0=some (decB c.quantum):=by rw[←w0];exact Zl (k:=0) (by omega)
 have i1:idx ws 1=some (decB c.maxWait):=by rw[←w1];exact Zl (k:=1) (by omega)
 have i2:idx ws 2=some (decB c.maxRetry):=by rw[←w2];exact Zl (k:=2) (by omega)
 have i3:idx ws 3=some (decB c.maxSplit):=by rw[←w3];exact Zl (k:=3) (by omega)
 have i4:idx ws 4=some (decB c.lockMost):=by rw[←w4];exact Zl (k:=4) (by omega)
 have key:∀(m i:Nat),i≤c.masters.length→c.masters.length - i < m→Yg x m {c with masters:=c.masters.take i} ws ((5+i:Nat):Int)=some (c,true):=by
  intro m
  induction m with
  | zero=>intro i _ h;omega
  | succ m ih=>
   intro i hi hm'
   show Xv x (Yg x m) {c with masters:=c.masters.take i} ws ((5+i:Nat):Int)=some (c,true)
   unfold Xv
   by_cases hlt:i < c.masters.length
   ·obtain⟨hwl,hww⟩:=Zlh hc hlt
    obtain⟨ps,p1,p2⟩:=Zcm (x:=ws[5+i]) 58 (by have:ws[5+i].size≤x.size:=K7 h2 (List.getElem_mem hwl);omega)
    have p1:Wh ws[5+i] 58=some ps:=p1
    rw[hww,Zid] at p2
    have p3:=Zgw p2
    obtain⟨⟨m1,m2⟩,⟨m3,m4⟩,⟨m5,m6⟩,m7⟩:=hm _ (List.getElem_mem hlt)
    rw[if_pos (decide_eq_true (by show ((5+i:Nat):Int) < _;omega)),Zl hwl,Option.bind_some,p1,Option.bind_some]
    have next:Yw x (Yg x m) {c with masters:=c.masters.take i} c.masters[i] ws ((5+i:Nat):Int)=some (c,true):=by
     unfold Yw
     simp only
     rw[X8 (by simp;omega) (by simp;omega),Option.bind_some,Yy (by omega),←List.take_succ_eq_append_getElem hlt]
     exact ih (i+1) (by omega) (by omega)
    by_cases hp:c.masters[i].prio=true
    ·have p4:ps=[decB c.masters[i].weight,decB c.masters[i].every,decB c.masters[i].cap]:=by rw[p3];unfold Kb;rw[if_pos hp];rfl
     subst p4
     have j0:idx [decB c.masters[i].weight,decB c.masters[i].every,decB c.masters[i].cap] 0=some (decB c.masters[i].weight):=rfl
     have j1:idx [decB c.masters[i].weight,decB c.masters[i].every,decB c.masters[i].cap] 1=some (decB c.masters[i].every):=rfl
     have j2:idx [decB c.masters[i].weight,decB c.masters[i].every,decB c.masters[i].cap] 2=some (decB c.masters[i].cap):=rfl
     rw[j0,Option.bind_some,Xi ⟨by omega,by omega⟩,Option.bind_some,if_pos (by simp),j1,Option.bind_some,Xi ⟨by omega,by omega⟩,Option.bind_some,j2,Option.bind_some,Xi ⟨by omega,by omega⟩,Option.bind_some,m_eta hp]
     exact next
    ·have p4:ps=[decB c.masters[i].weight]:=by rw[p3];unfold Kb;rw[if_neg hp];rfl
     subst p4
     have j0:idx [decB c.masters[i].weight] 0=some (decB c.masters[i].weight):=rfl
     have hp':c.masters[i].prio=false:=by simpa using hp
     rw[j0,Option.bind_some,Xi ⟨by omega,by omega⟩,Option.bind_some,if_neg (by simp),Znf hp' (m7 hp')]
     exact next
   ·rw[if_neg (by simp;omega),Zgz (List.take_of_length_le (by omega))]
    obtain⟨r,e1,_,e3⟩:=Zb6 (x:=x) (c:=c) (by omega)
    rw[e1,e3 ⟨hg,ht⟩]
 unfold X5
 rw[h1,Option.bind_some,if_neg (by simp;omega),i0,Option.bind_some,Xi ⟨by omega,by omega⟩,Option.bind_some,i1,Option.bind_some,Xi ⟨by omega,by omega⟩,Option.bind_some,i2,Option.bind_some,Xi ⟨by omega,by omega⟩,Option.bind_some,i3,Option.bind_some,Xi ⟨by omega,by omega⟩,Option.bind_some,i4,Option.bind_some,Xi ⟨by omega,by omega⟩,Option.bind_some]
 exact key FU 0 (Nat.zero_le _) (by have:=Ww;omega)
theorem Zbx {x:ByteArray} {c:GConf} (hl:c.masters.length < 1048577):∃r,((W3 c).bind fun r2=>if (!r2)=true then (some (GConf.z0,false)) else (
   (Y8 c).bind fun r3=>if (!(r3.toList == x.toList))=true then (some (GConf.z0,false)) else (some (c,true))))=some r∧X9 x r∧(Zdh x c→r=(c,true)):=by
 rw[Zbr c hl,J0 hl,Option.bind_some,Option.bind_some]
 by_cases h:Ym c=true
 ·rw[if_neg (by simp[h]),if_pos h,Lib.toList_data,Lib.toList_data]
  by_cases he:Xa c=L8 x
  ·have e1:((⟨(Xa c).toArray⟩:ByteArray).data.toList == x.data.toList)=true:=beq_iff_eq.2 he
   rw[if_neg (by simp[e1])]
   exact⟨_,rfl,.inr ⟨rfl,h,he.symm⟩,fun _=>rfl⟩
  ·have e1:¬((⟨(Xa c).toArray⟩:ByteArray).data.toList == x.data.toList)=true:=fun hh=>he (beq_iff_eq.1 hh)
   rw[if_pos (by simpa using e1)]
   exact⟨_,rfl,.inl rfl,fun hh=>absurd hh.2.symm he⟩
 ·rw[if_pos (by simp[h])]
  exact⟨_,rfl,.inl rfl,fun hh=>absurd hh.1 h⟩
theorem idx0 {α:Type} {l:List α} (h:1≤l.length):∃a,idx l 0=some a:=⟨l[0],Zl (k:=0) (by omega)⟩
theorem idxn {α:Type} {l:List α} (n:Nat) (h:n < l.length):∃a,idx l (n:Int)=some a:=⟨l[n],Zl h⟩
theorem Zf5 {x:ByteArray} {ws:List ByteArray} (hz:∀w∈ws,w.size≤1048576) (hn:ws.length≤10):∀(m j:Nat) (c:GConf),j≤ws.length→ws.length - j < m→c.masters.length≤j→
  ∃r,Zx x m c ws (ws.length:Int) (j:Int)=some r∧X9 x r:=by
 intro m
 induction m with
 | zero=>intro j c _ h;omega
 | succ m ih=>
  intro j c hj hm hc
  show ∃r,Z8 x (Zx x m) c ws (ws.length:Int) (j:Int)=some r∧_
  unfold Z8
  by_cases hlt:j < ws.length
  ·have hsz:=hz _ (List.getElem_mem hlt)
   obtain⟨ps,h1,h2⟩:=Zcu (x:=ws[j]) 58 (by omega)
   have hp:=Za4 h2
   obtain⟨q,e1,e2⟩:=Zc7 (ws:=ps) (by omega) (fun w hw=>by have:=K7 h2 hw;omega)
   rw[if_pos (by simpa using hlt),Zl hlt,Option.bind_some,h1,Option.bind_some,e1,Option.bind_some]
   have next:∀mc:GMConf,∃r,((appI 32 c.masters [mc]).bind fun z0=>Zx x m {c with masters:=z0} ws (ws.length:Int) (addW (j:Int) 1))=some r∧X9 x r:=fun mc=>by
    rw[X8 (by simp;omega) (by simp;omega),Option.bind_some,Yy (by omega)]
    exact ih (j+1) _ (by omega) (by omega) (by simp;omega)
   have j4:∀b:Bool,(b=true→q.1.length=3)→∃r,Yz x (Zx x m) c q.1 ws (ws.length:Int) (j:Int) b=some r∧X9 x r:=fun b hb=>by
    unfold Yz
    by_cases hbt:b=true
    ·have h3:=hb hbt
     obtain⟨a0,i0⟩:=idxn (l:=q.1) 0 (by omega)
     obtain⟨a1,i1⟩:=idxn (l:=q.1) 1 (by omega)
     obtain⟨a2,i2⟩:=idxn (l:=q.1) 2 (by omega)
     have i0:idx q.1 0=some a0:=i0
     have i1:idx q.1 1=some a1:=i1
     have i2:idx q.1 2=some a2:=i2
     rw[if_pos hbt,i0,Option.bind_some,i1,Option.bind_some,i2,Option.bind_some]
     exact next _
    ·rw[if_neg hbt]
     exact⟨_,rfl,.inl rfl⟩
   have j3:∀(b c2:Bool),(c2=true→q.1.length=1)→∃r,Yx x (Zx x m) c q.1 b ws (ws.length:Int) (j:Int) c2=some r∧X9 x r:=fun b c2 hb=>by
    unfold Yx
    by_cases hbt:c2=true
    ·have h3:=hb hbt
     obtain⟨a0,i0⟩:=idx0 (l:=q.1) (by omega)
     rw[if_pos hbt,i0,Option.bind_some]
     exact next _
    ·rw[if_neg hbt]
     split
     ·exact j4 _ fun h=>by simp at h;omega
     ·exact j4 _ fun h=>by cases h
   split
   ·exact j3 _ _ fun h=>by simp at h;omega
   ·exact j3 _ _ fun h=>by cases h
  ·rw[if_neg (by simpa using hlt)]
   obtain⟨r,h1,h2,_⟩:=Zbx (x:=x) (c:=c) (by omega)
   exact⟨r,h1,h2⟩
theorem Zba {α:Type} {xs:List α} {a b:Nat} (h1:a≤b) (h2:b≤xs.length):We xs (a:Int) (b:Int)=some ((xs.drop a).take (b - a)):=by
 unfold We
 rw[if_pos ⟨by omega,by omega,by omega⟩]
 rfl
theorem Zal {x:ByteArray} (hx:x.size≤1048576):∃r,Ys x=some r∧X9 x r:=by
 obtain⟨ws,h1,h2⟩:=Zcu (x:=x) 32 (by omega)
 have hz:∀w∈ws,w.size≤1048576:=fun w hw=>by have:=K7 h2 hw;omega
 unfold Ys
 rw[h1,Option.bind_some]
 have bad:∃r,Xf x ws true=some r∧X9 x r:=⟨_,rfl,.inl rfl⟩
 by_cases hl:ws.length < 6
 ·rw[if_pos (by simp;omega)];exact bad
 ·rw[if_neg (by simp;omega)]
  by_cases hl2:ws.length > 9
  ·rw[show decide ((ws.length:Int) > 9)=true by simp;omega];exact bad
  ·rw[show decide ((ws.length:Int) > 9)=false by simp;omega]
   unfold Xf
   have s0:We ws 0 5=some ((ws.drop 0).take 5):=Zba (a:=0) (b:=5) (by omega) (by omega)
   have s1:We ws 5 (ws.length:Int)=some ((ws.drop 5).take (ws.length - 5)):=Zba (a:=5) (by omega) (Nat.le_refl _)
   rw[if_neg (by simp),s0,Option.bind_some]
   obtain⟨q,e1,e2⟩:=Zc7 (ws:=(ws.drop 0).take 5) (by simp;omega) (fun w hw=>by have:=hz w (List.mem_of_mem_drop (List.mem_of_mem_take hw));omega)
   rw[e1,Option.bind_some]
   by_cases hq:q.2=true
   ·have h5:q.1.length=5:=by
     have:=(e2 hq).1
     rw[this];simp;omega
    obtain⟨a0,i0⟩:=idxn (l:=q.1) 0 (by omega)
    obtain⟨a1,i1⟩:=idxn (l:=q.1) 1 (by omega)
    obtain⟨a2,i2⟩:=idxn (l:=q.1) 2 (by omega)
    obtain⟨a3,i3⟩:=idxn (l:=q.1) 3 (by omega)
    obtain⟨a4,i4⟩:=idxn (l:=q.1) 4 (by omega)
    have i0:idx q.1 0=some a0:=i0
    have i1:idx q.1 1=some a1:=i1
    have i2:idx q.1 2=some a2:=i2
    have i3:idx q.1 3=some a3:=i3
    have i4:idx q.1 4=some a4:=i4
    rw[if_neg (by simp[hq]),i0,Option.bind_some,i1,Option.bind_some,i2,Option.bind_some,i3,Option.bind_some,i4,Option.bind_some,s1,Option.bind_some]
    exact Zf5 (fun w hw=>hz w (List.mem_of_mem_drop (List.mem_of_mem_take hw))) (by simp;omega) FU 0 _ (Nat.zero_le _) (by have:=Ww;simp;omega) (by simp)
   ·rw[if_pos (by simp[hq])]
    exact⟨_,rfl,.inl rfl⟩
theorem Zaw {x:ByteArray} {c:GConf} (h:Zdh x c) (hx:x.size≤1048576):Ys x=some (c,true):=by
 obtain⟨hg,ht⟩:=h
 have hS:=Zds hg
 obtain⟨hq,hw,hr,hs,hk,hn,hm⟩:=hS
 obtain⟨ws,h1,h2⟩:=Zcu (x:=x) 32 (by omega)
 have hc:ws.map L8=Xd c:=by rw[h2,Zf2 ht]
 have hlen:ws.length=5+c.masters.length:=by
  have:=congrArg List.length hc
  simp[Xd,Yc] at this;omega
 have s0:We ws 0 5=some ((ws.drop 0).take 5):=Zba (a:=0) (b:=5) (by omega) (by omega)
 have s1:We ws 5 (ws.length:Int)=some ((ws.drop 5).take (ws.length - 5)):=Zba (a:=5) (by omega) (Nat.le_refl _)
 have hh:((ws.drop 0).take 5)=(Yc c).map decB:=by
  refine Zgw ?_
  rw[List.drop_zero,List.map_take,hc]
  unfold Xd
  rw[List.take_append_of_le_length (by simp[Yc]),List.take_of_length_le (by simp[Yc])]
 have ht5:(ws.drop 5).take (ws.length - 5)=ws.drop 5:=List.take_of_length_le (by simp)
 unfold Ys
 rw[h1,Option.bind_some,if_neg (by simp;omega),show decide ((ws.length:Int) > 9)=false by simp;omega]
 unfold Xf
 rw[if_neg (by simp),s0,Option.bind_some,hh,Zem (by simp[Yc]) (by
  intro v hv
  unfold Yc at hv
  simp only[List.mem_cons,List.not_mem_nil,or_false] at hv
  rcases hv with rfl|rfl|rfl|rfl|rfl<;>omega),Option.bind_some,if_neg (by simp),s1]
 have i0:idx (Yc c) 0=some c.quantum:=rfl
 have i1:idx (Yc c) 1=some c.maxWait:=rfl
 have i2:idx (Yc c) 2=some c.maxRetry:=rfl
 have i3:idx (Yc c) 3=some c.maxSplit:=rfl
 have i4:idx (Yc c) 4=some c.lockMost:=rfl
 simp only[i0,i1,i2,i3,i4,Option.bind_some,ht5]
 have hd:(ws.drop 5).length=c.masters.length:=by simp;omega
 rw[hd]
 have:=Zac (σ:=GConf) (n:=c.masters.length) (by omega) (fun k=>({c with masters:=c.masters.take k}:GConf)) (B:=fun κ st j=>Z8 x (fun a b d e=>κ a e) st (ws.drop 5) (c.masters.length:Int) j) (L:=fun m st j=>Zx x m st (ws.drop 5) (c.masters.length:Int) j) (r:=some (c,true)) (fun m s i=>?_) (fun k hk' κ=>?_) fun κ=>?_
 ·exact this
 ·show Z8 x (Zx x m) s (ws.drop 5) (c.masters.length:Int) i=Z8 x (fun a b d e=>Zx x m a (ws.drop 5) (c.masters.length:Int) e) s (ws.drop 5) (c.masters.length:Int) i
  unfold Z8 Yx Yz
  rfl
 ·obtain⟨hwl,hww⟩:=Zlh hc hk'
  have hk2:k < (ws.drop 5).length:=by omega
  have hg':(ws.drop 5)[k]=ws[5+k]:=by rw[List.getElem_drop]
  obtain⟨ps,p1,p2⟩:=Zcu (x:=ws[5+k]) 58 (by have:ws[5+k].size≤x.size:=K7 h2 (List.getElem_mem hwl);omega)
  rw[hww,Zid] at p2
  have p3:=Zgw p2
  obtain⟨⟨m1,m2⟩,⟨m3,m4⟩,⟨m5,m6⟩,m7⟩:=hm _ (List.getElem_mem hk')
  have hbn:∀v∈Kb c.masters[k],-1000000000000000000 < v∧v < 1000000000000000000:=by
   intro v hv
   unfold Kb at hv
   split at hv
   ·simp only[List.mem_cons,List.not_mem_nil,or_false] at hv
    rcases hv with rfl|rfl|rfl<;>omega
   ·simp only[List.mem_cons,List.not_mem_nil,or_false] at hv
    subst hv;omega
  have hbl:(Kb c.masters[k]).length≤3:=by unfold Kb;split<;>simp
  unfold Z8
  rw[if_pos (by simpa using hk'),Zl hk2,Option.bind_some,hg',p1,Option.bind_some,p3,Zem (by omega) hbn,Option.bind_some,if_pos rfl]
  have ha:appI 32 (c.masters.take k) [c.masters[k]]=some (c.masters.take (k+1)):=by
   rw[X8 (by simp;omega) (by simp;omega),List.take_succ_eq_append_getElem hk']
  unfold Yx Yz
  by_cases hp:c.masters[k].prio=true
  ·have e:Kb c.masters[k]=[c.masters[k].weight,c.masters[k].every,c.masters[k].cap]:=by unfold Kb;rw[if_pos hp]
   have j0:idx [c.masters[k].weight,c.masters[k].every,c.masters[k].cap] 0=some c.masters[k].weight:=rfl
   have j1:idx [c.masters[k].weight,c.masters[k].every,c.masters[k].cap] 1=some c.masters[k].every:=rfl
   have j2:idx [c.masters[k].weight,c.masters[k].every,c.masters[k].cap] 2=some c.masters[k].cap:=rfl
   simp only[e,j0,j1,j2,Option.bind_some,List.length_cons,List.length_nil,m_eta hp,ha]
   rfl
  ·have hp':c.masters[k].prio=false:=by simpa using hp
   have e:Kb c.masters[k]=[c.masters[k].weight]:=by unfold Kb;rw[if_neg hp]
   have j0:idx [c.masters[k].weight] 0=some c.masters[k].weight:=rfl
   simp only[e,j0,Option.bind_some,List.length_cons,List.length_nil,Znf hp' (m7 hp'),ha]
   rfl
 ·unfold Z8
  rw[if_neg (by simp),Zgz (List.take_of_length_le (Nat.le_refl _))]
  obtain⟨r,e1,_,e3⟩:=Zbx (x:=x) (c:=c) (by omega)
  rw[e1,e3 ⟨hg,ht⟩]
theorem Zhr {x:ByteArray} (hx:x.size≤1048576):∃r,X5 x=some r∧Ys x=some r∧X9 x r:=by
 obtain⟨r,h1,h2⟩:=Ze4 hx
 obtain⟨q,h3,h4⟩:=Zal hx
 refine⟨r,h1,?_,h2⟩
 rcases h2 with rfl|⟨hr,hc⟩
 ·rcases h4 with rfl|⟨hq,hd⟩
  ·exact h3
  ·rw[Ze1 hd hx] at h1
   injection h1 with h1
   injection h1 with _ h1
   cases h1
 ·rw[Zaw hc hx]
  obtain⟨r1,r2⟩:=r
  simp only at hr
  rw[hr]
theorem Zi2 {c:GConf} (h:Ym c=true):1≤(c.masters.length:Int)∧(c.masters.length:Int)≤4:=by
 simp only[Ym,Bool.and_eq_true,decide_eq_true_eq] at h
 exact h.1.1.1.1
theorem Zla {c:GConf} (h:Ym c=true):c.masters.length < 1048577:=by have:=Zi2 h;omega
def So {β:Type} (e:Option β) (R:β→Prop):Prop:=∃b,e=some b∧R b
theorem So.bind {α β:Type} {e:Option α} {Q:α→Prop} {f:α→Option β} {R:β→Prop} (h:So e Q) (k:∀a,Q a→So (f a) R):So (e.bind f) R:=by
 obtain⟨a,rfl,q⟩:=h
 exact k a q
theorem So.ret {β:Type} {b:β} {R:β→Prop} (h:R b):So (some b) R:=⟨b,rfl,h⟩
theorem So.ite {β:Type} {c:Prop} [Decidable c] {x y:Option β} {R:β→Prop} (h1:c→So x R) (h2:¬c→So y R):So (if c then x else y) R:=by
 split
 ·exact h1 ‹_›
 ·exact h2 ‹_›
def Z2 (c:GL1Cur):Prop:=0≤c.i∧c.i≤(c.b.length:Int)∧c.b.length < 4611686018427387904
theorem Zmz (a:Int):0≤andW a 255∧andW a 255≤255:=by
 have h:((BitVec.ofInt IntKind.i64.bits a &&& BitVec.ofInt IntKind.i64.bits 255).toNat)≤255:=by
  rw[BitVec.toNat_and]
  have:(BitVec.ofInt IntKind.i64.bits 255).toNat=255:=by decide
  rw[this]
  exact Nat.and_le_right
 unfold andW
 generalize (BitVec.ofInt IntKind.i64.bits a &&& BitVec.ofInt IntKind.i64.bits 255).toNat=n at*
 rw[Zf9 (by omega) (by omega)]
 omega
theorem Kj {c:GL1Cur} (h:Z2 c):∃r c',Y7 c=some (r,c')∧Z2 c'∧0≤r∧r≤255:=by
 obtain⟨h1,h2,h3⟩:=h
 unfold Y7
 by_cases hc:c.i < (c.b.length:Int)
 ·obtain⟨k,hk⟩:∃k:Nat,c.i=k:=⟨c.i.toNat,by omega⟩
  have hk2:k < c.b.length:=by omega
  rw[if_pos (by simpa using hc),hk,Zl hk2,Option.bind_some]
  refine⟨_,_,rfl,⟨?_,?_,h3⟩,Zmz _⟩
  ·show 0≤addW (k:Int) 1
   rw[Yy (by omega)];omega
  ·show addW (k:Int) 1≤_
   rw[Yy (by omega)];show ((k+1:Nat):Int)≤(c.b.length:Int);omega
 ·rw[if_neg (by simpa using hc)]
  exact⟨_,_,rfl,⟨h1,h2,h3⟩,Zmz _⟩
theorem Zk7 {a n:Int} (h0:0≤a) (hn:0 < n):0≤remW a n∧remW a n < n:=by
 unfold remW
 rw[Int.tmod_eq_emod_of_nonneg h0]
 exact⟨Int.emod_nonneg _ (by omega),Int.emod_lt_of_pos _ hn⟩
theorem Zck {c:GL1Cur} (n:Int) (h:Z2 c):∃r c',Zh c n=some (r,c')∧Z2 c'∧0≤r∧(0 < n→r < n)∧(n≤0→r=0):=by
 unfold Zh
 by_cases h0:n≤0
 ·rw[if_pos (by simpa using h0)]
  exact⟨_,_,rfl,h,by omega,fun _=>by omega,fun _=>rfl⟩
 ·rw[if_neg (by simpa using h0)]
  by_cases h1:n≤256
  ·rw[if_pos (by simpa using h1)]
   obtain⟨r,c',hr,hc,h2,h3⟩:=Kj h
   rw[hr,Option.bind_some,Zny (by omega),Option.bind_some]
   have:=Zk7 h2 (by omega:0 < n)
   exact⟨_,_,rfl,hc,this.1,fun _=>this.2,fun _=>by omega⟩
  ·rw[if_neg (by simpa using h1)]
   obtain⟨r,c',hr,hc,h2,h3⟩:=Kj h
   obtain⟨r2,c2,hr2,hc2,h22,h32⟩:=Kj hc
   obtain⟨r3,c3,hr3,hc3,h23,h33⟩:=Kj hc2
   obtain⟨r4,c4,hr4,hc4,h24,h34⟩:=Kj hc3
   rw[hr,Option.bind_some,hr2,Option.bind_some,hr3,Option.bind_some,hr4,Option.bind_some,Zny (by omega),Option.bind_some]
   have e:addW (addW (addW (mulW r 16777216) (mulW r2 65536)) (mulW r3 256)) r4=r*16777216+r2*65536+r3*256+r4:=by
    rw[W1 (by omega) (by omega),W1 (by omega) (by omega),W1 (by omega) (by omega),Yr (a:=r*16777216) (by omega) (by omega),Yr (a:=r*16777216+r2*65536) (by omega) (by omega),Yr (by omega) (by omega)]
   have:=Zk7 (by rw[e];omega:0≤addW (addW (addW (mulW r 16777216) (mulW r2 65536)) (mulW r3 256)) r4) (by omega:0 < n)
   exact⟨_,_,rfl,hc4,this.1,fun _=>this.2,fun _=>by omega⟩
theorem Zi0 (x:List Int) (hl:x.length < 1048577):∃c,Jy x=some c∧Z2 c:=by
 unfold Jy
 have key:∀(m k:Nat) (v:Int),k≤x.length→x.length - k < m→∃c,X7 x m v k=some c∧Z2 c:=by
  intro m
  induction m with
  | zero=>intro k _ _ h;omega
  | succ m ih=>
   intro k v hk hm
   have e:X7 x (m+1) v k=Jd x (X7 x m) v k:=rfl
   rw[e]
   unfold Jd Q9
   by_cases hc:k < x.length
   ·rw[if_pos (by simpa using hc)]
    by_cases h4:(k:Int) < 4000
    ·rw[if_pos (by simpa using h4),Zl hc,Option.bind_some,Yy (by omega)]
     exact ih (k+1) _ (by omega) (by omega)
    ·rw[if_neg (by simpa using h4)]
     exact⟨_,rfl,by simp[Z2];omega⟩
   ·rw[if_neg (by simpa using hc)]
    exact⟨_,rfl,by simp[Z2];omega⟩
 exact key FU 0 _ (Nat.zero_le _) (by have:=Ww;omega)
theorem Znk {c:GL1Cur} (n:Int) (h:Z2 c):∃r c',Kv c n=some (r,c')∧Z2 c':=by
 unfold Kv
 obtain⟨r,c',hr,hc,_⟩:=Zck n h
 rw[hr]
 exact⟨_,_,rfl,hc⟩
theorem Zmw {α:Type} {xs:List α} {i:Int} (h0:0≤i) (h1:i < (xs.length:Int)):∃a,idx xs i=some a∧a∈xs:=by
 obtain⟨k,rfl⟩:∃k:Nat,i=k:=⟨i.toNat,by omega⟩
 have hk:k < xs.length:=by omega
 exact⟨_,Zl hk,List.getElem_mem hk⟩
theorem Zjf {c:GL1Cur} (xs:List Int) (hx:xs≠[]) (h:Z2 c):∃r c',Yu c xs=some (r,c')∧Z2 c'∧r∈xs:=by
 unfold Yu
 obtain⟨r,c',hr,hc,h0,h1,_⟩:=Zck (xs.length:Int) h
 have hl:0 < xs.length:=List.length_pos_iff.2 hx
 obtain⟨a,ha,hm⟩:=Zmw h0 (h1 (by omega))
 rw[hr,Option.bind_some,ha]
 exact⟨_,_,rfl,hc,hm⟩
theorem Yj {c:GL1Cur} (n:Int) (h:Z2 c):So (Zh c n) fun r=>Z2 r.2∧0≤r.1∧(0 < n→r.1 < n)∧(n≤0→r.1=0):=by
 obtain⟨r,c',e,h1,h2,h3,h4⟩:=Zck n h
 exact⟨_,e,h1,h2,h3,h4⟩
theorem Zq3 {c:GL1Cur} (n:Int) (h:Z2 c):So (Kv c n) fun r=>Z2 r.2:=by
 obtain⟨r,c',e,h1⟩:=Znk n h
 exact⟨_,e,h1⟩
theorem Zb9 {c:GL1Cur} (xs:List Int) (hx:xs≠[]) (h:Z2 c):So (Yu c xs) fun r=>Z2 r.2∧r.1∈xs:=by
 obtain⟨r,c',e,h1,h2⟩:=Zjf xs hx h
 exact⟨_,e,h1,h2⟩
theorem Zjs {α:Type} {xs:List α} {i:Int} (h0:0≤i) (h1:i < (xs.length:Int)):So (idx xs i) fun a=>a∈xs:=Zmw h0 h1
theorem Zno {α:Type} (xs:List α) (i:Int) (a:α):So (setO xs i a) fun r=>r=xs.set i.toNat a:=⟨_,rfl,rfl⟩
theorem Znc {α:Type} (sz:Nat) (hz:sz≤1024) (xs ys:List α) (h:xs.length+ys.length≤1048600):So (appI sz xs ys) fun r=>r=xs++ys:=by
 have hb:(xs.length+ys.length)*sz≤140737488355328:=Nat.le_trans (Nat.mul_le_mul h hz) (by decide)
 exact⟨_,X8 hb (by omega),rfl⟩
theorem Zg0 {x0:GL1Cur} (h:Z2 x0):So (Kr x0) fun r=>Z2 r.2∧Ym r.1=true:=by
 unfold Kr
 refine (Yj 3 h).bind fun r1 ⟨h1,a1,b1,_⟩=>?_
 refine (Yj 3 h1).bind fun r2 ⟨h2,a2,b2,_⟩=>?_
 refine (Yj 3 h2).bind fun r3 ⟨h3,a3,b3,_⟩=>?_
 refine (Yj 6 h3).bind fun r4 ⟨h4,a4,b4,_⟩=>?_
 refine (Yj 12 h4).bind fun r5 ⟨h5,a5,b5,_⟩=>?_
 refine (Yj 4 h5).bind fun r6 ⟨h6,a6,b6,_⟩=>?_
 have b1:=b1 (by omega)
 have b2:=b2 (by omega)
 have b3:=b3 (by omega)
 have b4:=b4 (by omega)
 have b5:=b5 (by omega)
 have b6:=b6 (by omega)
 rw[Yr (by omega) (by omega),Yr (by omega) (by omega),Yr (by omega) (by omega),Yr (by omega) (by omega)]
 generalize r1.1=q at*
 generalize r2.1=w at*
 generalize r3.1=e at*
 generalize r4.1=s at*
 generalize r5.1=l at*
 have hcost:∀ms,Wf (GConf.mk ms (1+q) w e (1+s) (1+l))=(e+2)*(w+6):=fun ms=>by
  unfold Wf
  rw[if_pos (by simp only;omega)]
 have hcl:12≤(e+2)*(w+6)∧(e+2)*(w+6)≤32:=by
  obtain rfl|rfl|rfl:e=0∨e=1∨e=2:=by omega
  all_goals omega
 have hslot:∀ms,Yn (GConf.mk ms (1+q) w e (1+s) (1+l))=2*((e+2)*(w+6))+(1+l):=fun ms=>by
  unfold Yn
  rw[hcost,if_neg (by omega),if_pos (by simp only;omega)]
 generalize (e+2)*(w+6)=cost at*
 have key:∀(m k:Nat) (c:GL1Cur) (ms:List GMConf),Z2 c→k < m→1≤ms.length+k→ms.length+k≤4→(∀x∈ms,(1≤x.weight∧x.weight≤4)∧x.prio=false∧x.every=0∧x.cap=0)→So (X2 x0 m c (GConf.mk ms (1+q) w e (1+s) (1+l)) (k:Int)) fun r=>Z2 r.2∧Ym r.1=true:=by
  intro m
  induction m with
  | zero=>intro k _ _ _ h;omega
  | succ m ih=>
   intro k c ms hc hm hl1 hl2 hms
   have eL:X2 x0 (m+1) c (GConf.mk ms (1+q) w e (1+s) (1+l)) (k:Int)=Km x0 (X2 x0 m) c (GConf.mk ms (1+q) w e (1+s) (1+l)) (k:Int):=rfl
   rw[eL]
   unfold Km
   cases k with
   | succ k=>
    rw[if_pos (by simp)]
    refine (Yj 3 hc).bind fun r1 ⟨h1,a1,b1,_⟩=>?_
    have b1:=b1 (by omega)
    refine (Znc 32 (by decide) _ _ (by simp only[List.length_cons,List.length_nil];omega)).bind fun z hz=>?_
    rw[Zle (by omega) (by omega),show ((k+1:Nat):Int) - 1=(k:Int) by omega]
    subst hz
    refine ih k r1.2 _ h1 (by omega) (by simp;omega) (by simp;omega) fun x hx=>?_
    rw[List.mem_append,List.mem_singleton] at hx
    rcases hx with hx|rfl
    ·exact hms x hx
    ·refine⟨?_,rfl,rfl,rfl⟩
     show 1≤addW 1 r1.1∧addW 1 r1.1≤4
     rw[Yr (by omega) (by omega)]
     omega
   | zero=>
    have hgood:∀ys:List GMConf,ys.length=ms.length→(∀x∈ys,Y4 (GConf.mk ys (1+q) w e (1+s) (1+l)) x=true)→Ym (GConf.mk ys (1+q) w e (1+s) (1+l))=true:=by
     intro ys hy h
     unfold Ym
     rw[hslot]
     simp only[Bool.and_eq_true,decide_eq_true_eq,List.all_eq_true]
     refine⟨⟨⟨⟨?_,?_⟩,?_⟩,?_⟩,h⟩<;>omega
    rw[if_neg (by simp)]
    refine (Zq3 2 hc).bind fun r1 h1=>?_
    refine So.ite (fun _=>?_) fun _=>So.ret ⟨h1,hgood ms rfl fun x hx=>?_⟩
    ·refine (Yj (ms.length:Int) h1).bind fun r2 ⟨h2,a2,b2,_⟩=>?_
     have b2:=b2 (by omega)
     obtain⟨k,hk⟩:∃k:Nat,r2.1=(k:Int):=⟨r2.1.toNat,by omega⟩
     simp only[hk] at a2 b2 ⊢
     have hk2:k < ms.length:=by omega
     rw[Zl hk2,Option.bind_some,Zgl,Option.bind_some,Zbq,Option.bind_some,hslot]
     refine (Yj 30 h2).bind fun r3 ⟨h3,a3,b3,_⟩=>?_
     have b3:=b3 (by omega)
     rw[Int.toNat_natCast,Zl (by simpa using hk2),Option.bind_some,Zgl,Option.bind_some]
     refine (Yj 4 h3).bind fun r4 ⟨h4,a4,b4,_⟩=>?_
     have b4:=b4 (by omega)
     rw[Int.toNat_natCast,Zl (by simpa using hk2),Option.bind_some,Zgl,Option.bind_some,Int.toNat_natCast]
     refine So.ret ⟨h4,?_⟩
     simp only[List.getElem_set_self,List.set_set]
     rw[W1 (by omega) (by omega),Yr (by omega) (by omega),Yr (by omega) (by omega)]
     have hx:=hms _ (List.getElem_mem hk2)
     have hp:List.countP (fun x:GMConf=>x.prio) (ms.set k (GMConf.mk ms[k].weight true (2*(2*cost+(1+l))+r3.1) (1+r4.1)))=1:=by
      have h0:List.countP (fun x:GMConf=>x.prio) ms=0:=List.countP_eq_zero.2 fun x hx=>by simp[(hms x hx).2.1]
      rw[List.countP_set hk2,h0]
      simp[hx.2.1]
     refine hgood _ (by simp) fun x hx2=>?_
     rcases List.mem_or_eq_of_mem_set hx2 with hx2|rfl
     ·have:=hms x hx2
      unfold Y4
      rw[this.2.1]
      simp[this.1,this.2.2]
     ·unfold Y4
      simp only[hslot]
      unfold Yd
      rw[hp]
      simp only[if_true,Bool.and_eq_true,decide_eq_true_eq]
      refine⟨hx.1,⟨?_,?_⟩,?_⟩<;>omega
    ·have:=hms x hx
     unfold Y4
     rw[this.2.1]
     simp[this.1,this.2.2]
 rw[show (1:Int)+r6.1=((r6.1.toNat+1:Nat):Int) by omega]
 exact key FU (r6.1.toNat+1) r6.2 [] h6 (by have:=Ww;omega) (by simp) (by simp;omega) (by simp)
theorem Zpq {c:GL1Cur} (h:Z2 c):So (Za9 c) fun r=>Z2 r.2∧r.1.masters.length≤4:=by
 unfold Za9
 refine (Zg0 h).bind fun r1 ⟨h1,g1⟩=>?_
 have hl:=Zi2 g1
 refine (Yj 14 h1).bind fun r2 ⟨h2,_⟩=>?_
 refine So.ite (fun _=>?_) fun _=>So.ite (fun _=>?_) fun _=>So.ite (fun _=>?_) fun _=>So.ite (fun _=>?_) fun _=>So.ite (fun _=>?_) fun _=>So.ite (fun _=>?_) fun _=>So.ite (fun _=>?_) fun _=>?_
 ·refine (Zb9 _ (by simp) h2).bind fun r3 ⟨h3,_⟩=>?_
  refine (Zjs (by omega) (by omega)).bind fun a _=>?_
  refine (Zno _ _ _).bind fun y hy=>So.ret ⟨h3,?_⟩
  subst hy
  simp;omega
 ·refine (Zjs (by omega) (by omega)).bind fun a _=>?_
  refine (Zno _ _ _).bind fun y hy=>So.ret ⟨h2,?_⟩
  subst hy
  simp;omega
 ·exact (Zb9 _ (by simp) h2).bind fun r3 ⟨h3,_⟩=>So.ret ⟨h3,by simp;omega⟩
 ·exact (Zb9 _ (by simp) h2).bind fun r3 ⟨h3,_⟩=>So.ret ⟨h3,by simp;omega⟩
 ·exact (Zb9 _ (by simp) h2).bind fun r3 ⟨h3,_⟩=>So.ret ⟨h3,by simp;omega⟩
 ·exact So.ret ⟨h2,by simp⟩
 ·exact (Zb9 _ (by simp) h2).bind fun r3 ⟨h3,_⟩=>So.ret ⟨h3,by simp;omega⟩
 ·exact So.ret ⟨h2,by dsimp only;omega⟩
theorem Je {x:ByteArray} {a b:Int} (h0:0≤a) (h1:a≤b) (h2:b≤(x.size:Int)):So (subS x a b) fun y=>y.size≤x.size:=by
 obtain⟨m,rfl⟩:∃m:Nat,a=m:=⟨a.toNat,by omega⟩
 obtain⟨n,rfl⟩:∃n:Nat,b=n:=⟨b.toNat,by omega⟩
 obtain⟨y,e,hy⟩:=Ze5 (x:=x) (a:=m) (b:=n) (by omega) (by rw[←Z5];omega)
 refine⟨y,e,?_⟩
 show y.size≤x.size
 rw[Z5,hy,Z5,List.length_take,List.length_drop];omega
theorem Zcb {a b:ByteArray} (h:a.size+b.size < 9223372036854775808):So (catI a b) fun _=>True:=⟨_,Zb3 h,trivial⟩
theorem Zg5 (l:List Int):(strB l).size=l.length:=by rw[Z5];simp[strB,L8]
theorem Zg3 {c:GL1Cur} (h:Z2 c):So (Y7 c) fun r=>Z2 r.2:=by
 obtain⟨r,c',e,h1,_⟩:=Kj h
 exact⟨_,e,h1⟩
theorem Zn9 {x0:GL1Cur} {n:Int} (h:Z2 x0) (hn:0≤n∧n≤1000):So (J4 x0 n) fun r=>Z2 r.2∧(r.1.size:Int)≤n:=by
 unfold J4
 refine (Yj 4 h).bind fun r1 ⟨h1,_,_,_⟩=>?_
 refine (Yj _ h1).bind fun r2 ⟨h2,a2,b2,_⟩=>?_
 rw[Yr (by omega) (by omega)] at b2
 have b2:=b2 (by omega)
 have key:∀(m k:Nat) (c:GL1Cur) (v:List Int),Z2 c→k < m→(v.length:Int)+k≤n→So (Xe x0 n m c v r1.1 (k:Int)) fun r=>Z2 r.2∧(r.1.size:Int)≤n:=by
  intro m
  induction m with
  | zero=>intro k _ _ _ h;omega
  | succ m ih=>
   intro k c v hc hk hv
   show So (Ky x0 n (Xe x0 n m) c v r1.1 (k:Int)) _
   unfold Ky
   cases k with
   | zero=>
    rw[if_neg (by simp)]
    exact So.ret ⟨hc,by show ((strB v).size:Int)≤n;rw[Zg5];omega⟩
   | succ k=>
    rw[if_pos (by simp)]
    refine (Zg3 hc).bind fun q hq=>?_
    have next:∀b:Int,So (Wv x0 n (Xe x0 n m) q.2 v r1.1 ((k+1:Nat):Int) b) fun r=>Z2 r.2∧(r.1.size:Int)≤n:=fun b=>by
     unfold Wv
     refine (Znc 1 (by decide) _ _ (by simp;omega)).bind fun z hz=>?_
     rw[Zle (by omega) (by omega),show ((k+1:Nat):Int) - 1=(k:Int) by omega]
     refine ih k _ _ hq (by omega) (by rw[hz];simp;omega)
    have j2:∀b:Int,So (W0 x0 n (Xe x0 n m) q.2 v r1.1 ((k+1:Nat):Int) b) fun r=>Z2 r.2∧(r.1.size:Int)≤n:=fun b=>by
     unfold W0
     exact So.ite (fun _=>next _) fun _=>next _
    exact So.ite (fun _=>j2 _) fun _=>j2 _
 obtain⟨k,hk⟩:∃k:Nat,r2.1=(k:Int):=⟨r2.1.toNat,by omega⟩
 rw[hk]
 exact key FU k r2.2 [] h2 (by have:=Ww;omega) (by simp;omega)
theorem Zmf {c:GL1Cur} {x:ByteArray} (h:Z2 c) (hx:x.size≤1000000):So (Jm c x) fun r=>Z2 r.2∧r.1.size≤2*x.size+3:=by
 unfold Jm
 refine So.ite (fun _=>?_) fun h0=>?_
 ·refine (Zn9 h (n:=3) (by omega)).bind fun r ⟨h1,h2⟩=>So.ret ⟨h1,by show r.1.size≤_;omega⟩
 ·have h0:x.size≠0:=by simpa using h0
  refine (Yj _ h).bind fun r1 ⟨h1,a1,b1,_⟩=>?_
  have b1:=b1 (by omega)
  refine (Yj 4 h1).bind fun r2 ⟨h2,_,_,_⟩=>?_
  have ha:addW r1.1 1=r1.1+1:=Yr (by omega) (by omega)
  rw[ha]
  have s1:∀z:Int,(strB [z]).size=1:=fun z=>by rw[Zg5];rfl
  refine So.ite (fun _=>?_) fun _=>So.ite (fun _=>?_) fun _=>So.ite (fun _=>?_) fun _=>?_
  ·refine (Je (by omega) (by omega) (by omega)).bind fun y hy=>?_
   refine (Je (by omega) (by omega) (by omega)).bind fun w hw=>?_
   refine (Zcb (by omega)).bind fun _ _=>So.ret ⟨h2,?_⟩
   show (y++w).size≤_
   rw[Xg];omega
  ·refine (Je (by omega) (by omega) (by omega)).bind fun y hy=>?_
   refine (Zg3 h2).bind fun q hq=>?_
   refine (Zcb (by rw[s1];omega)).bind fun _ _=>?_
   refine (Je (by omega) (by omega) (by omega)).bind fun w hw=>?_
   refine (Zcb (by rw[Xg,s1];omega)).bind fun _ _=>So.ret ⟨hq,?_⟩
   show ((y++_)++w).size≤_
   rw[Xg,Xg,s1];omega
  ·refine (Je (by omega) (by omega) (by omega)).bind fun y hy=>So.ret ⟨h2,?_⟩
   show y.size≤_
   omega
  ·refine (Je (by omega) (by omega) (by omega)).bind fun y hy=>?_
   obtain⟨k,hk⟩:∃k:Nat,r1.1=(k:Int):=⟨r1.1.toNat,by omega⟩
   obtain⟨v,hat⟩:∃v,atS x r1.1=some v:=by rw[hk];exact⟨_,Jj (by rw[←Z5];omega)⟩
   rw[hat,Option.bind_some]
   refine (Yj 255 h2).bind fun q ⟨hq,_,_,_⟩=>?_
   refine (Zcb (by rw[s1];omega)).bind fun _ _=>?_
   refine (Je (by omega) (by omega) (by omega)).bind fun w hw=>?_
   refine (Zcb (by rw[Xg,s1];omega)).bind fun _ _=>So.ret ⟨hq,?_⟩
   show ((y++_)++w).size≤_
   rw[Xg,Xg,s1];omega
theorem Zl8 {c:GL1Cur} (xs:List ByteArray) (hx:xs≠[]) (h:Z2 c):So (J9 c xs) fun r=>Z2 r.2∧r.1∈xs:=by
 unfold J9
 have hl:0 < xs.length:=List.length_pos_iff.2 hx
 refine (Yj _ h).bind fun r ⟨h1,a1,b1,_⟩=>?_
 have b1:=b1 (by omega)
 exact (Zjs a1 b1).bind fun a ha=>So.ret ⟨h1,ha⟩
theorem Ziy {c:GConf} (h:Ym c=true):(Xa c).length≤1000:=by
 obtain⟨hq,hw,hr,hs,hk,hn,hm⟩:=Zds h
 unfold Xa Zd5
 have:=Xo (x:=c.quantum) ⟨by omega,by omega⟩;have:=Xo (x:=c.maxWait) ⟨by omega,by omega⟩;have:=Xo (x:=c.maxRetry) ⟨by omega,by omega⟩
 have:=Xo (x:=c.maxSplit) ⟨by omega,by omega⟩;have:=Xo (x:=c.lockMost) ⟨by omega,by omega⟩
 have hf:∀l:List GMConf,(∀m∈l,m∈c.masters)→(l.flatMap fun m=>[32]++mW m).length≤63*l.length:=by
  intro l
  induction l with
  | nil=>intro _;simp
  | cons m l ih=>
   intro hh
   have h1:=ih fun x hx=>hh x (List.mem_cons_of_mem _ hx)
   obtain⟨⟨m1,m2⟩,⟨m3,m4⟩,⟨m5,m6⟩,_⟩:=hm m (hh m List.mem_cons_self)
   have h2:=Zls (m:=m) ⟨by omega,by omega⟩ ⟨by omega,by omega⟩ ⟨by omega,by omega⟩
   rw[List.flatMap_cons,List.length_append,List.length_cons]
   simp only[List.length_append,List.length_cons,List.length_nil];omega
 have:=hf c.masters fun _ h=>h
 simp only[List.length_append,List.length_cons,List.length_nil];omega
theorem Zf3 (x:List Int) (hl:x.length < 1048577):So (W6 x) fun r=>r.size≤1048576:=by
 unfold W6
 refine So.bind (Zi0 x hl) fun r0 h0=>?_
 refine (Zg0 h0).bind fun r1 ⟨h1,g1⟩=>?_
 have hlen:=Zla g1
 rw[Zdb hlen,if_pos g1,Option.bind_some]
 have hz:(⟨(Xa r1.1).toArray⟩:ByteArray).size≤1000:=by rw[Z5,Zhv (Xa r1.1)];exact Ziy g1
 refine (Yj 4 h1).bind fun r3 ⟨h3,_,_,_⟩=>?_
 refine So.ite (fun _=>?_) fun _=>So.ite (fun _=>?_) fun _=>So.ret (by omega)
 ·refine (Zmf h3 (by omega)).bind fun r ⟨_,h⟩=>So.ret (by show r.1.size≤_;omega)
 ·refine (Zl8 _ (by simp) h3).bind fun r ⟨_,h⟩=>So.ret ?_
  simp only[List.mem_cons,List.not_mem_nil,or_false] at h
  rcases h with h|h|h|h|h|h|h|h<;>(show r.1.size≤_;rw[h];decide)
theorem Zfg (c:GConf) (hl:c.masters.length < 1048577):K9 c c=some true:=by
 unfold K9
 rw[if_neg (by simp)]
 refine Zic (n:=c.masters.length) (by omega) (B:=fun κ i=>Wr c c κ i) (L:=fun m i=>W2 c c m i) (fun m i=>rfl) (fun k hk κ=>?_) fun κ=>?_
 ·unfold Wr
  rw[if_pos (by simpa using hk),Zl hk,Option.bind_some,Option.bind_some,if_neg (by simp)]
 ·unfold Wr
  rw[if_neg (by simp)];simp
theorem Zf8 (c:GConf) (hl:c.masters.length < 1048577):Jc c c=some true:=by
 unfold Jc Xu
 rw[if_neg (by simp)]
 have:Z3 c.masters c.masters FU 0=some true:=by
  refine Zic (n:=c.masters.length) (by omega) (B:=fun κ i=>Yh c.masters c.masters κ i) (L:=fun m i=>Z3 c.masters c.masters m i) (fun m i=>rfl) (fun k hk κ=>?_) fun κ=>?_
  ·unfold Yh
   rw[if_pos (by simpa using hk),Zl hk,Option.bind_some,Option.bind_some,if_neg (by simp)]
  ·unfold Yh
   rw[if_neg (by simp)]
 rw[this];simp
theorem Zhm (x:List Int) (h:x.length≤maxLen∧∀v∈x,(Lit.int .u8 v).wf=true):Zbu x=some true:=by
 unfold Zbu
 rw[show Zgi x=some (decide ((x.length:Int) > 1048576)) from rfl,Option.bind_some]
 by_cases hb:(x.length:Int) > 1048576
 ·rw[if_pos (by simpa using hb)]
 ·have hl:x.length < 1048577:=by omega
  rw[if_neg (by simpa using hb)]
  have d1:So (W4 x) fun r=>r.masters.length≤4:=by
   unfold W4
   refine So.bind (Zi0 x hl) fun r0 h0=>?_
   exact (Zpq h0).bind fun r1 ⟨_,h1⟩=>So.ret h1
  obtain⟨c,e1,hc⟩:=d1
  obtain⟨s,e4,hs⟩:=Zf3 x hl
  obtain⟨r,t1,t2,t3⟩:=Zhr hs
  have hcl:c.masters.length < 1048577:=by omega
  rw[e1,Option.bind_some,J0 hcl,Option.bind_some,e4]
  simp only[Option.bind_some,t1,t2,Zeg c hcl,Zbr c hcl]
  have fin:(if (!r.2)=true then some true else (Y8 r.1).bind fun r9=>some (r9.toList == s.toList))=some true:=by
   rcases t3 with rfl|⟨hr,hg,ht⟩
   ·rfl
   ·rw[if_neg (by simp[hr]),J0 (Zla hg),if_pos hg,Option.bind_some,Lib.toList_data,Lib.toList_data]
    exact congrArg some (beq_iff_eq.2 ht.symm)
  by_cases hg:Ym c=true
  ·have hr3:Ys ⟨(Xa c).toArray⟩=some (c,true):=Zaw ⟨hg,rfl⟩ (by rw[Z5,Zhv (Xa c)];have:=Ziy hg;omega)
   rw[if_pos hg,hr3]
   simp only[Option.bind_some,hg,Zfg c hcl,Zf8 c hcl,beq_self_eq_true,if_true,Bool.not_true,Bool.false_eq_true,if_false]
   exact fin
  ·have hr3:Ys ByteArray.empty=some (GConf.z0,false):=by
    obtain⟨q,q1,q2⟩:=Zal (x:=ByteArray.empty) (by decide)
    rcases q2 with rfl|⟨_,_,q3⟩
    ·exact q1
    ·exact absurd q3.symm (Zjo _)
   have hg':Ym c=false:=by simpa using hg
   rw[if_neg hg,hr3]
   simp only[Option.bind_some,hg',beq_self_eq_true,if_true,Bool.not_false]
   exact fin
end Go.Proofs.YtlcfolgfmlgncaaDoor.Ev
